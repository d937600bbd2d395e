/- The plain law: what the functions compute answers as the statement says. -/
import Derived.Test.YtcjbfnojhpfchaaGreatDoorPlainC
set_option linter.all false
namespace Go.Ab.Y
open Go Go.Ab Go.Proofs
abbrev n7:=Int×List bo×jI×List bL×b7×List bh×List Request×Int
def MZ:eB n7:=dO iQ λ_=>dO BZ λ_=>dO UR λ_=>dO vu λ_=>dO vq λ_=>dO x8 λ_=>dO pM λ_=>ig
def iv(p:n7):aux:=mO p.1++(ea ll p.2.1++(ea gd p.2.2.1++(ea lm p.2.2.2.1++(oU p.2.2.2.2.1++(ea n4 p.2.2.2.2.2.1++(ea jJ p.2.2.2.2.2.2.1++jx p.2.2.2.2.2.2.2))))))
structure tJ(p:n7):Prop where
 pos:e6 p.1
 kU:(p.2.1.length≤2147483647∧∀v∈p.2.1,sb v)∧mf p.2.1=true
 src:p.2.2.1.length≤16∧∀s∈p.2.2.1,s.length≤16384
 n5:(p.2.2.2.1.length≤32∧∀v∈p.2.2.2.1,qU v)∧n1 p.2.2.2.1=true
 ya:(e6 p.2.2.2.2.1.Version∧p.2.2.2.2.1.aD.length≤16∧∀v∈p.2.2.2.2.1.aD,qT v)∧nn p.2.2.2.2.1=true
 aF:p.2.2.2.2.2.1.length≤32∧∀h∈p.2.2.2.2.2.1,h.Key.length≤24∧e6 h.Count
 n6:p.2.2.2.2.2.2.1.length≤64∧∀v∈p.2.2.2.2.2.2.1,n3 v∧tE v=true
 UX:hV p.2.2.2.2.2.2.2
def UY:el MZ iv tJ:=
 (kT.dep λ_ _=>MJ.dep λ_ _=>apH.dep λ_ _=>MQ.dep λ_ _=>MK.dep λ_ _=>apG.dep λ_ _=>MU.dep λ_ _=>mR).as _ _
  (λv=>⟨λh=>⟨h.pos,h.kU,h.src,h.n5,h.ya,h.aF,h.n6,h.UX⟩,λh=>⟨h.1,h.2.1,h.2.2.1,h.2.2.2.1,h.2.2.2.2.1,h.2.2.2.2.2.1,h.2.2.2.2.2.2.1,h.2.2.2.2.2.2.2⟩⟩) (λv _=>rfl)
def ap9{k:Nat}{t:aux}{e:Int}(h:qQ k t = .error e):e≠0:=by
 unfold qQ fV at h;cases ab:jf k t with
 |error f=>rw [ab]at h;cases h;exact oS ab
 |ok r=>rw [ab]at h;cases h
def h7{α:Type}(z:α)(s:aux)(a:Int):Except Int (α×aux)→α×Int×Int
 |.ok (v,t)=>(v,bu s t,0)
 |.error e=>(z,a,e)
section
variable {n:Nat} (hn:3000000≤n) (aI:n≤1000000000) {s:aux} (hs:s.length<n)
theorem vv{α:Type}{z:α}{D:eB α}{t:aux}{a:Int}(h0:∀e,D t = .error e→e≠0):(bif (!decide ((res z s (D t)).2.2=0))then some (z,a,(res z s (D t)).2.2)else some ((res z s (D t)).1,(res z s (D t)).2.1,(res z s (D t)).2.2))=some (h7 z s a (D t)):=by
 cases h:D t with
 |error e=>rw [fH];simp only [gK (h0 e h),aui];rfl
 |ok r=>obtain⟨v,bS⟩:=r;rfl
theorem ap'{a e:Int}(he:e≠0):w6 n ⟨s,a,e⟩=some (0,a,e):=by unfold w6;simp only [gK he,aui]
theorem ap_{a e:Int}(he:e≠0):zH n ⟨s,a,e⟩=some ([],a,e):=by unfold zH;simp only [gK he,aui]
theorem Gt{p a e:Int}(he:e≠0):w5 n p ⟨s,a,e⟩=some (0,a,e):=by unfold w5;simp only [gK he,aui]
theorem aqa{a e:Int}(he:e≠0):zS n ⟨s,a,e⟩=some ([],a,e):=by unfold zS;simp only [gK he,aui]
theorem adp{a e:Int}(he:e≠0):zJ n ⟨s,a,e⟩=some (⟨0,[]⟩,a,e):=by unfold zJ;simp only [gK he,aui]
theorem aqb{a e:Int}(he:e≠0):zP n ⟨s,a,e⟩=some ([],a,e):=by unfold zP;simp only [gK he,aui]
theorem adq{a e:Int}(he:e≠0):zT n ⟨s,a,e⟩=some (0,a,e):=by unfold zT;simp only [gK he,aui]
include hn aI hs
theorem adr{t:aux}(aF:t <:+ s):w6 n ⟨s,bu s t,0⟩=some (h7 0 s (bu s t) (iQ t)):=by
 unfold w6;simp only [aug,auk,auj];rw [Uz aF (by omega) (by omega),ak];exact vv (λe h=>kT.db _ _ h)
theorem aqc{t:aux}(aF:t <:+ s):zH n ⟨s,bu s t,0⟩=some (h7 [] s (bu s t) (BZ t)):=by
 unfold zH;simp only [aug,auk,auj];rw [apv (by omega) aI hs aF,ak];exact vv (λe h=>MJ.db _ _ h)
theorem ads{k:Nat}(hk:k≤1000){t:aux}(aF:t <:+ s):w5 n (k:Int) ⟨s,bu s t,0⟩=some (h7 0 s (bu s t) (qQ k t)):=by
 unfold w5 QI;simp only [aug,auk,auj];rw [vj aF (by omega) (by omega) (by omega),ak,ak];exact vv (λe h=>ap9 h)
theorem adt{k:Nat}(hk:k≤20000){t:aux}(aF:t <:+ s):D_ n (k:Int) ⟨s,bu s t,0⟩=some (h7 [] s (bu s t) (f9 k t)):=by
 unfold D_ QJ;simp only [aug,auk,auj];rw [Gk aF (by omega) (by omega) (by omega),ak,ak];exact vv (λe h=>(BN k (by omega)).db _ _ h)
theorem aqd{t:aux}(aF:t <:+ s):zS n ⟨s,bu s t,0⟩=some (h7 [] s (bu s t) (vu t)):=by
 unfold zS;simp only [aug,auk,auj];rw [apD (by omega) aI hs aF,ak];exact vv (λe h=>MQ.db _ _ h)
theorem aqe{t:aux}(aF:t <:+ s):zJ n ⟨s,bu s t,0⟩=some (h7 ⟨0,[]⟩ s (bu s t) (vq t)):=by
 unfold zJ;simp only [aug,auk,auj];rw [apy (by omega) aI hs aF,ak];exact vv (λe h=>MK.db _ _ h)
theorem aqf{t:aux}(aF:t <:+ s):zP n ⟨s,bu s t,0⟩=some (h7 [] s (bu s t) (pM t)):=by
 unfold zP;simp only [aug,auk,auj];rw [apS (by omega) aI hs aF,ak];exact vv (λe h=>MU.db _ _ h)
theorem aqg{t:aux}(aF:t <:+ s):zT n ⟨s,bu s t,0⟩=some (h7 0 s (bu s t) (ig t)):=by
 unfold zT;simp only [aug,auk,auj];rw [BQ aF (by omega) (by omega),ak];exact vv (λe h=>mR.db _ _ h)
theorem aqh{b:fp}(hb:b.s=s){r1 r26 r27 r2 v25}{a e:Int}{l:List bh}(he:e≠0):lS e (uC n b r1 r26 r27 r2 v25 a e l):=by
 unfold uC;rw [aqb he,ak,adq he,ak];exact⟨_,_,rfl⟩
theorem B5{b:fp}(hb:b.s=s){r1 r26 r27 r2 v25}{a e c:Int}{l:List bh}{m:Nat}(he:e≠0):lS e (rA n b r1 r26 r27 r2 v25 (m+1) a e l c):=by
 have sE:decide (e=0)=false:=decide_eq_false he;simp only [rA,Eb,sE,eg,Bool.and_false,auj];exact aqh hn aI hs hb he
theorem aqi{b:fp}(hb:b.s=s){r1 r2}{a e:Int}{l:jI}(he:e≠0):lS e (uD n b r1 r2 a e l):=by
 unfold uD zC;rw [aqa he,ak,adp he,ak,ak,Gt he,ak];obtain⟨m,rfl⟩:∃j,n=j+1:=⟨n-1,by omega⟩
 exact B5 hn aI hs hb he
theorem M0{b:fp}(hb:b.s=s){r1 r2}{a e c:Int}{l:jI}{m:Nat}(he:e≠0):lS e (uE n b r1 r2 (m+1) a e l c):=by
 have sE:decide (e=0)=false:=decide_eq_false he;simp only [uE,Ec,sE,eg,Bool.and_false,auj];exact aqi hn aI hs hb he
theorem aqj{b:fp}(hb:b.s=s){r1:Int×Int×Int}{r26:List bL×Int×Int}{r27:b7×Int×Int}{r2:List bo×Int×Int}{v25:jI}{l:List bh}{t:aux}(aF:t <:+ s):
 match dO pM (λ_=>ig) t with|.ok (p,bS)=>uC n b r1 r26 r27 r2 v25 (bu s t) 0 l=some (⟨⟨r1.1,⟨0,0,[]⟩,[],r26.1,r27.1,l,p.1,p.2⟩,r2.1,v25⟩,bu s bS,0)|.error e=>lS e (uC n b r1 r26 r27 r2 v25 (bu s t) 0 l):=by
 unfold uC dO;rw [hb,aqf hn aI hs aF,ak];cases g1:pM t with
 |error e=>
  have he:=MU.db _ _ g1;simp only [h7];rw [adq he,ak];exact⟨_,_,rfl⟩
 |ok r=>
  obtain⟨dA,t1⟩:=r;have ku:=jg MU g1 aF;simp only [h7];rw [aqg hn aI hs ku,ak];cases g2:ig t1 with
  |error e=>exact⟨_,_,rfl⟩
  |ok r=>rfl
theorem aqk{b:fp}(hb:b.s=s){r1:Int×Int×Int}{r26:List bL×Int×Int}{r27:b7×Int×Int}{r2:List bo×Int×Int}{v25:jI}{u:Nat}(hu:u<n){t:aux}(aF:t <:+ s):
 match dO (hA (fV (λp=>(⟨p.1,p.2⟩:bh)) (dO (f9 24) λ_=>iQ)) u) (λ_=>dO pM (λ_=>ig)) t with|.ok (p,bS)=>rA n b r1 r26 r27 r2 v25 n (bu s t) 0 [] (u:Int)=some (⟨⟨r1.1,⟨0,0,[]⟩,[],r26.1,r27.1,p.1,p.2.1,p.2.2⟩,r2.1,v25⟩,bu s bS,0)|.error e=>lS e (rA n b r1 r26 r27 r2 v25 n (bu s t) 0 [] (u:Int)):=by
 have c8:=vo (L:=λm i t acc=>rA n b r1 r26 r27 r2 v25 m (bu s t) 0 acc ((u-i:Nat):Int)) (f:=λ_ v=>v) (D:=fV (λp=>(⟨p.1,p.2⟩:bh)) (dO (f9 24) λ_=>iQ)) (u:=u) (s:=s) (fin:=λacc t=>uC n b r1 r26 r27 r2 v25 (bu s t) 0 acc) (bad:=λe x=>lS e x) (λx v t hx=>UQ.lR hx) (by
  intro m i t acc hm hi ha aF;have hc:(0:Int)<((u-i:Nat):Int):=by omega
  simp only [rA,Eb,hc,aug,aui,Ea,ak];rw [hb,show(24:Int)=((24:Nat):Int)from rfl,adt hn aI hs (by omega) aF,ak]
  have gm:room (acc.length+1) 24=true:=lj (by omega)
  obtain⟨m,rfl⟩:∃j,m=j+1:=⟨m-1,by omega⟩
  unfold fV dO;cases g1:f9 24 t with
  |error e=>
   have he:=n0.db _ _ g1;simp only [h7];rw [ap' he,ak];simp only [aur,show(((24:Nat):Int)).toNat=24 from rfl,gm,aK]
   exact B5 hn aI hs hb he
  |ok r=>
   obtain⟨dA,t1⟩:=r;have ku:=jg n0 g1 aF;simp only [h7];rw [adr hn aI hs ku,ak];cases g2:iQ t1 with
   |error e=>
    have he:=kT.db _ _ g2;simp only [h7,aur,gm,aK];exact B5 hn aI hs hb he
   |ok r=>
    obtain⟨ey,t2⟩:=r;simp only [h7,aur,gm,aK];rw [show auz (((u-i:Nat):Int)-1)=((u-(i+1):Nat):Int)by rw [wr]<;>omega]) (by
  intro m t acc ha aF;simp only [rA,Eb,Nat.sub_self,show¬ (0:Int)<((0:Nat):Int)by omega,auh,auj]) u n 0 t [] (by omega) hu rfl aF
 simp only [Nat.sub_zero]at c8;unfold dO;cases ai:hA (fV (λp=>(⟨p.1,p.2⟩:bh)) (dO (f9 24) λ_=>iQ)) u t with
 |error e=>unfold dO at ai;rw [ai];unfold dO at c8;rw [ai]at c8;exact c8
 |ok r=>
  obtain⟨l,nl⟩:=r;have UZ:=jg (UQ.rep u) ai aF;rw [ai]at c8;unfold dO at ai;rw [ai];simp only [List.nil_append,vp]at c8 ⊢;rw [c8];have hj:=aqj hn aI hs hb (r1:=r1) (r26:=r26) (r27:=r27) (r2:=r2) (v25:=v25) (l:=l) UZ;unfold dO at hj;cases g:pM nl with
  |error e=>rw [g]at hj;exact hj
  |ok r=>
   obtain⟨q,t1⟩:=r;rw [g]at hj;simp only at hj ⊢
   cases e4:ig t1 with
   |error e=>rw [e4]at hj;exact hj
   |ok r=>rw [e4]at hj;exact hj
end
def tK{α β:Type}{D:eB α}{k:α→eB β}{t:aux}{e:Int}(h:D t = .error e):dO D k t = .error e:=by unfold dO;rw [h]
def yb{α β:Type}{D:eB α}{k:α→eB β}{t bS:aux}{v:α}(h:D t = .ok (v,bS)):dO D k t=match k v bS with|.ok (w,u)=>.ok ((v,w),u)|.error e=>.error e:=by unfold dO;rw [h];rfl
def adu{t:aux}:x8 t=match jf 32 t with|.ok (u,t)=>hA (fV (λp=>(⟨p.1,p.2⟩:bh)) (dO (f9 24) λ_=>iQ)) u t|.error e=>.error e:=rfl
abbrev tailD:eB (List bL×b7×List bh×List Request×Int):=dO vu λ_=>dO vq λ_=>dO x8 λ_=>dO pM λ_=>ig
section
variable {n:Nat} (hn:3000000≤n) (aI:n≤1000000000) {s:aux} (hs:s.length<n)
include hn aI hs
theorem aql{b:fp}(hb:b.s=s){r1:Int×Int×Int}{r2:List bo×Int×Int}{v25:jI}{t:aux}(aF:t <:+ s):
 match tailD t with|.ok (p,bS)=>uD n b r1 r2 (bu s t) 0 v25=some (⟨⟨r1.1,⟨0,0,[]⟩,[],p.1,p.2.1,p.2.2.1,p.2.2.2.1,p.2.2.2.2⟩,r2.1,v25⟩,bu s bS,0)|.error e=>lS e (uD n b r1 r2 (bu s t) 0 v25):=by
 unfold uD zC tailD;obtain⟨se,kg⟩:∃j,n=j+1:=⟨n-1,by omega⟩
 rw [hb,aqd hn aI hs aF,ak];cases g1:vu t with
 |error e=>
  have he:=MQ.db _ _ g1;rw [tK g1];simp only [h7];rw [adp he,ak,ak,Gt he,ak];have:=B5 hn aI hs hb (r1:=r1) (r26:=([],bu s t,e)) (r27:=(⟨0,[]⟩,bu s t,e)) (r2:=r2) (v25:=v25) (a:=bu s t) (c:=0) (l:=[]) (m:=se) he
  rw [←kg]at this;exact this
 |ok r=>
  obtain⟨dA,t1⟩:=r;have ku:=jg MQ g1 aF;rw [yb g1];simp only [h7];rw [aqe hn aI hs ku,ak,ak];cases g2:vq t1 with
  |error e=>
   have he:=MK.db _ _ g2;rw [tK g2];simp only [h7];rw [Gt he,ak];have:=B5 hn aI hs hb (r1:=r1) (r26:=(dA,bu s t1,0)) (r27:=(⟨0,[]⟩,bu s t1,e)) (r2:=r2) (v25:=v25) (a:=bu s t1) (c:=0) (l:=[]) (m:=se) he
   rw [←kg]at this;exact this
  |ok r=>
   obtain⟨ey,t2⟩:=r;have jR:=jg MK g2 ku;rw [yb g2];simp only [h7];rw [show(32:Int)=((32:Nat):Int)from rfl,ads hn aI hs (by omega) jR,ak]
   cases h:jf 32 t2 with
   |error e=>
    have he:=oS h;have bn:x8 t2 = .error e:=by rw [adu,h]
    rw [tK bn,r5 h];simp only [h7];have:=B5 hn aI hs hb (r1:=r1) (r26:=(dA,bu s t1,0)) (r27:=(ey,bu s t2,0)) (r2:=r2) (v25:=v25) (a:=bu s t2) (c:=0) (l:=[]) (m:=se) he
    rw [←kg]at this;exact this
   |ok r=>
    obtain⟨u,bS⟩:=r;obtain⟨Z,ab,aj⟩:=pG h;have eM:bS <:+ s:=List.IsSuffix.trans ⟨e_ u,Z.symm⟩ jR;have hu:=eM.length_le;rw [r4 h];simp only [h7];have c8:=aqk hn aI hs hb (r1:=r1) (r26:=(dA,bu s t1,0)) (r27:=(ey,bu s t2,0)) (r2:=r2) (v25:=v25) (u:=u) (by omega) eM
    have bn:x8 t2=hA (fV (λp=>(⟨p.1,p.2⟩:bh)) (dO (f9 24) λ_=>iQ)) u bS:=by rw [adu,h]
    cases ai:hA (fV (λp=>(⟨p.1,p.2⟩:bh)) (dO (f9 24) λ_=>iQ)) u bS with
    |error e=>
     rw [tK ai]at c8;rw [ai]at bn;rw [tK bn];exact c8
    |ok r=>
     obtain⟨l,nl⟩:=r;rw [yb ai]at c8;rw [ai]at bn;rw [yb bn];cases g:dO pM (λ_=>ig) nl with
     |error e=>rw [g]at c8;exact c8
     |ok r=>rw [g]at c8;exact c8
theorem aqm:match MZ s with|.ok (p,bS)=>Ed n ⟨s,0,0⟩=some (⟨⟨p.1,⟨0,0,[]⟩,[],p.2.2.2.1,p.2.2.2.2.1,p.2.2.2.2.2.1,p.2.2.2.2.2.2.1,p.2.2.2.2.2.2.2⟩,p.2.1,p.2.2.1⟩,bu s bS,0)|.error e=>lS e (Ed n ⟨s,0,0⟩):=by
 unfold Ed zC MZ;obtain⟨se,kg⟩:∃j,n=j+1:=⟨n-1,by omega⟩
 have hb:(⟨s,0,0⟩:fp).s=s:=rfl;have aF:s <:+ s:=List.suffix_refl s;rw [show(⟨s,0,0⟩:fp)=⟨s,bu s s,0⟩by rw [aoN],adr hn aI hs aF,ak]
 generalize cN:(⟨s,bu s s,0⟩:fp)=B
 have hb:B.s=s:=by rw [←cN]
 rw [hb];cases g1:iQ s with
 |error e=>
  have he:=kT.db _ _ g1;rw [tK g1];simp only [h7];rw [ap_ he,ak,ak,Gt he,ak];have:=M0 hn aI hs hb (r1:=(0,bu s s,e)) (r2:=([],bu s s,e)) (a:=bu s s) (c:=0) (l:=[]) (m:=se) he
  rw [←kg]at this;exact this
 |ok r=>
  obtain⟨dA,t1⟩:=r;have ku:=jg kT g1 aF;rw [yb g1];simp only [h7];rw [aqc hn aI hs ku,ak,ak];cases g2:BZ t1 with
  |error e=>
   have he:=MJ.db _ _ g2;rw [tK g2];simp only [h7];rw [Gt he,ak];have:=M0 hn aI hs hb (r1:=(dA,bu s t1,0)) (r2:=([],bu s t1,e)) (a:=bu s t1) (c:=0) (l:=[]) (m:=se) he
   rw [←kg]at this;exact this
  |ok r=>
   obtain⟨ey,t2⟩:=r;have jR:=jg MJ g2 ku;rw [yb g2];simp only [h7];rw [show(16:Int)=((16:Nat):Int)from rfl,ads hn aI hs (by omega) jR,ak]
   have iY:UR t2=match jf 16 t2 with|.ok (u,t)=>hA (f9 16384) u t|.error e=>.error e:=rfl
   cases h:jf 16 t2 with
   |error e=>
    have he:=oS h;rw [h]at iY;rw [tK iY,r5 h];simp only [h7];have:=M0 hn aI hs hb (r1:=(dA,bu s t1,0)) (r2:=(ey,bu s t2,0)) (a:=bu s t2) (c:=0) (l:=[]) (m:=se) he
    rw [←kg]at this;exact this
   |ok r=>
    obtain⟨u,bS⟩:=r;obtain⟨Z,ab,aj⟩:=pG h;have eM:bS <:+ s:=List.IsSuffix.trans ⟨e_ u,Z.symm⟩ jR;have hu:=eM.length_le;rw [h]at iY;rw [r4 h];simp only [h7]
    have c8:=vo (L:=λm i t acc=>uE n B (dA,bu s t1,0) (ey,bu s t2,0) m (bu s t) 0 acc ((u-i:Nat):Int)) (f:=λ_ v=>v) (D:=f9 16384) (u:=u) (s:=s) (fin:=λacc t=>uD n B (dA,bu s t1,0) (ey,bu s t2,0) (bu s t) 0 acc) (bad:=λe x=>lS e x) (λx v t hx=>MV.lR hx) (by
     intro m i t acc hm hi ha aF;have hc:(0:Int)<((u-i:Nat):Int):=by omega
     simp only [uE,Ec,hc,aug,aui,Ea,ak];rw [hb,show(16384:Int)=((16384:Nat):Int)from rfl,adt hn aI hs (by omega) aF,ak]
     have gm:room (acc.length+1) 16=true:=lj (by omega)
     obtain⟨m,rfl⟩:∃j,m=j+1:=⟨m-1,by omega⟩
     cases g1:f9 16384 t with
     |error e=>
      have he:=MV.db _ _ g1;simp only [h7,aur,gm,aK];exact M0 hn aI hs hb he
     |ok r=>
      obtain⟨dA,t1⟩:=r;simp only [h7,aur,gm,aK];rw [show auz (((u-i:Nat):Int)-1)=((u-(i+1):Nat):Int)by rw [wr]<;>omega]) (by
     intro m t acc ha aF;simp only [uE,Ec,Nat.sub_self,show¬ (0:Int)<((0:Nat):Int)by omega,auh,auj]) u n 0 bS [] (by omega) (by omega) rfl eM
    simp only [Nat.sub_zero]at c8;cases ai:hA (f9 16384) u bS with
    |error e=>
     rw [ai]at c8;simp only at iY
     rw [ai]at iY;rw [tK iY];exact c8
    |ok r=>
     obtain⟨l,nl⟩:=r;have UZ:=jg (MV.rep u) ai eM;rw [ai]at c8;simp only at iY
     rw [ai]at iY;rw [yb iY];simp only [List.nil_append,vp]at c8 ⊢;rw [c8];have hj:=aql hn aI hs hb (r1:=(dA,bu s t1,0)) (r2:=(ey,bu s t2,0)) (v25:=l) UZ;unfold tailD at hj;cases g:(dO vu λ_=>dO vq λ_=>dO x8 λ_=>dO pM λ_=>ig) nl with
     |error e=>rw [g]at hj;exact hj
     |ok r=>rw [g]at hj;exact hj
end
abbrev M1:bU:=⟨0,⟨0,0,[]⟩,[],[],⟨0,[]⟩,[],[],0⟩
def aqn(l:List bo)(a:Int)(i:Nat)(hi:i<l.length):((ii l a).Rows.getD i default)=⟨(l.getD i default).Key,[⟨a,(l.getD i default).br⟩]⟩:=by
 unfold ii;simp [List.getD_eq_getElem?_getD,hi]
def aqo{n:Nat}(hn:2000≤n){l:List bo}(aa:l.length<n)(h:∀p∈l,sb p)(a:Int):BW n (ii l a):=by
 refine⟨by unfold ii;simpa using aa,λi=>?_⟩
 by_cases hi:i<l.length
 ·rw [aqn l a i hi];have hp:=ac6 (h _ (MH hi));refine⟨hp.1,by show 1<n;omega,λk=>?_⟩
  refine sa (P:=λv:Version=>v.br.S.length≤1000) (λx hx=>?_) (by show([]:aux).length≤1000;simp) k
  rw [List.mem_singleton.1 hx];exact hp.2
 ·have:(ii l a).Rows.getD i default=default:=by
   unfold ii;rw [List.getD_eq_getElem?_getD,List.getElem?_eq_none (by simp;omega)];rfl
  rw [this];refine⟨by show([]:aux).length≤1000;simp,by show 0<n;omega,λk=>?_⟩
  show(([]:List Version).getD k default).br.S.length≤1000
  simp [List.getD];show([]:aux).length≤1000
  simp
def adv{n:Nat}(hn:2000≤n):qS n default:=US hn ⟨by show hV 0;unfold hV;omega,by show hV 0;unfold hV;omega,by show([]:aux).length≤16;simp,⟨by show([]:List bq).length≤6;simp,λv av=>by cases av⟩,rfl,rfl⟩
def aqp{p:n7}(h:tJ p):p.2.1.length≤(iv p).length:=by
 have Z:=MD (E:=ll) (l:=p.2.1) λv _=>by unfold ll gd;simp [qO]
 unfold iv;rw [show ea ll p.2.1=e_ p.2.1.length++iP ll p.2.1 from rfl]
 simp only [auq];omega
def adw{n:Nat}(hn:2000≤n):tG n M1:=by
 have h0:∀{α:Type} (l:List α),l=[]→l.length<n:=λl h=>by rw [h];show 0<n;omega
 exact {
  st:=by
   refine⟨h0 _ rfl,λi=>⟨?_,?_,λk=>?_⟩⟩
   ·show([]:aux).length≤1000;simp
   ·exact h0 _ rfl
   ·show([]:aux).length≤1000;simp
  x_:=h0 _ rfl
  kU:=λi=>sa (P:=mT) (λx hx=>absurd hx (by show¬ x∈([]:List bb);simp)) adm i
  tH:=h0 _ rfl
  n5:=MR hn (λx hx=>by cases hx)
  pl:=h0 _ rfl
  B4:=ac7 (λx hx=>by cases hx)
  aF:=h0 _ rfl
  ky:=λi=>by show([]:aux).length≤1000;simp
  n6:=h0 _ rfl
  tI:=λi=>sa (P:=qS n) (λx hx=>absurd hx (by show¬ x∈([]:List Request);simp)) (adv hn) i}
def aqq{s t:aux}(h:t <:+ s):(bu s t=((s.length:Nat):Int))↔t=[]:=by
 have:=h.length_le
 unfold bu;constructor
 ·intro e;have:t.length=0:=by omega
  exact List.eq_nil_of_length_eq_zero this
 ·intro e;subst e;simp
section
variable {n:Nat} (hn:3000000≤n) (aI:n≤1000000000) {s:aux} (hs:s.length≤2000)
include hn aI hs
end
def U0:J_ 10000000=some true:=by kernel_rfl
def sh{α R:Type}[Inhabited α]{l:List α}{E:α→aux}{B:Nat}{L:Nat→aux→Nat→Option R}{fin:aux→Option R}
 (hs:∀m i acc,i<l.length→acc.length+(E (l.getD i default)).length≤B→L (m+1) acc i=L m (acc++E (l.getD i default)) (i+1))
 (he:∀m acc,acc.length≤B→L (m+1) acc l.length=fin acc):
 ∀m i acc,l.length<m+i→i≤l.length→acc.length+(iP E (l.drop i)).length≤B→L m acc i=fin (acc++iP E (l.drop i)):=by
 intro m;induction m with
 |zero=>intro i acc Z ab;omega
 |succ m aG=>
  intro i acc Z ab aj;by_cases hi:i<l.length
  ·rw [e9 l i default hi,BL]at aj ⊢;rw [auq]at aj;rw [hs m i acc hi (by omega),aG (i+1) _ (by omega) (by omega) (by rw [auq];omega),List.append_assoc]
  ·obtain rfl:i=l.length:=by omega
   rw [gu l _ hi,aoL]at aj ⊢;rw [he m acc (by simpa using aj),List.append_nil]
def B6{n:Nat}(hn:10≤n){z:Int}(h:hV z):h1 n (IntKind.u64.wrap z)=some (jx z):=by
 obtain⟨Z,ab⟩:=h;have e:IntKind.u64.wrap z=((z.toNat:Nat):Int):=by rw [IntKind.wrap_u64];omega
 rw [e];exact ve hn (by omega)
def tL{n:Nat}(hn:10≤n){k:Nat}(h:k<18446744073709551616):h1 n (IntKind.u64.wrap (k:Int))=some (e_ k):=by
 rw [rW h];exact ve hn h
def lT{n:Nat}{s t:aux}(h:t.length+s.length≤10000000):km n s (hf t)=some (((s.length:Nat):Int),hf (t++s)):=by
 unfold km zm;simp only [ak,Mx,Uo (show t.length+s.length≤140737488355328 by omega),aK]
 rw [Ul];rfl
def U1{n:Nat}{t:aux}(h:t.length≤10000000):sS n (hf t)=some (t,hf t):=by
 unfold sS;simp only [Uk,Uj,Mx,show t.length≤9223372036854775807 by omega,aug,Bool.and_self,aK]
def si{α:Type}[Inhabited α]{P:α→Prop}{l:List α}(h:∀x∈l,P x){i:Nat}(hi:i<l.length):P (l.getD i default):=by
 rw [List.getD_eq_getElem?_getD,List.getElem?_eq_getElem hi];exact h _ (List.getElem_mem hi)
def aqr{n:Nat}(hn:2000≤n){l:List bo}(aa:l.length<n)(h:∀p∈l,sb p)(cN:(ea ll l).length≤1000000):IV n l=some (ea ll l):=by
 have hlen:l.length≤(iP ll l).length:=MD λv _=>by unfold ll gd;simp [qO]
 unfold ea at cN ⊢;rw [auq]at cN
 have key:=sh (l:=l) (E:=ll) (B:=2000000) (L:=λm acc i=>zt n l m (hf acc) (i:Int)) (fin:=λacc=>some acc)
  (λm i acc hi hb=>by
   obtain⟨Z,ab⟩:=si h hi;have aj:=tD ab;unfold ll at hb ⊢;rw [auq]at hb;simp only [zt,IU,hi,bw hi,auo,aup,aug,aui,aK,bm (show i≤4611686018427387904 by omega)]
   rw [vf (by omega) (by omega),ak,lT (by omega),ak,
    show wF n (⟨((l.getD i default).br).Kind,((l.getD i default).br).N,((l.getD i default).br).S⟩:bq)=_ from Us (v:=(l.getD i default).br) (by omega) ab.2 (by omega),ak,
    lT (by rw [auq];omega),ak,List.append_assoc])
  (λm acc ha=>by
   simp only [zt,IU,aup,Nat.lt_irrefl,auh,auj,Qp];rw [U1 (by omega),ak])
 unfold IV;rw [tL (by omega) (by omega),ak,Um,lT (by simp;omega),ak]
 exact key n 0 _ (by omega) (by omega) (by simp;omega)
def aqs{n:Nat}(hn:2000≤n){p:b7}(h0:e6 p.Version)(aa:p.aD.length≤16)(h:∀x∈p.aD,qT x)(cN:(oU p).length≤1000000):Dx n p=some (oU p):=by
 have av:=rX h0;unfold oU ea at cN ⊢;simp only [auq]at cN
 have key:=sh (l:=p.aD) (E:=sc) (B:=2000000) (L:=λm acc i=>ze n p m (i:Int) acc) (fin:=λacc=>some acc)
  (λm i acc hi hb=>by
   obtain⟨Z,ab,aj,aC,aT⟩:=si h hi;unfold sc at hb ⊢;simp only [auq]at hb;simp only [ze,Ii,hi,bw hi,auo,aup,aug,aui,aK,bm (show i≤4611686018427387904 by omega)]
   rw [xX (by omega) Z,ak,vf (by omega) (by omega),ak,xX (by omega) aj,ak,xX (by omega) aC,ak,vf (by omega) (by omega),ak]
   simp (disch:=omega) only [List.length_append,gD,aK,List.append_assoc])
  (λm acc ha=>by simp only [ze,Ii,aup,Nat.lt_irrefl,auh,auj,PD])
 unfold Dx;rw [xX (by omega) h0,ak,tL (by omega) (by omega),ak,gD (by omega),aK,←List.append_assoc]
 exact key n 0 _ (by omega) (by omega) (by simp only [auq,List.drop_zero];omega)
def adx{n:Nat}(hn:2000≤n){l:jI}(aa:l.length≤64)(h:∀x∈l,x.length≤24)(cN:(ea gd l).length≤1000000):Dt n l=some (ea gd l):=by
 unfold ea at cN ⊢;simp only [auq]at cN
 have key:=sh (l:=l) (E:=gd) (B:=2000000) (L:=λm acc i=>y7 n l m (i:Int) acc) (fin:=λacc=>some acc)
  (λm i acc hi hb=>by
   have Z:=si h hi;simp only [y7,H8,hi,bw hi,auo,aup,aug,aui,aK,bm (show i≤4611686018427387904 by omega)]
   rw [vf (by omega) (by omega),ak]
   simp (disch:=omega) only [gD,aK])
  (λm acc ha=>by simp only [y7,H8,aup,Nat.lt_irrefl,auh,auj,Py])
 unfold Dt;rw [tL (by omega) (by omega),ak]
 exact key n 0 _ (by omega) (by omega) (by rw [List.drop_zero];omega)
def n8{z:Int}(h:hV z):(jx z).length≤10:=nk (by obtain⟨Z,ab⟩:=h;omega)
def ady{o:Outcome}(h:pL o):hV o.Status∧hV o.Code:=⟨⟨h.1.1,by have:=h.1.2;omega⟩,⟨h.2.1.1,by have:=h.2.1.2;omega⟩⟩
def adz{α β:Type}(E:β→aux)(f:α→β)(l:List α):iP E (l.map f)=iP (λx=>E (f x)) l:=by
 unfold iP;rw [List.map_map];rfl
section
variable {n:Nat} (hn:2000≤n)
include hn
theorem aqt(ec al:List Int→Int→Option aux)(l:List bL)(i j:Nat)(hj:j≤4611686018427387904)(aw:pL ((((l.getD i default).bJ).getD j default).Outcome))(acc:aux)
 (cN:acc.length+(iP bV ((((l.getD i default).bJ).getD j default).Outcome.Out)).length≤2000000):
 wR n ec al l (i:Int) (j:Int) n (hf acc) 0=ec (hf (acc++iP bV ((((l.getD i default).bJ).getD j default).Outcome.Out))) ((j+1:Nat):Int):=by
 have aa:=aw.2.2.1
 have key:=sh (l:=(((l.getD i default).bJ).getD j default).Outcome.Out) (E:=bV) (B:=2000000) (L:=λm acc k=>wR n ec al l (i:Int) (j:Int) m (hf acc) (k:Int)) (fin:=λacc=>ec (hf acc) ((j+1:Nat):Int))
  (λm k acc hk hb=>by
   have ab:=si aw.2.2.2 hk;have aj:=tD ab;simp only [wR,IQ,auo,hk,bw hk,aup,aug,aui,aK,bm (show k≤4611686018427387904 by omega)]
   rw [Us (by omega) ab.2 (by omega),ak,lT (by omega),ak])
  (λm acc ha=>by
   simp only [wR,IQ,auo,aup,Nat.lt_irrefl,auh,auj,Qm,bm hj])
 have:=key n 0 acc (by omega) (by omega) (by rw [List.drop_zero];exact cN)
 rw [List.drop_zero]at this;exact this
theorem aqu(al:List Int→Int→Option aux)(l:List bL)(i:Nat)(hi:i≤4611686018427387904)(aa:(l.getD i default).bJ.length≤1000)(aw:∀r∈(l.getD i default).bJ,pL r.Outcome)(acc:aux)
 (cN:acc.length+(iP (λr:eN=>sd r.Outcome) (l.getD i default).bJ).length≤2000000):
 wT n al l (i:Int) n (hf acc) 0=al (hf (acc++iP (λr:eN=>sd r.Outcome) (l.getD i default).bJ)) ((i+1:Nat):Int):=by
 have key:=sh (l:=(l.getD i default).bJ) (E:=λr:eN=>sd r.Outcome) (B:=2000000) (L:=λm acc j=>wT n al l (i:Int) m (hf acc) (j:Int)) (fin:=λacc=>al (hf acc) ((i+1:Nat):Int))
  (λm j acc hj hb=>by
   have ab:=si (P:=λr:eN=>pL r.Outcome) aw hj
   obtain⟨aj,aC⟩:=ady ab;have aT:=ab.2.2.1;have hN:=n8 aj;have kh:=n8 aC;have atP:=nk (u:=(((l.getD i default).bJ).getD j default).Outcome.Out.length) (by omega)
   unfold sd ea at hb ⊢;simp only [auq]at hb;simp only [wT,IR,auo,hj,bw hj,aup,aug,aui,aK]
   rw [B6 (by omega) aj,ak,B6 (by omega) aC,ak,gD (by omega),aK,tL (by omega) (by omega),ak,gD (by rw [auq];omega),aK,
    lT (by simp only [auq];omega),ak]
   refine(aqt hn _ al l i j (by omega) ab _ (by simp only [auq];omega)).trans ?_
   simp only [List.append_assoc])
  (λm acc ha=>by
   simp only [wT,IR,auo,aup,Nat.lt_irrefl,auh,auj,Ql,bm hi])
 have:=key n 0 acc (by omega) (by omega) (by rw [List.drop_zero];exact cN)
 rw [List.drop_zero]at this;exact this
theorem aqv{l:List bL}(av:sT n l=some true)(aa:l.length≤32)(h:∀s∈l,qU s)(cN:(ea lm l).length≤1000000):DS n l=some (ea lm l):=by
 unfold ea at cN ⊢;simp only [auq]at cN
 have key:=sh (l:=l) (E:=lm) (B:=2000000) (L:=λm acc i=>zr n l m (hf acc) (i:Int)) (fin:=λacc=>some acc)
  (λm i acc hi hb=>by
   have ab:=si h hi;obtain⟨⟨c1,c2⟩,⟨d1,d2⟩,aT,bP,cM⟩:=ab;have cC:hV (l.getD i default).Client:=⟨by omega,by omega⟩
   have al:hV (l.getD i default).Next:=⟨by omega,by omega⟩
   have hN:=n8 cC;have kh:=n8 al;have hk:=Gp ⟨d1,d2⟩;have ai:(l.getD i default).bJ.length≤1000:=by rw [List.length_map]at bP;omega
   have aw:∀r∈(l.getD i default).bJ,pL r.Outcome:=λr ai=>cM _ (List.mem_map_of_mem ai)
   unfold lm at hb ⊢;rw [adz]at hb ⊢;simp only [auq]at hb;simp only [zr,IT,auo,hi,bw hi,aup,aug,aui,aK];rw [B6 (by omega) cC,ak,B6 (by omega) al,ak,gD (by omega),aK,lT (by simp only [auq];omega),ak]
   refine(aqu hn _ l i (by omega) ai aw _ (by simp only [auq];omega)).trans ?_
   simp only [List.append_assoc])
  (λm acc ha=>by
   simp only [zr,IT,aup,Nat.lt_irrefl,auh,auj,Qk];rw [U1 (by omega),ak])
 unfold DS;rw [av,ak,auk,auj,tL (by omega) (by omega),ak,Um,lT (by simp;omega),ak]
 have:=key n 0 (e_ l.length) (by omega) (by omega) (by rw [List.drop_zero];omega)
 rw [List.drop_zero]at this;exact this
theorem aqw(k:aux)(v:bq)(a:Int):zc n ⟨k,[⟨a,v⟩]⟩ a=some v:=by
 obtain⟨m,rfl⟩:∃m,n=m+3:=⟨n-3,by omega⟩
 unfold zc Dw
 have e:wH (m+3) a ⟨k,[⟨a,v⟩]⟩ (m+3) 0=some 1:=by
  have w:auz (0+1)=1:=rfl;simp only [wH,If,Ie,w];have h0:decide ((0:Int)<(([⟨a,v⟩]:List Version).length:Nat))=true:=rfl;have Z:decide ((1:Int)<(([⟨a,v⟩]:List Version).length:Nat))=false:=rfl;have ab:aL 0 ([⟨a,v⟩]:List Version).length=true:=rfl;have aj:(([⟨a,v⟩]:List Version).getD (0:Int).toNat default).cl=a:=rfl;simp only [h0,Z,ab,aj,Int.le_refl,aug,auk,aul,Bool.true_or,Bool.false_or,aK,aui,auj]
 rw [e,ak];rfl
theorem aqx{l:List bo}{a:Int}(aa:l.length≤2000)(eT:l.length<n)(hk:∀i,i<l.length→(l.getD i default).br.Kind≠0)(av:wG n (ii l a)=some true):wJ n (ii l a) a=some (l,0):=by
 have hg:∀i,i<l.length→(ii l a).Rows.getD i default=⟨(l.getD i default).Key,[⟨a,(l.getD i default).br⟩]⟩:=λi hi=>by
  unfold ii;simp only [List.getD_eq_getElem?_getD,List.getElem?_map,List.getElem?_eq_getElem hi,Option.map_some,Option.getD_some]
 have hlen:(ii l a).Rows.length=l.length:=by unfold ii;simp
 have key:∀m i acc,l.length<m+i→i≤l.length→acc.length≤i→wI n a (ii l a) m (i:Int) acc=some (acc++l.drop i,0):=by
  intro m;induction m with
  |zero=>intro i acc Z ab;omega
  |succ m aG=>
   intro i acc Z ab aj;simp only [wI,Ih,hlen,aup];by_cases hi:i<l.length
   ·simp only [hi,bw hi,auo,aug,aui,aK];rw [hg i hi,aqw hn,ak];simp only [hk i hi,auh,aul,aui,aur,zd,bm (show i≤4611686018427387904 by omega),lj (show(acc.length+1)*48≤140737488355328 by omega),aK]
    rw [aG (i+1) _ (by omega) (by omega) (by rw [auq,aur];omega),e9 l i default hi]
    simp
   ·obtain rfl:i=l.length:=by omega
    simp only [Nat.lt_irrefl,auh,auj,Ig,gu l _ hi,List.append_nil]
 unfold wJ;rw [av,ak]
 have ai:zb n (ii l a) a=some 0:=by
  unfold zb ii;simp only [aut,auh,auj]
 simp only [auk,auj,ai,ak,aug];exact key n 0 [] (by omega) (by omega) (by simp)
end
def aqy{n:Nat}(hn:10≤n){z:Int}(h:hV z):h1 n z=some (jx z):=by
 obtain⟨Z,ab⟩:=h;have e:z=((z.toNat:Nat):Int):=by omega
 have:=ve (n:=n) (u:=z.toNat) hn (by omega)
 rw [←e]at this;exact this
def aqz{n:Nat}(b:Bool):Pz n b=some (xY b):=by cases b<;>rfl
def U2(b:Bool):(xY b).length=1:=by cases b<;>rfl
section
variable {n:Nat} (hn:2000≤n)
include hn
theorem aqA{r:Request}(h:n3 r)(acc:aux)(cN:acc.length+(xY r.ez++sf r.ez (r.bk.Reads,r.bk.cm)).length≤2000000)(mE:(sf r.ez (r.bk.Reads,r.bk.cm)).length≤1000000):
 Dv n r acc=some (acc++(xY r.ez++sf r.ez (r.bk.Reads,r.bk.cm))):=by
 have aT:=h.2.2.2.2.1;rw [auq]at cN;unfold Dv;rw [aqz,ak,gD (by omega),aK]
 cases hd:r.ez
 ·simp only [auj,Du,sf,auw,Bool.false_eq_true,List.append_nil]
 ·rw [hd]at aT cN mE;obtain⟨⟨aZ,a2⟩,c6,jl⟩:=aT;simp only at aZ a2 c6 jl
  simp only [sf,auv,auq]at cN mE;rw [aui,adx hn aZ a2 (by omega),ak,adx hn c6 jl (by omega),ak]
  simp (disch:=omega) only [List.length_append,gD,aK,Du,sf,if_true,List.append_assoc]
theorem aqB{r:Request}(av:oE n r=some 0)(h:n3 r)(cN:(jJ r).length≤1000000):H' n r=some (jJ r):=by
 obtain⟨c1,c2,c3,⟨c4,c5⟩,lU,ln⟩:=id h;have hN:=n8 c1;have kh:=n8 c2;unfold jJ ea at cN ⊢;simp only [auq]at cN
 have key:=sh (l:=r.ar) (E:=bV) (B:=900000) (L:=λm acc i=>y8 n r m acc (i:Int)) (fin:=λacc=>Dv n r acc)
  (λm i acc hi hb=>by
   have ab:=si c5 hi;have aj:=tD ab;simp only [y8,H9,hi,bw hi,auo,aup,aug,aui,aK,bm (show i≤4611686018427387904 by omega)]
   rw [Us (by omega) ab.2 (by omega),ak,gD (by omega),aK])
  (λm acc ha=>by simp only [y8,H9,aup,Nat.lt_irrefl,auh,auj])
 unfold H';rw [av,ak];simp only [aug,auk,auj];have t1:=My (s:=r.bb) (by omega)
 have adA:=nk (u:=r.ar.length) (by omega)
 have v1:(iP bV r.ar).length≤1000:=by
  have:∀l:List bq,(∀v∈l,qP v)→(iP bV l).length≤100*l.length:=by
   intro l;induction l with
   |nil=>intro _;simp [iP]
   |cons v l aG=>
    intro bn;have g:=bn v (by simp)
    have g2:=acy g.2 (by have:=tD g;omega)
    have g3:=tD g;have g4:=aG λw hw=>bn w (by simp [hw])
    rw [BL,auq,aum];omega
  have:=this r.ar c5
  omega
 rw [B6 (by omega) c1,ak,B6 (by omega) c2,ak,gD (by omega),aK,vf (by omega) (by omega),ak,gD (by simp only [auq];omega),aK,
  tL (by omega) (by omega),ak,gD (by simp only [auq];omega),aK]
 have:=key n 0 (((jx r.Client++jx r.Seq)++gd r.bb)++e_ r.ar.length) (by omega) (by omega) (by rw [List.drop_zero];simp only [auq];omega)
 rw [List.drop_zero]at this;refine this.trans ?_;rw [aqA hn h _ (by simp only [auq,U2];simp only [auq,U2]at cN;omega) (by omega)]
 simp only [List.append_assoc]
theorem aqC{l:List Request}(aa:l.length≤64)(h:∀r∈l,n3 r∧oE n r=some 0)(cN:(ea jJ l).length≤900000):y' n l=some (ea jJ l):=by
 unfold ea at cN ⊢;simp only [auq]at cN
 have key:=sh (l:=l) (E:=jJ) (B:=1000000) (L:=λm acc i=>y9 n l m (i:Int) acc) (fin:=λacc=>some acc)
  (λm i acc hi hb=>by
   obtain⟨Z,ab⟩:=si h hi;simp only [y9,H_,hi,bw hi,auo,aup,aug,aui,aK,bm (show i≤4611686018427387904 by omega)]
   rw [ab,ak];simp only [aug,auk,auj];rw [aqB hn ab Z (by omega),ak,gD (by omega),aK])
  (λm acc ha=>by simp only [y9,H_,aup,Nat.lt_irrefl,auh,auj,PA])
 unfold y';simp only [eO,show¬ 64<l.length by omega,auh,auj]
 rw [tL (by omega) (by omega),ak]
 have:=key n 0 (e_ l.length) (by omega) (by omega) (by rw [List.drop_zero];omega)
 rw [List.drop_zero]at this;exact this
theorem aqD{r:bU}(ao:y' n r.Queue=some (ea jJ r.Queue))(hc:hV r.de)(acc:aux)(cN:acc.length+(ea jJ r.Queue).length≤3000000):
 DT n r (hf acc)=some (acc++(ea jJ r.Queue++jx r.de)):=by
 have:=n8 hc
 unfold DT;rw [ao,ak,lT (by omega),ak,aqy (by omega) hc,ak,lT (by rw [auq];omega),ak,U1 (by simp only [auq];omega),ak]
 simp only [List.append_assoc]
theorem aqE{r:bU}(Z:DS n r.cJ=some (ea lm r.cJ))(ab:Dx n r.Place=some (oU r.Place))(aj:r.bh.length≤32∧∀h∈r.bh,h.Key.length≤24∧e6 h.Count)
 (ao:y' n r.Queue=some (ea jJ r.Queue)) (hc:hV r.de) (acc:aux) (cN:acc.length+(ea lm r.cJ).length+(oU r.Place).length+(ea n4 r.bh).length+(ea jJ r.Queue).length≤2000000):
 zw n r (hf acc)=some (acc++(ea lm r.cJ++(oU r.Place++(ea n4 r.bh++(ea jJ r.Queue++jx r.de))))):=by
 obtain⟨aj,aC⟩:=aj;have adA:=nk (u:=r.bh.length) (by omega)
 have mE:=cN;rw [show(ea n4 r.bh).length=(e_ r.bh.length).length+(iP n4 r.bh).length by unfold ea;simp]at mE
 have key:=sh (l:=r.bh) (E:=n4) (B:=2000000) (L:=λm acc i=>zv n r m (hf acc) (i:Int)) (fin:=λacc=>DT n r (hf acc))
  (λm i acc hi hb=>by
   obtain⟨g1,g2⟩:=si aC hi;unfold n4 at hb ⊢;rw [auq]at hb;simp only [zv,IY,hi,bw hi,auo,aup,aug,aui,aK,bm (show i≤4611686018427387904 by omega)]
   rw [vf (by omega) (by omega),ak,lT (by omega),ak,xX (by omega) g2,ak,lT (by rw [auq];omega),ak,List.append_assoc])
  (λm acc ha=>by simp only [zv,IY,aup,Nat.lt_irrefl,auh,auj])
 unfold zw;rw [Z,ak,lT (by omega),ak,ab,ak,lT (by rw [auq];omega),ak,tL (by omega) (by omega),ak,lT (by simp only [auq];omega),ak]
 have:=key n 0 (((acc++ea lm r.cJ)++oU r.Place)++e_ r.bh.length) (by omega) (by omega) (by rw [List.drop_zero];simp only [auq];omega)
 rw [List.drop_zero]at this;refine this.trans ?_;rw [aqD hn ao hc _ (by simp only [auq];omega)]
 unfold ea;simp only [List.append_assoc]
end
section
variable {n:Nat} (hn:3000000≤n) (aI:n≤1000000000)
include hn aI
end
section
variable {n:Nat} (hn:3000000≤n) (aI:n≤1000000000) {s:aux} (hs:s.length≤2000)
include hn aI hs
end
section
variable {n:Nat} (hn:2000≤n)
include hn
end
section
variable {n:Nat} (hn:2000≤n)
include hn
end
def n9(r:bU)(A:List bo):n7:=(r.Pos,A,r.cc.map gL,r.cJ,r.Place,r.bh,r.Queue,r.de)
section
variable {n:Nat} (hn:2000≤n)
include hn
end
section
variable {n:Nat} (hn:3000000≤n) (aI:n≤1000000000) {r:bU} {A:List bo} (hp:tJ (n9 r A)) (hs:(iv (n9 r A)).length≤800000) (hg:∀q∈r.cc,mT q) (oo:r.cc.length≤1000)
include hn aI hp hs hg oo
end
section
variable {n:Nat} (hn:3000000≤n) (aI:n≤1000000000) {r:bU} {A:List bo} (hp:tJ (n9 r A)) (hs:(iv (n9 r A)).length≤800000) (hg:∀q∈r.cc,mT q) (oo:r.cc.length≤1000)
include hn aI hp hs hg oo
theorem adB(aqF:wJ n r.az r.Pos=some (A,0))(aqG:sT n r.cJ=some true)(aqH:∀q∈r.Queue,oE n q=some 0):sU n r=some (iv (n9 r A)):=by
 have atQ:A.length≤(iv (n9 r A)).length:=aqp hp;have l8:=hs;unfold iv n9 at hs;simp only [auq]at hs;have aqI:=aqv (n:=n) (by omega) aqG hp.n5.1.1 hp.n5.1.2 (by show(ea lm r.cJ).length≤_;omega)
 have aqJ:=aqs (n:=n) (by omega) hp.ya.1.1 hp.ya.1.2.1 hp.ya.1.2.2 (by show(oU r.Place).length≤_;omega)
 have aqK:=aqC (n:=n) (by omega) hp.n6.1 (λq ao=>⟨(hp.n6.2 q ao).1,aqH q ao⟩) (by show(ea jJ r.Queue).length≤_;omega)
 have be:=aqr (n:=n) (l:=A) (by omega) (by omega) hp.kU.1.2 (by omega)
 have G8:e6 r.Pos:=hp.pos;have i1:(mO r.Pos).length≤10:=rX hp.pos;have adA:=nk (u:=r.cc.length) (by omega)
 have iY:ea gd (r.cc.map gL)=e_ r.cc.length++iP (λq=>gd (gL q)) r.cc:=by
  unfold ea;rw [adz,List.length_map]
 rw [iY]at hs;simp only [auq]at hs
 have j:∀B:aux,B.length≤1000000→zw n r (hf B)=some (B++(ea lm r.cJ++(oU r.Place++(ea n4 r.bh++(ea jJ r.Queue++jx r.de))))):=λB cN=>
  aqE (by omega) aqI aqJ hp.aF aqK hp.UX B (by omega)
 have key:=sh (l:=r.cc) (E:=λq=>gd (gL q)) (B:=1000000) (L:=λm acc i=>zx n r m (hf acc) (i:Int)) (fin:=λacc=>zw n r (hf acc))
  (λm i acc hi hb=>by
   have g:=si hg hi;have g2:=apU g;simp only [zx,IZ,hi,bw hi,auo,aup,aug,aui,aK,bm (show i≤4611686018427387904 by omega)]
   rw [UV g hn,ak,vf (by omega) (by omega),ak,lT (by omega),ak])
  (λm acc ha=>by simp only [zx,IZ,aup,Nat.lt_irrefl,auh,auj])
 unfold sU;rw [aqF,ak,xX (by omega) G8,ak,Um,lT (by simp;omega),ak,be,ak,lT (by simp;omega),ak,tL (by omega) (by omega),ak,lT (by simp only [auq,aun];omega),ak]
 have:=key n 0 ((([]++mO r.Pos)++ea ll A)++e_ r.cc.length) (by omega) (by omega) (by rw [List.drop_zero];simp only [auq,aun];omega)
 rw [List.drop_zero]at this;refine this.trans ?_;rw [j _ (by simp only [auq,aun];omega)]
 unfold iv n9;simp only
 rw [iY];simp only [List.append_assoc,List.nil_append]
end
def yc(r:Row):Bool:=(decide (r.bj.length≤12)&&decide (r.Key.length≤200))&&allI r.bj.length λk=>decide ((r.bj.getD k default).br.S.length≤200)
def aqL{n:Nat}(hn:2000≤n)(s:az):K6 n s 12=some (decide (s.Rows.length≤12)&&allI s.Rows.length λi=>yc (s.Rows.getD i default)):=by
 unfold K6;by_cases h:s.Rows.length≤12
 ·simp only [eO,show¬ 12<s.Rows.length by omega,auh,auj,h,aug,Bool.true_and]
  refine(h6 (L:=uV n s) (len:=s.Rows.length) (chk:=λi=>yc (s.Rows.getD i default)) (no:=false) (yes:=true) (m:=n) (by omega) ?_ ?_).trans (by cases allI s.Rows.length (λi=>yc (s.Rows.getD i default))<;>rfl)
  ·intro m i hi;simp only [uV,K5,hi,bw hi,auo,aup,eO,aug,aui,aK,auu,dv];unfold yc;by_cases Z:(s.Rows.getD i default).bj.length≤12
   ·by_cases ab:(s.Rows.getD i default).Key.length≤200
    ·simp only [show¬ 12<(s.Rows.getD i default).bj.length by omega,show¬ 200<(s.Rows.getD i default).Key.length by omega,Z,ab,hi,bw hi,auh,aug,Bool.or_false,Bool.false_or,aui,auj,Bool.true_and,aK]
     refine UE (L:=AZ n (uV n s m) (i:Int) s) (len:=(s.Rows.getD i default).bj.length) (chk:=λk=>decide (((s.Rows.getD i default).bj.getD k default).br.S.length≤200)) (no:=false) (yes:=uV n s m ((i+1:Nat):Int)) (m:=n) (by omega) ?_ ?_
     ·intro m2 k hk;simp only [AZ,K4,hi,hk,bw hi,bw hk,auo,aup,eO,aug,aui,aK,bm (show k≤4611686018427387904 by omega)]
      by_cases aj:((s.Rows.getD i default).bj.getD k default).br.S.length≤200
      ·simp only [show¬ 200<((s.Rows.getD i default).bj.getD k default).br.S.length by omega,aj,auh,aug,auj,auv]
      ·simp only [show 200<((s.Rows.getD i default).bj.getD k default).br.S.length by omega,aj,aug,auh,aui,auw,Bool.false_eq_true]
     ·intro m2;simp only [AZ,K4,Sx,bw hi,auo,aK,aup,Nat.lt_irrefl,auh,auj,bm (show i≤4611686018427387904 by omega)]
    ·simp only [show 200<(s.Rows.getD i default).Key.length by omega,ab,hi,bw hi,aK,aug,auh,auu,aui,Bool.and_false,Bool.false_and,auw,Bool.false_eq_true]
   ·simp only [show 12<(s.Rows.getD i default).bj.length by omega,Z,hi,bw hi,aK,aug,auh,Bool.true_or,aui,Bool.false_and,auw,Bool.false_eq_true]
  ·intro m;simp only [uV,K5,Sw,aup,Nat.lt_irrefl,auh,auj]
 ·simp only [eO,show 12<s.Rows.length by omega,h,aug,auh,aui,Bool.false_and]
def aqM{L:Nat→Int→auB}{len:Nat}{Q:Nat→Prop}{fin:auB}
 (step:∀m i,i<len→L (m+1) (i:Int)=some false∨(Q i∧L (m+1) (i:Int)=L m ((i+1:Nat):Int))) (stop:∀m,L (m+1) (len:Int)=fin):
 ∀m i,len<m+i→i≤len→L m (i:Int)=some false∨((∀k,i≤k→k<len→Q k)∧L m (i:Int)=fin):=by
 intro m;induction m with
 |zero=>intro i Z ab;omega
 |succ m aG=>
  intro i Z ab;by_cases hi:i<len
  ·rcases step m i hi with h|⟨ao,h⟩
   ·exact Or.inl h
   ·rcases aG (i+1) (by omega) (by omega)with aj|⟨aj,aC⟩
    ·exact Or.inl (h.trans aj)
    ·refine Or.inr ⟨λk hk pc=>?_,h.trans aC⟩
     by_cases e:k=i
     ·subst e;exact ao
     ·exact aj k (by omega) pc
  ·obtain rfl:i=len:=by omega
   exact Or.inr ⟨λk hk pc=>by omega,stop m⟩
def oV{L:Nat→Int→auB}{len m:Nat}{Q:Nat→Prop}{fin:auB}(hm:len<m)
 (step:∀m i,i<len→L (m+1) (i:Int)=some false∨(Q i∧L (m+1) (i:Int)=L m ((i+1:Nat):Int))) (stop:∀m,L (m+1) (len:Int)=fin):
 L m 0=some false∨((∀k,k<len→Q k)∧L m 0=fin):=by
 rcases aqM step stop m 0 (by omega) (by omega)with h|⟨Z,ab⟩
 ·exact Or.inl h
 ·exact Or.inr ⟨λk hk=>Z k (by omega) hk,ab⟩
structure adC(f:fc):Prop where
 r:f.Reads.length≤100
 w:f.cm.length≤100
 rs:∀i,i<f.Reads.length→(f.Reads.getD i default).length≤100
 ws:∀i,i<f.cm.length→(f.cm.getD i default).length≤100
def aqN{n:Nat}(hn:2000≤n)(f:fc):xt n f 100=some false∨(adC f∧xt n f 100=some true):=by
 unfold xt;simp only [eO,dv];by_cases Z:f.Reads.length≤100
 ·by_cases ab:f.cm.length≤100
  ·simp only [show¬ 100<f.Reads.length by omega,show¬ 100<f.cm.length by omega,auh,Bool.or_false,auj]
   have hw:=oV (L:=xr n f) (len:=f.cm.length) (m:=n) (Q:=λi=>(f.cm.getD i default).length≤100) (fin:=some true) (by omega)
    (λm i hi=>by
     simp only [xr,K7,hi,bw hi,auo,aup,eO,aug,aui,aK,bm (show i≤4611686018427387904 by omega)]
     by_cases h:(f.cm.getD i default).length≤100
     ·right;simp only [show¬ 100<(f.cm.getD i default).length by omega,auh,auj,h,true_and]
     ·left;simp only [show 100<(f.cm.getD i default).length by omega,aug,aui])
    (λm=>by simp only [xr,K7,Sy,aup,Nat.lt_irrefl,auh,auj])
   have ai:=oV (L:=A0 n f) (len:=f.Reads.length) (m:=n) (Q:=λi=>(f.Reads.getD i default).length≤100) (fin:=xr n f n 0) (by omega)
    (λm i hi=>by
     simp only [A0,K8,hi,bw hi,auo,aup,eO,aug,aui,aK,bm (show i≤4611686018427387904 by omega)]
     by_cases h:(f.Reads.getD i default).length≤100
     ·right;simp only [show¬ 100<(f.Reads.getD i default).length by omega,auh,auj,h,true_and]
     ·left;simp only [show 100<(f.Reads.getD i default).length by omega,aug,aui])
    (λm=>by simp only [A0,K8,Sz,aup,Nat.lt_irrefl,auh,auj])
   rcases ai with ai|⟨ix,iV⟩
   ·exact Or.inl ai
   ·rw [iV];rcases hw with hw|⟨yS,C7⟩
    ·exact Or.inl hw
    ·exact Or.inr ⟨⟨Z,ab,ix,yS⟩,C7⟩
  ·left;simp only [show 100<f.cm.length by omega,aug,auu,aui]
 ·left;simp only [show 100<f.Reads.length by omega,aug,Bool.true_or,aui]
structure U3(r:Request):Prop where
 p:r.bb.length≤300
 a:r.ar.length≤40
 vs:∀i,i<r.ar.length→(r.ar.getD i default).S.length≤300
 f:adC r.bk
def aqO{n:Nat}(hn:2000≤n)(r:Request):E7 n r=some false∨(U3 r∧E7 n r=some true):=by
 unfold E7;simp only [eO,dv];by_cases Z:r.bb.length≤300
 ·by_cases ab:r.ar.length≤40
  ·simp only [show¬ 300<r.bb.length by omega,show¬ 40<r.ar.length by omega,auh,Bool.or_false,Bool.false_or,aul,aui]
   rcases aqN hn r.bk with h|⟨aj,h⟩
   ·left;rw [show xt n _ 100=some false from h];rfl
   ·rw [show xt n (⟨r.bk.dH,r.bk.Reads,r.bk.cm⟩:fc) 100=some true from h,ak]
    simp only [auk,auj]
    rcases oV (L:=A1 n r) (len:=r.ar.length) (m:=n) (Q:=λi=>(r.ar.getD i default).S.length≤300) (fin:=some true) (by omega)
     (λm i hi=>by
      simp only [A1,K9,hi,bw hi,auo,aup,eO,aug,aui,aK,bm (show i≤4611686018427387904 by omega)]
      by_cases h:(r.ar.getD i default).S.length≤300
      ·right;simp only [show¬ 300<(r.ar.getD i default).S.length by omega,auh,auj,h,true_and]
      ·left;simp only [show 300<(r.ar.getD i default).S.length by omega,aug,aui])
     (λm=>by simp only [A1,K9,SA,aup,Nat.lt_irrefl,auh,auj])with aC|⟨aC,aT⟩
    ·exact Or.inl aC
    ·exact Or.inr ⟨⟨Z,ab,aC,aj⟩,aT⟩
  ·left;simp only [show 40<r.ar.length by omega,aug,auu,Bool.true_or,auk,auj,ak,aui]
 ·left;simp only [show 300<r.bb.length by omega,aug,Bool.true_or,auk,auj,ak,aui]
structure adD(p:b7)(h:List bh):Prop where
 pl:p.aD.length≤20
 aa:h.length≤40
 b8:∀i,i<p.aD.length→(p.aD.getD i default).dY.length≤200∧(p.aD.getD i default).gI.length≤200
 hs:∀i,i<h.length→(h.getD i default).Key.length≤200
def aqP{n:Nat}(hn:2000≤n)(p:b7)(h:List bh):E8 n p h=some false∨(adD p h∧E8 n p h=some true):=by
 unfold E8
 have bn:=oV (L:=xu n h p) (len:=min h.length 41) (m:=n) (Q:=λi=>(h.getD i default).Key.length≤200) (fin:=K' n h p) (by omega)
  (λm i hi=>by
   have mb:i<h.length:=by omega
   have tZ:(i:Int)<41:=by omega
   simp only [xu,K_,mb,tZ,bw mb,auo,aup,eO,aug,aui,aK,bm (show i≤4611686018427387904 by omega)]
   by_cases g:(h.getD i default).Key.length≤200
   ·right;simp only [show¬ 200<(h.getD i default).Key.length by omega,auh,auj,g,true_and]
   ·left;simp only [show 200<(h.getD i default).Key.length by omega,aug,aui])
  (λm=>by
   simp only [xu,K_];by_cases e:h.length≤40
   ·rw [Nat.min_eq_left (by omega)];simp only [aup,Nat.lt_irrefl,auh,auj]
   ·rw [Nat.min_eq_right (by omega)]
    cases decide (((41:Nat):Int)<((h.length:Nat):Int))<;>rfl)
 have hp:=oV (L:=A2 n h p) (len:=min p.aD.length 21) (m:=n) (Q:=λi=>(p.aD.getD i default).dY.length≤200∧(p.aD.getD i default).gI.length≤200) (fin:=xu n h p n 0) (by omega)
  (λm i hi=>by
   have mb:i<p.aD.length:=by omega
   have tZ:(i:Int)<21:=by omega
   simp only [A2,La,mb,tZ,bw mb,auo,aup,eO,aug,aui,dv,auu,aK,bm (show i≤4611686018427387904 by omega)]
   by_cases Z:(p.aD.getD i default).dY.length≤200
   ·by_cases ab:(p.aD.getD i default).gI.length≤200
    ·right;simp only [show¬ 200<(p.aD.getD i default).dY.length by omega,show¬ 200<(p.aD.getD i default).gI.length by omega,auh,Bool.or_false,auj,Z,ab,true_and,and_self]
    ·left;simp only [show 200<(p.aD.getD i default).gI.length by omega,aug,auu,aui]
   ·left;simp only [show 200<(p.aD.getD i default).dY.length by omega,aug,Bool.true_or,aui])
  (λm=>by
   simp only [A2,La,SB];by_cases e:p.aD.length≤20
   ·rw [Nat.min_eq_left (by omega)];simp only [aup,Nat.lt_irrefl,auh,auj]
   ·rw [Nat.min_eq_right (by omega)]
    cases decide (((21:Nat):Int)<((p.aD.length:Nat):Int))<;>rfl)
 rcases hp with hp|⟨yI,yJ⟩
 ·exact Or.inl hp
 ·rw [yJ];rcases bn with bn|⟨aqQ,GT⟩
  ·exact Or.inl bn
  ·rw [GT];unfold K';by_cases a:p.aD.length≤20
   ·by_cases b:h.length≤40
    ·right
     refine⟨⟨a,b,λi hi=>yI i (by omega),λi hi=>aqQ i (by omega)⟩,?_⟩
     simp only [jG,a,b,aug,aui]
    ·left;simp only [jG,a,b,aug,auh,aui]
   ·left;simp only [jG,a,auh,auj]
structure adE(o:Outcome):Prop where
 l:o.Out.length≤20
 vs:∀i,i<o.Out.length→(o.Out.getD i default).S.length≤200
structure U4(s:bL):Prop where
 l:s.bJ.length≤12
 os:∀i,i<s.bJ.length→adE (s.bJ.getD i default).Outcome
def aqR{n:Nat}(hn:2000≤n)(l:List bL):E9 n l=some false∨((l.length≤6∧∀i,i<l.length→U4 (l.getD i default))∧E9 n l=some true):=by
 unfold E9
 rcases oV (L:=qs n l) (len:=min l.length 7) (m:=n) (Q:=λi=>U4 (l.getD i default)) (fin:=Lb n l) (by omega)
  (λm i hi=>by
   have mb:i<l.length:=by omega
   have tZ:(i:Int)<7:=by omega
   simp only [qs,Le,mb,tZ,bw mb,auo,aup,eO,aug,aui,aK];by_cases Z:(l.getD i default).bJ.length≤12
   ·simp only [show¬ 12<(l.getD i default).bJ.length by omega,auh,auj]
    rcases oV (L:=uW n (qs n l m) l (i:Int)) (len:=(l.getD i default).bJ.length) (m:=n) (Q:=λj=>adE ((l.getD i default).bJ.getD j default).Outcome) (fin:=qs n l m ((i+1:Nat):Int)) (by omega)
     (λm2 j hj=>by
      simp only [uW,Ld,mb,hj,bw mb,bw hj,auo,aup,eO,aug,aui,aK];by_cases ab:((l.getD i default).bJ.getD j default).Outcome.Out.length≤20
      ·simp only [show¬ 20<((l.getD i default).bJ.getD j default).Outcome.Out.length by omega,auh,auj]
       rcases oV (L:=A3 n (uW n (qs n l m) l (i:Int) m2) (qs n l m) l (i:Int) (j:Int)) (len:=((l.getD i default).bJ.getD j default).Outcome.Out.length) (m:=n) (Q:=λk=>(((l.getD i default).bJ.getD j default).Outcome.Out.getD k default).S.length≤200) (fin:=uW n (qs n l m) l (i:Int) m2 ((j+1:Nat):Int)) (by omega)
        (λm3 k hk=>by
         simp only [A3,Lc,hk,bw hk,auo,aup,eO,aug,aui,aK,bm (show k≤4611686018427387904 by omega)]
         by_cases aj:(((l.getD i default).bJ.getD j default).Outcome.Out.getD k default).S.length≤200
         ·right;simp only [show¬ 200<(((l.getD i default).bJ.getD j default).Outcome.Out.getD k default).S.length by omega,auh,auj,aj,true_and]
         ·left;simp only [show 200<(((l.getD i default).bJ.getD j default).Outcome.Out.getD k default).S.length by omega,aug,aui])
        (λm3=>by simp only [A3,Lc,SD,auo,aup,Nat.lt_irrefl,auh,auj,bm (show j≤4611686018427387904 by omega)])with h|⟨h,g⟩
       ·exact Or.inl h
       ·exact Or.inr ⟨⟨ab,h⟩,g⟩
      ·left;simp only [show 20<((l.getD i default).bJ.getD j default).Outcome.Out.length by omega,aug,aui])
     (λm2=>by simp only [uW,Ld,SC,bw mb,aK,auo,aup,Nat.lt_irrefl,auh,auj,bm (show i≤4611686018427387904 by omega)])with h|⟨h,g⟩
    ·exact Or.inl h
    ·exact Or.inr ⟨⟨Z,h⟩,g⟩
   ·left;simp only [show 12<(l.getD i default).bJ.length by omega,aug,aui])
  (λm=>by
   simp only [qs,Le];by_cases e:l.length≤6
   ·rw [Nat.min_eq_left (by omega)];simp only [aup,Nat.lt_irrefl,auh,auj]
   ·rw [Nat.min_eq_right (by omega)]
    cases decide (((7:Nat):Int)<((l.length:Nat):Int))<;>rfl)with h|⟨h,g⟩
 ·exact Or.inl h
 ·rw [g];unfold Lb;by_cases a:l.length≤6
  ·right;exact⟨⟨a,λi hi=>h i (by omega)⟩,by simp only [jG,a,aug]⟩
  ·left;simp only [jG,a,auh]
structure sj(r:bU):Prop where
 vw:r.az.Rows.length≤12
 rs:∀i,i<r.az.Rows.length→yc (r.az.Rows.getD i default)=true
 pl:r.cc.length≤4
 b8:∀i,i<r.cc.length→Mn (r.cc.getD i default) 60
 li:r.cJ.length≤6
 oC:∀i,i<r.cJ.length→U4 (r.cJ.getD i default)
 M3:adD r.Place r.bh
 adF:r.Queue.length≤6
 aqS:∀i,i<r.Queue.length→U3 (r.Queue.getD i default)
def adG{n:Nat}(hn:2000≤n)(r:bU)(hp:∀i,i<r.cc.length→qJ (r.cc.getD i default)):A5 n r=some false∨(sj r∧A5 n r=some true):=by
 unfold A5;rw [aqL hn,ak];simp only [eO,dv];cases Z:decide (r.az.Rows.length≤12)&&allI r.az.Rows.length λi=>yc (r.az.Rows.getD i default)
 ·left;simp only [aul,Bool.true_or,auk,auj,aui,ak]
 ·by_cases ab:r.cc.length≤4
  ·by_cases aj:r.Queue.length≤6
   ·simp only [show¬ 4<r.cc.length by omega,show¬ 6<r.Queue.length by omega,auh,auk,Bool.or_false,Bool.false_or,aul,aui]
    rcases aqR hn r.cJ with aC|⟨⟨aC,aT⟩,bP⟩
    ·left;rw [aC,ak];simp only [aul,Bool.true_or,auk,auj,aui,ak]
    ·rw [bP,ak];simp only [auk,aul,aui,Bool.false_or,Bool.or_false]
     (try rw [B2])
     rcases aqP hn r.Place r.bh with cM|⟨cM,dj⟩
     ·left;rw [cM,ak];rfl
     ·rw [dj,ak];simp only [auk,auj]
      rcases oV (L:=A4 n r) (len:=r.cc.length) (m:=n) (Q:=λi=>Mn (r.cc.getD i default) 60) (fin:=xv n r n 0) (by omega)
       (λm i hi=>by
        obtain⟨b,e1,e2⟩:=anI (n:=n) (r.cc.getD i default) 60 (by omega) (by omega) (hp i hi)
        simp only [A4,Lg,hi,bw hi,auo,aup,aug,aui,aK,bm (show i≤4611686018427387904 by omega)]
        rw [show E6 n (r.cc.getD i default) 60=some b from e1,ak]
        cases b
        ·left;rfl
        ·right;exact⟨e2 rfl,rfl⟩)
       (λm=>by simp only [A4,Lg,SF,aup,Nat.lt_irrefl,auh,auj])with en|⟨en,g9⟩
      ·exact Or.inl en
      ·rw [g9]
       rcases oV (L:=xv n r) (len:=r.Queue.length) (m:=n) (Q:=λi=>U3 (r.Queue.getD i default)) (fin:=some true) (by omega)
        (λm i hi=>by
         simp only [xv,Lf,hi,bw hi,auo,aup,aug,aui,aK,bm (show i≤4611686018427387904 by omega)]
         rcases aqO hn (r.Queue.getD i default)with h|⟨h,g⟩
         ·left;rw [h];rfl
         ·right;rw [g];exact⟨h,rfl⟩)
        (λm=>by simp only [xv,Lf,SE,aup,Nat.lt_irrefl,auh,auj])with gH|⟨gH,g10⟩
       ·exact Or.inl gH
       ·rw [Bool.and_eq_true,decide_eq_true_eq,ih]at Z;exact Or.inr ⟨⟨Z.1,Z.2,ab,en,aC,aT,cM,aj,gH⟩,g10⟩
   ·left;simp only [show 6<r.Queue.length by omega,aug,auu,Bool.true_or,auk,auj,aui,ak]
  ·left;simp only [show 4<r.cc.length by omega,aug,auu,Bool.true_or,auk,auj,aui,ak]
def np(r:Row):bq:=(r.bj.getD (r.bj.length-1) default).br
def eR:List Row→List bo
 |[]=>[]
 |r::l=>if(np r).Kind=0 then eR l else⟨r.Key,np r⟩::eR l
structure B7(n:Nat)(a:Int)(r:Row):Prop where
 l:r.bj.length<n
 b:r.bj.length≤1000000000
 p:0<r.bj.length
 s:∀i,i<r.bj.length→(r.bj.getD i default).cl≤a
def aqT{n:Nat}{a:Int}{r:Row}(h:B7 n a r):Dw n r a=some ((r.bj.length:Nat):Int):=by
 have aa:=h.l;have hb:=h.b;unfold Dw
 have key:∀m i,r.bj.length<m+i→i≤r.bj.length→wH n a r m (i:Int)=some ((r.bj.length:Nat):Int):=by
  intro m;induction m with
  |zero=>intro i Z ab;omega
  |succ m aG=>
   intro i Z ab;simp only [wH,If,Ie,aup,auo];by_cases hi:i<r.bj.length
   ·simp only [hi,bw hi,aug,auu,aK,aui,h.s i hi,bm (show i≤4611686018427387904 by omega)]
    exact aG (i+1) (by omega) (by omega)
   ·obtain rfl:i=r.bj.length:=by omega
    simp only [Nat.lt_irrefl,auh,aul,Bool.true_or,aK,auj]
 exact key n 0 (by omega) (by omega)
def aqU{n:Nat}{a:Int}{r:Row}(h:B7 n a r):zc n r a=some (np r):=by
 have aa:=h.l;have hb:=h.b;have hp:=h.p;unfold zc;rw [aqT h,ak];have e:auz (((r.bj.length:Nat):Int)-1)=((r.bj.length-1:Nat):Int):=by(try unfold auz);rw [IntKind.wrap_i64];omega
 simp only [show¬ ((r.bj.length:Nat):Int)=0 by omega,auh,auj,e,bw (show r.bj.length-1<r.bj.length by omega),aK,auo]
 rfl
def aqV{n:Nat}{a:Int}{r:Row}(h:B7 n a r):KZ n r a=some (np r):=by
 have aa:=h.l;have hb:=h.b;have hp:=h.p;unfold KZ
 have key:∀m i K N S,r.bj.length<m+i→i≤r.bj.length→E2 n a r m K N S (i:Int)=some (if i=r.bj.length then⟨K,N,S⟩else np r):=by
  intro m;induction m with
  |zero=>intro i K N S Z ab;omega
  |succ m aG=>
   intro i K N S Z ab;simp only [E2,Sn,Sm,KY,aup,auo];by_cases hi:i<r.bj.length
   ·simp only [hi,bw hi,aug,aK,aui,h.s i hi,bm (show i≤4611686018427387904 by omega)]
    rw [aG (i+1) _ _ _ (by omega) (by omega),if_neg (show¬ i=r.bj.length by omega)]
    by_cases e:i+1=r.bj.length
    ·rw [if_pos e];unfold np;rw [←e,Nat.add_sub_cancel]
    ·rw [if_neg e]
   ·obtain rfl:i=r.bj.length:=by omega
    simp only [Nat.lt_irrefl,auh,auj,auv]
 have:=key n 0 0 0 [] (by omega) (by omega)
 rw [if_neg (by omega)]at this
 exact this
section
variable {n:Nat} {s:az} {a:Int} (aa:s.Rows.length≤1000) (hn:2000≤n) (h:∀i,i<s.Rows.length→B7 n a (s.Rows.getD i default)) (aY:s.cd≤a) (ha:a≤s.b2)
include aa hn h aY ha
theorem aqW(av:wG n s=some true):wJ n s a=some (eR s.Rows,0):=by
 have key:∀m i acc,s.Rows.length<m+i→i≤s.Rows.length→acc.length≤i→wI n a s m (i:Int) acc=some (acc++eR (s.Rows.drop i),0):=by
  intro m;induction m with
  |zero=>intro i acc Z ab;omega
  |succ m aG=>
   intro i acc Z ab aj;simp only [wI,Ih,aup];by_cases hi:i<s.Rows.length
   ·simp only [hi,bw hi,auo,aug,aui,aK];rw [aqU (h i hi),ak,e9 s.Rows i default hi,eR];by_cases k:(np (s.Rows.getD i default)).Kind=0
    ·simp only [k,aug,auk,auj,zd,bm (show i≤4611686018427387904 by omega),auv]
     exact aG (i+1) _ (by omega) (by omega) (by omega)
    ·simp only [k,auh,aul,aui,aur,zd,bm (show i≤4611686018427387904 by omega),lj (show(acc.length+1)*48≤140737488355328 by omega),aK,auw]
     rw [aG (i+1) _ (by omega) (by omega) (by rw [auq,aur];omega)]
     simp
   ·obtain rfl:i=s.Rows.length:=by omega
    simp only [Nat.lt_irrefl,auh,auj,Ig,gu s.Rows _ hi,eR,List.append_nil]
 unfold wJ;rw [av,ak]
 have ai:zb n s a=some 0:=by
  unfold zb;simp only [show¬ a<s.cd by omega,show¬ s.b2<a by omega,auh,auj]
 simp only [auk,auj,ai,ak,aug];exact key n 0 [] (by omega) (by omega) (by simp)
theorem aqX(av:AD n s=some true):K0 n s a=some (eR s.Rows,0):=by
 have key:∀m i acc,s.Rows.length<m+i→i≤s.Rows.length→acc.length≤i→AW n a s m acc (i:Int)=some (acc++eR (s.Rows.drop i)):=by
  intro m;induction m with
  |zero=>intro i acc Z ab;omega
  |succ m aG=>
   intro i acc Z ab aj;simp only [AW,Sp,aup];by_cases hi:i<s.Rows.length
   ·simp only [hi,bw hi,auo,aug,aui,aK];rw [aqV (h i hi),ak,e9 s.Rows i default hi,eR];by_cases k:(np (s.Rows.getD i default)).Kind=0
    ·simp only [k,aug,auk,auj,E3,bm (show i≤4611686018427387904 by omega),auv]
     exact aG (i+1) _ (by omega) (by omega) (by omega)
    ·simp only [k,auh,aul,aui,aur,E3,bm (show i≤4611686018427387904 by omega),lj (show(acc.length+1)*48≤140737488355328 by omega),aK,auw]
     rw [aG (i+1) _ (by omega) (by omega) (by rw [auq,aur];omega)]
     simp
   ·obtain rfl:i=s.Rows.length:=by omega
    simp only [Nat.lt_irrefl,auh,auj,So,gu s.Rows _ hi,eR,List.append_nil]
 unfold K0 Sq;rw [av,ak];simp only [show¬ a<s.cd by omega,show¬ s.b2<a by omega,auh,auj,auk]
 rw [show AW n a s n [] 0=_ from key n 0 [] (by omega) (by omega) (by simp),ak]
 rfl
end
def adH{n:Nat}{s:az}(hs:lk s=true)(av:∀i,i<s.Rows.length→(s.Rows.getD i default).bj.length<n∧(s.Rows.getD i default).bj.length≤1000000000)(i:Nat)(hi:i<s.Rows.length):B7 n s.b2 (s.Rows.getD i default):=by
 unfold lk at hs;rw [Bool.and_eq_true,ih]at hs;have Z:=hs.2 i hi;rw [Bool.and_eq_true]at Z;have ab:=Z.2;unfold pK at ab;rw [Bool.and_eq_true,ih]at ab;obtain⟨aj,aC⟩:=ab;refine⟨(av i hi).1,(av i hi).2,?_,λk hk=>?_⟩
 ·by_cases e:(s.Rows.getD i default).bj.length=0
  ·rw [e]at aj;simp at aj
  ·omega
 ·have aT:=aC k hk;unfold tC at aT;simp only [Bool.and_eq_true,Bool.not_eq_true',decide_eq_false_iff_not]at aT;have:=aT.1.1.2
  omega
def B8:List aux→Prop
 |[]=>True
 |k::l=>(∀j∈l,Op.bytesLess k j=true)∧B8 l
def adI:∀l:List aux,(∀i,i+1<l.length→Op.bytesLess (l.getD i []) (l.getD (i+1) [])=true)→B8 l
 |[],_=>trivial
 |k::l,h=>by
  have aG:=adI l λi hi=>by have:=h (i+1) (by simpa using hi);simpa using this
  refine⟨λj hj=>?_,aG⟩
  cases l with
  |nil=>simp at hj
  |cons al l=>
   have h0:Op.bytesLess k al=true:=by simpa using h 0 (by simp)
   rcases List.mem_cons.1 hj with rfl|hj
   ·exact h0
   ·exact acP _ _ _ h0 (aG.1 j hj)
def adJ:∀(l:List aux) (i:Nat),B8 l→i+1<l.length→Op.bytesLess (l.getD i []) (l.getD (i+1) [])=true
 |[],i,_,h=>by simp at h
 |k::l,0,⟨Z,_⟩,h=>by
  cases l with
  |nil=>simp at h
  |cons al l=>simpa using Z al (by simp)
 |k::l,i+1,⟨_,ab⟩,h=>by
  have:=adJ l i ab (by simpa using h)
  simpa using this
def U5:∀l:List Row,(∀p∈eR l,p.Key∈l.map (·.Key))
 |[],p,h=>by simp [eR]at h
 |r::l,p,h=>by
  unfold eR at h;by_cases k:(np r).Kind=0
  ·rw [if_pos k]at h;have:=U5 l p h
   simp only [List.map_cons,List.mem_cons];exact Or.inr this
  ·rw [if_neg k]at h;rcases List.mem_cons.1 h with rfl|h
   ·simp
   ·have:=U5 l p h
    simp only [List.map_cons,List.mem_cons];exact Or.inr this
def adK:∀l:List Row,B8 (l.map (·.Key))→B8 ((eR l).map (·.Key))
 |[],_=>trivial
 |r::l,h=>by
  obtain⟨Z,ab⟩:=h;have aG:=adK l ab;unfold eR;by_cases k:(np r).Kind=0
  ·rw [if_pos k];exact aG
  ·rw [if_neg k];refine⟨λj hj=>?_,aG⟩
   obtain⟨p,hp,rfl⟩:=List.mem_map.1 hj;exact Z _ (U5 l p hp)
def Gu:∀(l:List Row) (p:bo),p∈eR l→∃r∈l,p=⟨r.Key,np r⟩∧(np r).Kind≠0
 |[],p,h=>by simp [eR]at h
 |r::l,p,h=>by
  unfold eR at h;by_cases k:(np r).Kind=0
  ·rw [if_pos k]at h;obtain⟨x,hx,e⟩:=Gu l p h;exact⟨x,by simp [hx],e⟩
  ·rw [if_neg k]at h;rcases List.mem_cons.1 h with rfl|h
   ·exact⟨r,by simp,rfl,k⟩
   ·obtain⟨x,hx,e⟩:=Gu l p h;exact⟨x,by simp [hx],e⟩
def adL{s:az}(hs:lk s=true)(hb:∀i,i<s.Rows.length→(s.Rows.getD i default).bj.length≤1000000000)(i:Nat)(hi:i<s.Rows.length):jw (s.Rows.getD i default).Key=true∧je (np (s.Rows.getD i default))=true:=by
 have h0:=adH (n:=1000000001) hs (λi hi=>⟨by have:=hb i hi;omega,hb i hi⟩) i hi
 unfold lk at hs;rw [Bool.and_eq_true,ih]at hs;have Z:=hs.2 i hi;simp only [Bool.and_eq_true]at Z;refine⟨Z.1.1,?_⟩
 have ab:=Z.2;unfold pK at ab;rw [Bool.and_eq_true,ih]at ab;have hp:=h0.p;have aT:=ab.2 ((s.Rows.getD i default).bj.length-1) (by omega)
 unfold tC at aT;simp only [Bool.and_eq_true]at aT;exact aT.1.2
def U6{α:Type}[Inhabited α]{l:List α}{x:α}(h:x∈l):∃i,i<l.length∧l.getD i default=x:=by
 obtain⟨i,hi,e⟩:=List.mem_iff_getElem.1 h;exact⟨i,hi,by rw [List.getD_eq_getElem?_getD,List.getElem?_eq_getElem hi];exact e⟩
def M4{α:Type}[Inhabited α](l:List α)(f:α→aux)(i:Nat)(hi:i<l.length):(l.map f).getD i []=f (l.getD i default):=by
 simp only [List.getD_eq_getElem?_getD,List.getElem?_map,List.getElem?_eq_getElem hi,Option.map_some,Option.getD_some]
def vx:∀l:List Row,(eR l).length≤l.length
 |[]=>Nat.le_refl _
 |r::l=>by
  have:=vx l
  unfold eR;split
  ·simp only [aum];omega
  ·simp only [aum];omega
def aqY{s:az}(hs:lk s=true)(aa:s.Rows.length≤1000000)(hb:∀i,i<s.Rows.length→(s.Rows.getD i default).bj.length≤1000000000):mf (eR s.Rows)=true:=by
 have hlen:=vx s.Rows
 have aqZ:B8 (s.Rows.map (·.Key)):=by
  refine adI _ λi hi=>?_
  rw [List.length_map]at hi;have h0:=hs;unfold lk at h0;rw [Bool.and_eq_true,ih]at h0;have Z:=h0.2 (i+1) hi;simp only [Bool.and_eq_true]at Z;have ab:=Z.1.2;rw [UB i (by omega),show decide (0<((i+1:Nat):Int))=true from decide_eq_true (by omega),auk,Bool.false_or]at ab
  rw [M4 s.Rows (·.Key) i (by omega),M4 s.Rows (·.Key) (i+1) hi]
  exact ab
 have aq0:=adK _ aqZ
 have U7:∀i,i<(eR s.Rows).length→jw ((eR s.Rows).getD i default).Key=true∧je ((eR s.Rows).getD i default).br=true∧((eR s.Rows).getD i default).br.Kind≠0:=λi hi=>by
  have hm:(eR s.Rows).getD i default∈eR s.Rows:=by
   rw [List.getD_eq_getElem?_getD,List.getElem?_eq_getElem hi];exact List.getElem_mem hi
  obtain⟨r,ai,e,hk⟩:=Gu _ _ hm;obtain⟨j,hj,rfl⟩:=U6 ai;obtain⟨a,b⟩:=adL hs hb j hj;rw [e];exact⟨a,b,hk⟩
 unfold mf x0;rw [Bool.and_eq_true,ih,ih];refine⟨λi hi=>?_,λi hi=>by rw [decide_eq_false (U7 i hi).2.2];rfl⟩
 rw [(U7 i hi).1,(U7 i hi).2.1];cases i with
 |zero=>rfl
 |succ i=>
  have:=adJ _ i aq0 (by rw [List.length_map];exact hi)
  rw [M4 (eR s.Rows) (λx=>x.Key) i (by omega),M4 (eR s.Rows) (λx=>x.Key) (i+1) hi]at this
  rw [UB i (by omega),this]
  simp
def adM{α:Type}:∀(l:List α),l.length=4→∃a b c d,l=[a,b,c,d]
 |[a,b,c,d],_=>⟨a,b,c,d,rfl⟩
 |[],h=>by simp at h
 |[_],h=>by simp at h
 |[_,_],h=>by simp at h
 |[_,_,_],h=>by simp at h
 |_::_::_::_::_::_,h=>by simp at h
section
variable {H:Type} {enc:TypeId×Value→H} {W:World}
theorem U8:Tryz.prog.cellsOf 165=4:=by kernel_rfl
theorem pN:Tryz.prog.cellsOf 3=1:=by kernel_rfl
theorem qV:Tryz.prog.cellsOf 2=1:=by kernel_rfl
theorem pO:Tryz.prog.cellsOf 9=1:=by kernel_rfl
theorem aq1:Tryz.prog.cellsOf 163=1:=by kernel_rfl
theorem adN:∀l:List Expr,(∀i,i<l.length→mL (l.getD i default))→BE l
 |[],h=>trivial
 |x::l,h=>⟨h 0 (by simp),adN l λi hi=>by have:=h (i+1) (by simpa using hi);simpa using this⟩
theorem adO:∀(fuel:Nat) (cs:List Value) (x:DataW H×List MemPlace),DataW.trod enc Tryz.prog W 0 (λ_=>true) true fuel 165 cs=some x→∃e:Expr,mL e∧f0 W cs (b3 e).cells:=by
 intro fuel;induction fuel using Nat.strongRecOn with
 |_ fuel aG=>
  intro cs x h;obtain⟨xs,n,hn,_,aa,hl,aY⟩:=DataW.trod_struct Tryz.underlying165 h;rw [U8]at aa;obtain⟨c0,c1,c2,c3,rfl⟩:=adM cs aa;obtain⟨fI,dA,ey,jb,rfl⟩:=adM xs hl;have h0:DataW.trod enc Tryz.prog W 0 (λ_=>true) true n 3 (List.take (Tryz.prog.cellsOf 3) [c0,c1,c2,c3])=some fI:=aY 0 _ rfl
  have Z:DataW.trod enc Tryz.prog W 0 (λ_=>true) true n 2 (List.take (Tryz.prog.cellsOf 2) [c1,c2,c3])=some dA:=aY 1 _ rfl
  have ab:DataW.trod enc Tryz.prog W 0 (λ_=>true) true n 9 (List.take (Tryz.prog.cellsOf 9) [c2,c3])=some ey:=aY 2 _ rfl
  have aj:DataW.trod enc Tryz.prog W 0 (λ_=>true) true n 163 (List.take (Tryz.prog.cellsOf 163) [c3])=some jb:=aY 3 _ rfl
  rw [pN]at h0;rw [qV]at Z;rw [pO]at ab;rw [aq1]at aj;obtain⟨Op,_,dF⟩:=i8 (k:=.i64) Tryz.underlying3 h0;obtain⟨N,aI,r1⟩:=i8 (k:=.i64) Tryz.underlying2 Z;obtain⟨S,Gv,r2⟩:=pf Tryz.underlying9 ab;obtain⟨A,aO,cF,r3⟩:=l9 (encA:=b3) (ok:=mL) Tryz.underlying163 U8 (by omega) aj (λm cs' gf hm hx=>aG m (by omega) cs' gf hx)
  refine⟨⟨Op,N,S,A⟩,⟨aI.2,Gv,aO,adN A cF⟩,?_⟩
  have:=((dF.app r1).app r2).app r3
  exact this.HL (Dh ⟨Op,N,S,A⟩)
end
def aq2{α:Type}(l:List α)(h:l.length=13):∃a b c d e f g i j k m n o,l=[a,b,c,d,e,f,g,i,j,k,m,n,o]:=by
 match l,h with
 |[a,b,c,d,e,f,g,i,j,k,m,n,o],_=>exact⟨a,b,c,d,e,f,g,i,j,k,m,n,o,rfl⟩
def aq3{α:Type}(l:List α)(h:l.length=7):∃a b c d e f g,l=[a,b,c,d,e,f,g]:=by
 match l,h with
 |[a,b,c,d,e,f,g],_=>exact⟨a,b,c,d,e,f,g,rfl⟩
def adP{α:Type}(l:List α)(h:l.length=3):∃a b c,l=[a,b,c]:=by
 match l,h with
 |[a,b,c],_=>exact⟨a,b,c,rfl⟩
def adQ{α:Type}(l:List α)(h:l.length=2):∃a b,l=[a,b]:=by
 match l,h with
 |[a,b],_=>exact⟨a,b,rfl⟩
section
variable {H:Type} {enc:TypeId×Value→H} {W:World}
theorem M5:Tryz.prog.cellsOf 167=13:=by kernel_rfl
theorem adR:Tryz.prog.cellsOf 109=2:=by kernel_rfl
theorem adS:Tryz.prog.cellsOf 52=3:=by kernel_rfl
theorem adT:Tryz.prog.cellsOf 50=1:=by kernel_rfl
theorem aq4:Tryz.prog.cellsOf 49=1:=by kernel_rfl
theorem M6:∀l:List Stmt,(∀i,i<l.length→rQ (l.getD i default))→rR l
 |[],h=>trivial
 |x::l,h=>⟨h 0 (by simp),M6 l λi hi=>by have:=h (i+1) (by simpa using hi);simpa using this⟩
theorem aq5:∀(fuel:Nat) (cs:List Value) (x:DataW H×List MemPlace),DataW.trod enc Tryz.prog W 0 (λ_=>true) true fuel 167 cs=some x→∃s:Stmt,rQ s∧f0 W cs (bT s).cells:=by
 intro fuel;induction fuel using Nat.strongRecOn with
 |_ fuel aG=>
  intro cs x h;obtain⟨xs,n,hn,_,aa,hl,aY⟩:=DataW.trod_struct Tryz.underlying167 h;rw [M5]at aa;obtain⟨c0,c1,c2,c3,c4,c5,lU,ln,pP,c9,mG,B9,c12,rfl⟩:=aq2 cs aa;obtain⟨fI,dA,ey,jb,fr,kL,qm,rfl⟩:=aq3 xs hl;have h0:DataW.trod enc Tryz.prog W 0 (λ_=>true) true n 3 (List.take (Tryz.prog.cellsOf 3) [c0,c1,c2,c3,c4,c5,lU,ln,pP,c9,mG,B9,c12])=some fI:=aY 0 _ rfl
  have Z:DataW.trod enc Tryz.prog W 0 (λ_=>true) true n 9 (List.take (Tryz.prog.cellsOf 9) [c1,c2,c3,c4,c5,lU,ln,pP,c9,mG,B9,c12])=some dA:=aY 1 _ rfl
  have ab:DataW.trod enc Tryz.prog W 0 (λ_=>true) true n 3 (List.take (Tryz.prog.cellsOf 3) [c2,c3,c4,c5,lU,ln,pP,c9,mG,B9,c12])=some ey:=aY 2 _ rfl
  have aj:DataW.trod enc Tryz.prog W 0 (λ_=>true) true n 165 (List.take (Tryz.prog.cellsOf 165) [c3,c4,c5,lU,ln,pP,c9,mG,B9,c12])=some jb:=aY 3 _ rfl
  have aC:DataW.trod enc Tryz.prog W 0 (λ_=>true) true n 165 (List.take (Tryz.prog.cellsOf 165) [ln,pP,c9,mG,B9,c12])=some fr:=aY 4 _ rfl
  have aT:DataW.trod enc Tryz.prog W 0 (λ_=>true) true n 50 (List.take (Tryz.prog.cellsOf 50) [B9,c12])=some kL:=aY 5 _ rfl
  have bP:DataW.trod enc Tryz.prog W 0 (λ_=>true) true n 50 (List.take (Tryz.prog.cellsOf 50) [c12])=some qm:=aY 6 _ rfl
  rw [pN]at h0 ab;rw [pO]at Z;rw [U8]at aj aC;rw [adT]at aT bP;obtain⟨Op,_,dF⟩:=i8 (k:=.i64) Tryz.underlying3 h0;obtain⟨Nm,aI,r1⟩:=pf Tryz.underlying9 Z;obtain⟨adU,cV,r2⟩:=i8 (k:=.i64) Tryz.underlying3 ab;obtain⟨A,aO,r3⟩:=adO n _ _ aj;obtain⟨B,cN,bx⟩:=adO n _ _ aC;obtain⟨an,atR,U9,b'⟩:=l9 (encA:=bT) (ok:=rQ) Tryz.underlying50 M5 (by omega) aT (λm cs' gf hm hx=>aG m (by omega) cs' gf hx)
  obtain⟨U',atS,U_,bO⟩:=l9 (encA:=bT) (ok:=rQ) Tryz.underlying50 M5 (by omega) bP (λm cs' gf hm hx=>aG m (by omega) cs' gf hx)
  refine⟨⟨Op,Nm,adU,A,B,an,U'⟩,⟨cV,aI,aO,cN,M6 an U9,M6 U' U_⟩,?_⟩
  have:=(((((dF.app r1).app r2).app (r3.HL (Ph A))).app (bx.HL (Ph B))).app b').app bO
  exact this.HL (X_ ⟨Op,Nm,adU,A,B,an,U'⟩)
theorem aq6(fuel:Nat)(cs:List Value)(x:DataW H×List MemPlace)(h:DataW.trod enc Tryz.prog W 0 (λ_=>true) true fuel 109 cs=some x):∃p:Param,p.Name.length≤9223372036854775807∧f0 W cs (ed p).cells:=by
 obtain⟨xs,n,hn,_,aa,hl,aY⟩:=DataW.trod_struct Tryz.underlying109 h;rw [adR]at aa;obtain⟨c0,c1,rfl⟩:=adQ cs aa;obtain⟨fI,dA,rfl⟩:=adQ xs hl;have h0:DataW.trod enc Tryz.prog W 0 (λ_=>true) true n 9 (List.take (Tryz.prog.cellsOf 9) [c0,c1])=some fI:=aY 0 _ rfl
 have Z:DataW.trod enc Tryz.prog W 0 (λ_=>true) true n 3 (List.take (Tryz.prog.cellsOf 3) [c1])=some dA:=aY 1 _ rfl
 rw [pO]at h0;rw [pN]at Z;obtain⟨Nm,aI,dF⟩:=pf Tryz.underlying9 h0;obtain⟨aq7,_,r1⟩:=i8 (k:=.i64) Tryz.underlying3 Z;exact⟨⟨Nm,aq7⟩,aI,dF.app r1⟩
theorem aq8(fuel:Nat)(cs:List Value)(x:DataW H×List MemPlace)(h:DataW.trod enc Tryz.prog W 0 (λ_=>true) true fuel 52 cs=some x):∃p:bb,qJ p∧f0 W cs (d' p).cells:=by
 obtain⟨xs,n,hn,_,aa,hl,aY⟩:=DataW.trod_struct Tryz.underlying52 h;rw [adS]at aa;obtain⟨c0,c1,c2,rfl⟩:=adP cs aa;obtain⟨fI,dA,ey,rfl⟩:=adP xs hl;have h0:DataW.trod enc Tryz.prog W 0 (λ_=>true) true n 9 (List.take (Tryz.prog.cellsOf 9) [c0,c1,c2])=some fI:=aY 0 _ rfl
 have Z:DataW.trod enc Tryz.prog W 0 (λ_=>true) true n 49 (List.take (Tryz.prog.cellsOf 49) [c1,c2])=some dA:=aY 1 _ rfl
 have ab:DataW.trod enc Tryz.prog W 0 (λ_=>true) true n 50 (List.take (Tryz.prog.cellsOf 50) [c2])=some ey:=aY 2 _ rfl
 rw [pO]at h0;rw [aq4]at Z;rw [adT]at ab;obtain⟨Nm,aI,dF⟩:=pf Tryz.underlying9 h0;obtain⟨aq9,kD,U9,r1⟩:=l9 (encA:=ed) (ok:=λp:Param=>p.Name.length≤9223372036854775807) Tryz.underlying49 adR (by omega) Z (λm cs' gf hm hx=>aq6 m cs' gf hx)
 obtain⟨an,cN,U_,r2⟩:=l9 (encA:=bT) (ok:=rQ) Tryz.underlying50 M5 (by omega) ab (λm cs' gf hm hx=>aq5 m cs' gf hx)
 exact⟨⟨Nm,aq9,an⟩,⟨aI,kD,U9,M6 an U_⟩,(dF.app r1).app r2⟩
end
def yd{α:Type}(l:List α)(h:l.length=2):∃a0 aZ,l=[a0,aZ]:=by
 match l,h with
 |[a0,aZ],_=>exact⟨a0,aZ,rfl⟩
def qW{α:Type}(l:List α)(h:l.length=3):∃a0 aZ a2,l=[a0,aZ,a2]:=by
 match l,h with
 |[a0,aZ,a2],_=>exact⟨a0,aZ,a2,rfl⟩
def aq'{α:Type}(l:List α)(h:l.length=4):∃a0 aZ a2 a3,l=[a0,aZ,a2,a3]:=by
 match l,h with
 |[a0,aZ,a2,a3],_=>exact⟨a0,aZ,a2,a3,rfl⟩
def Va{α:Type}(l:List α)(h:l.length=5):∃a0 aZ a2 a3 a4,l=[a0,aZ,a2,a3,a4]:=by
 match l,h with
 |[a0,aZ,a2,a3,a4],_=>exact⟨a0,aZ,a2,a3,a4,rfl⟩
def aq_{α:Type}(l:List α)(h:l.length=6):∃a0 aZ a2 a3 a4 a5,l=[a0,aZ,a2,a3,a4,a5]:=by
 match l,h with
 |[a0,aZ,a2,a3,a4,a5],_=>exact⟨a0,aZ,a2,a3,a4,a5,rfl⟩
def adV{α:Type}(l:List α)(h:l.length=8):∃a0 aZ a2 a3 a4 a5 qI ye,l=[a0,aZ,a2,a3,a4,a5,qI,ye]:=by
 match l,h with
 |[a0,aZ,a2,a3,a4,a5,qI,ye],_=>exact⟨a0,aZ,a2,a3,a4,a5,qI,ye,rfl⟩
def ara{α:Type}(l:List α)(h:l.length=11):∃a0 aZ a2 a3 a4 a5 qI ye Vb a9 Vc,l=[a0,aZ,a2,a3,a4,a5,qI,ye,Vb,a9,Vc]:=by
 match l,h with
 |[a0,aZ,a2,a3,a4,a5,qI,ye,Vb,a9,Vc],_=>exact⟨a0,aZ,a2,a3,a4,a5,qI,ye,Vb,a9,Vc,rfl⟩
section
variable {H:Type} {enc:TypeId×Value→H} {W:World}
theorem adW:Tryz.prog.cellsOf 4=1:=by kernel_rfl
theorem arb:Tryz.prog.cellsOf 22=1:=by kernel_rfl
theorem adX:Tryz.prog.cellsOf 24=3:=by kernel_rfl
theorem arc:Tryz.prog.cellsOf 25=1:=by kernel_rfl
theorem ard:Tryz.prog.cellsOf 26=1:=by kernel_rfl
theorem are:Tryz.prog.cellsOf 27=1:=by kernel_rfl
theorem adY:Tryz.prog.cellsOf 29=2:=by kernel_rfl
theorem arf:Tryz.prog.cellsOf 30=1:=by kernel_rfl
theorem arh:Tryz.prog.cellsOf 31=1:=by kernel_rfl
theorem ari:Tryz.prog.cellsOf 32=1:=by kernel_rfl
theorem arj:Tryz.prog.cellsOf 34=11:=by kernel_rfl
theorem adZ:Tryz.prog.cellsOf 54=1:=by kernel_rfl
theorem ad0:Tryz.prog.cellsOf 55=1:=by kernel_rfl
theorem ad1:Tryz.prog.cellsOf 57=3:=by kernel_rfl
theorem ad2:Tryz.prog.cellsOf 59=8:=by kernel_rfl
theorem ad3:Tryz.prog.cellsOf 61=5:=by kernel_rfl
theorem M7:Tryz.prog.cellsOf 63=3:=by kernel_rfl
theorem ad4:Tryz.prog.cellsOf 65=4:=by kernel_rfl
theorem ark:Tryz.prog.cellsOf 66=1:=by kernel_rfl
theorem ad5:Tryz.prog.cellsOf 68=2:=by kernel_rfl
theorem arl:Tryz.prog.cellsOf 99=1:=by kernel_rfl
theorem ad6:Tryz.prog.cellsOf 101=3:=by kernel_rfl
theorem ad7:Tryz.prog.cellsOf 103=3:=by kernel_rfl
theorem ad8:Tryz.prog.cellsOf 105=5:=by kernel_rfl
theorem ad9:Tryz.prog.cellsOf 107=2:=by kernel_rfl
structure yf(x:bq):Prop where
 atT:e6 x.Kind
 ad':e6 x.N
 atU:x.S.length≤9223372036854775807
theorem Vd(fuel:Nat)(cs:List Value)(x:DataW H×List MemPlace)(h:DataW.trod enc Tryz.prog W 0 (λ_=>true) true fuel 63 cs=some x):∃p:bq,yf p∧f0 W cs (d9 p).cells:=by
 obtain⟨xs,n,hn,_,aa,hl,aY⟩:=DataW.trod_struct Tryz.underlying63 h;rw [M7]at aa;obtain⟨c0,c1,c2,rfl⟩:=qW cs aa;obtain⟨fI,dA,ey,rfl⟩:=qW xs hl;have h0:DataW.trod enc Tryz.prog W 0 (λ_=>true) true n 3 (List.take (Tryz.prog.cellsOf 3) [c0,c1,c2])=some fI:=aY 0 _ rfl
 rw [pN]at h0;obtain⟨v0,fo,dF⟩:=i8 (k:=.i64) Tryz.underlying3 h0;have Z:DataW.trod enc Tryz.prog W 0 (λ_=>true) true n 2 (List.take (Tryz.prog.cellsOf 2) [c1,c2])=some dA:=aY 1 _ rfl
 rw [qV]at Z;obtain⟨v1,cC,r1⟩:=i8 (k:=.i64) Tryz.underlying2 Z;have ab:DataW.trod enc Tryz.prog W 0 (λ_=>true) true n 9 (List.take (Tryz.prog.cellsOf 9) [c2])=some ey:=aY 2 _ rfl
 rw [pO]at ab;obtain⟨v2,al,r2⟩:=pf Tryz.underlying9 ab;exact⟨⟨v0,v1,v2⟩,⟨⟨fo.1,fo.2⟩,⟨cC.1,cC.2⟩,al⟩,((dF.app r1).app r2)⟩
structure Ve(x:Version):Prop where
 atV:e6 x.cl
 arm:yf x.br
theorem arn(fuel:Nat)(cs:List Value)(x:DataW H×List MemPlace)(h:DataW.trod enc Tryz.prog W 0 (λ_=>true) true fuel 65 cs=some x):∃p:Version,Ve p∧f0 W cs (hY p).cells:=by
 obtain⟨xs,n,hn,_,aa,hl,aY⟩:=DataW.trod_struct Tryz.underlying65 h;rw [ad4]at aa;obtain⟨c0,c1,c2,c3,rfl⟩:=aq' cs aa;obtain⟨fI,dA,rfl⟩:=yd xs hl;have h0:DataW.trod enc Tryz.prog W 0 (λ_=>true) true n 2 (List.take (Tryz.prog.cellsOf 2) [c0,c1,c2,c3])=some fI:=aY 0 _ rfl
 rw [qV]at h0;obtain⟨v0,fo,dF⟩:=i8 (k:=.i64) Tryz.underlying2 h0;have Z:DataW.trod enc Tryz.prog W 0 (λ_=>true) true n 63 (List.take (Tryz.prog.cellsOf 63) [c1,c2,c3])=some dA:=aY 1 _ rfl
 rw [M7]at Z;obtain⟨v1,cC,r1⟩:=Vd n _ _ Z;exact⟨⟨v0,v1⟩,⟨⟨fo.1,fo.2⟩,cC⟩,(dF.app r1)⟩
structure Vf(x:Row):Prop where
 aro:x.Key.length≤9223372036854775807
 arp:x.bj.length≤9223372036854775807∧∀i,i<x.bj.length→Ve (x.bj.getD i default)
theorem arq(fuel:Nat)(cs:List Value)(x:DataW H×List MemPlace)(h:DataW.trod enc Tryz.prog W 0 (λ_=>true) true fuel 68 cs=some x):∃p:Row,Vf p∧f0 W cs (cH p).cells:=by
 obtain⟨xs,n,hn,_,aa,hl,aY⟩:=DataW.trod_struct Tryz.underlying68 h;rw [ad5]at aa;obtain⟨c0,c1,rfl⟩:=yd cs aa;obtain⟨fI,dA,rfl⟩:=yd xs hl;have h0:DataW.trod enc Tryz.prog W 0 (λ_=>true) true n 9 (List.take (Tryz.prog.cellsOf 9) [c0,c1])=some fI:=aY 0 _ rfl
 rw [pO]at h0;obtain⟨v0,fo,dF⟩:=pf Tryz.underlying9 h0;have Z:DataW.trod enc Tryz.prog W 0 (λ_=>true) true n 66 (List.take (Tryz.prog.cellsOf 66) [c1])=some dA:=aY 1 _ rfl
 rw [ark]at Z;obtain⟨v1,cC,g1,r1⟩:=l9 (encA:=hY) (ok:=Ve) Tryz.underlying66 ad4 (by omega) Z (λm cs' gf hm hx=>arn m cs' gf hx)
 exact⟨⟨v0,v1⟩,⟨fo,⟨cC,g1⟩⟩,(dF.app r1)⟩
structure Vg(x:az):Prop where
 atW:e6 x.cd
 atX:e6 x.b2
 ars:x.Rows.length≤9223372036854775807∧∀i,i<x.Rows.length→Vf (x.Rows.getD i default)
theorem art(fuel:Nat)(cs:List Value)(x:DataW H×List MemPlace)(h:DataW.trod enc Tryz.prog W 0 (λ_=>true) true fuel 24 cs=some x):∃p:az,Vg p∧f0 W cs (ahT p).cells:=by
 obtain⟨xs,n,hn,_,aa,hl,aY⟩:=DataW.trod_struct Tryz.underlying24 h;rw [adX]at aa;obtain⟨c0,c1,c2,rfl⟩:=qW cs aa;obtain⟨fI,dA,ey,rfl⟩:=qW xs hl;have h0:DataW.trod enc Tryz.prog W 0 (λ_=>true) true n 2 (List.take (Tryz.prog.cellsOf 2) [c0,c1,c2])=some fI:=aY 0 _ rfl
 rw [qV]at h0;obtain⟨v0,fo,dF⟩:=i8 (k:=.i64) Tryz.underlying2 h0;have Z:DataW.trod enc Tryz.prog W 0 (λ_=>true) true n 2 (List.take (Tryz.prog.cellsOf 2) [c1,c2])=some dA:=aY 1 _ rfl
 rw [qV]at Z;obtain⟨v1,cC,r1⟩:=i8 (k:=.i64) Tryz.underlying2 Z;have ab:DataW.trod enc Tryz.prog W 0 (λ_=>true) true n 22 (List.take (Tryz.prog.cellsOf 22) [c2])=some ey:=aY 2 _ rfl
 rw [arb]at ab;obtain⟨v2,al,g2,r2⟩:=l9 (encA:=cH) (ok:=Vf) Tryz.underlying22 ad5 (by omega) ab (λm cs' gf hm hx=>arq m cs' gf hx)
 exact⟨⟨v0,v1,v2⟩,⟨⟨fo.1,fo.2⟩,⟨cC.1,cC.2⟩,⟨al,g2⟩⟩,((dF.app r1).app r2)⟩
structure Vh(x:Outcome):Prop where
 atY:e6 x.Status
 atZ:e6 x.Code
 aru:x.Out.length≤9223372036854775807∧∀i,i<x.Out.length→yf (x.Out.getD i default)
theorem arv(fuel:Nat)(cs:List Value)(x:DataW H×List MemPlace)(h:DataW.trod enc Tryz.prog W 0 (λ_=>true) true fuel 103 cs=some x):∃p:Outcome,Vh p∧f0 W cs (ahV p).cells:=by
 obtain⟨xs,n,hn,_,aa,hl,aY⟩:=DataW.trod_struct Tryz.underlying103 h;rw [ad7]at aa;obtain⟨c0,c1,c2,rfl⟩:=qW cs aa;obtain⟨fI,dA,ey,rfl⟩:=qW xs hl;have h0:DataW.trod enc Tryz.prog W 0 (λ_=>true) true n 3 (List.take (Tryz.prog.cellsOf 3) [c0,c1,c2])=some fI:=aY 0 _ rfl
 rw [pN]at h0;obtain⟨v0,fo,dF⟩:=i8 (k:=.i64) Tryz.underlying3 h0;have Z:DataW.trod enc Tryz.prog W 0 (λ_=>true) true n 3 (List.take (Tryz.prog.cellsOf 3) [c1,c2])=some dA:=aY 1 _ rfl
 rw [pN]at Z;obtain⟨v1,cC,r1⟩:=i8 (k:=.i64) Tryz.underlying3 Z;have ab:DataW.trod enc Tryz.prog W 0 (λ_=>true) true n 54 (List.take (Tryz.prog.cellsOf 54) [c2])=some ey:=aY 2 _ rfl
 rw [adZ]at ab;obtain⟨v2,al,g2,r2⟩:=l9 (encA:=d9) (ok:=yf) Tryz.underlying54 M7 (by omega) ab (λm cs' gf hm hx=>Vd m cs' gf hx)
 exact⟨⟨v0,v1,v2⟩,⟨⟨fo.1,fo.2⟩,⟨cC.1,cC.2⟩,⟨al,g2⟩⟩,((dF.app r1).app r2)⟩
structure Vi(x:eN):Prop where
 ad_:e6 x.Client
 arw:e6 x.Seq
 arx:Vh x.Outcome
theorem ary(fuel:Nat)(cs:List Value)(x:DataW H×List MemPlace)(h:DataW.trod enc Tryz.prog W 0 (λ_=>true) true fuel 105 cs=some x):∃p:eN,Vi p∧f0 W cs (im p).cells:=by
 obtain⟨xs,n,hn,_,aa,hl,aY⟩:=DataW.trod_struct Tryz.underlying105 h;rw [ad8]at aa;obtain⟨c0,c1,c2,c3,c4,rfl⟩:=Va cs aa;obtain⟨fI,dA,ey,rfl⟩:=qW xs hl;have h0:DataW.trod enc Tryz.prog W 0 (λ_=>true) true n 3 (List.take (Tryz.prog.cellsOf 3) [c0,c1,c2,c3,c4])=some fI:=aY 0 _ rfl
 rw [pN]at h0;obtain⟨v0,fo,dF⟩:=i8 (k:=.i64) Tryz.underlying3 h0;have Z:DataW.trod enc Tryz.prog W 0 (λ_=>true) true n 2 (List.take (Tryz.prog.cellsOf 2) [c1,c2,c3,c4])=some dA:=aY 1 _ rfl
 rw [qV]at Z;obtain⟨v1,cC,r1⟩:=i8 (k:=.i64) Tryz.underlying2 Z;have ab:DataW.trod enc Tryz.prog W 0 (λ_=>true) true n 103 (List.take (Tryz.prog.cellsOf 103) [c2,c3,c4])=some ey:=aY 2 _ rfl
 rw [ad7]at ab;obtain⟨v2,al,r2⟩:=arv n _ _ ab;exact⟨⟨v0,v1,v2⟩,⟨⟨fo.1,fo.2⟩,⟨cC.1,cC.2⟩,al⟩,((dF.app r1).app r2)⟩
structure M8(x:bL):Prop where
 ad_:e6 x.Client
 at0:e6 x.Next
 arz:x.bJ.length≤9223372036854775807∧∀i,i<x.bJ.length→Vi (x.bJ.getD i default)
theorem arA(fuel:Nat)(cs:List Value)(x:DataW H×List MemPlace)(h:DataW.trod enc Tryz.prog W 0 (λ_=>true) true fuel 101 cs=some x):∃p:bL,M8 p∧f0 W cs (dr p).cells:=by
 obtain⟨xs,n,hn,_,aa,hl,aY⟩:=DataW.trod_struct Tryz.underlying101 h;rw [ad6]at aa;obtain⟨c0,c1,c2,rfl⟩:=qW cs aa;obtain⟨fI,dA,ey,rfl⟩:=qW xs hl;have h0:DataW.trod enc Tryz.prog W 0 (λ_=>true) true n 3 (List.take (Tryz.prog.cellsOf 3) [c0,c1,c2])=some fI:=aY 0 _ rfl
 rw [pN]at h0;obtain⟨v0,fo,dF⟩:=i8 (k:=.i64) Tryz.underlying3 h0;have Z:DataW.trod enc Tryz.prog W 0 (λ_=>true) true n 2 (List.take (Tryz.prog.cellsOf 2) [c1,c2])=some dA:=aY 1 _ rfl
 rw [qV]at Z;obtain⟨v1,cC,r1⟩:=i8 (k:=.i64) Tryz.underlying2 Z;have ab:DataW.trod enc Tryz.prog W 0 (λ_=>true) true n 99 (List.take (Tryz.prog.cellsOf 99) [c2])=some ey:=aY 2 _ rfl
 rw [arl]at ab;obtain⟨v2,al,g2,r2⟩:=l9 (encA:=im) (ok:=Vi) Tryz.underlying99 ad8 (by omega) ab (λm cs' gf hm hx=>ary m cs' gf hx)
 exact⟨⟨v0,v1,v2⟩,⟨⟨fo.1,fo.2⟩,⟨cC.1,cC.2⟩,⟨al,g2⟩⟩,((dF.app r1).app r2)⟩
structure Vj(x:Part):Prop where
 arB:e6 x.Id
 at1:x.dY.length≤9223372036854775807
 arC:e6 x.Node
 arD:e6 x.ft
 at2:x.gI.length≤9223372036854775807
theorem arE(fuel:Nat)(cs:List Value)(x:DataW H×List MemPlace)(h:DataW.trod enc Tryz.prog W 0 (λ_=>true) true fuel 61 cs=some x):∃p:Part,Vj p∧f0 W cs (cX p).cells:=by
 obtain⟨xs,n,hn,_,aa,hl,aY⟩:=DataW.trod_struct Tryz.underlying61 h;rw [ad3]at aa;obtain⟨c0,c1,c2,c3,c4,rfl⟩:=Va cs aa;obtain⟨fI,dA,ey,jb,fr,rfl⟩:=Va xs hl;have h0:DataW.trod enc Tryz.prog W 0 (λ_=>true) true n 3 (List.take (Tryz.prog.cellsOf 3) [c0,c1,c2,c3,c4])=some fI:=aY 0 _ rfl
 rw [pN]at h0;obtain⟨v0,fo,dF⟩:=i8 (k:=.i64) Tryz.underlying3 h0;have Z:DataW.trod enc Tryz.prog W 0 (λ_=>true) true n 9 (List.take (Tryz.prog.cellsOf 9) [c1,c2,c3,c4])=some dA:=aY 1 _ rfl
 rw [pO]at Z;obtain⟨v1,cC,r1⟩:=pf Tryz.underlying9 Z;have ab:DataW.trod enc Tryz.prog W 0 (λ_=>true) true n 3 (List.take (Tryz.prog.cellsOf 3) [c2,c3,c4])=some ey:=aY 2 _ rfl
 rw [pN]at ab;obtain⟨v2,al,r2⟩:=i8 (k:=.i64) Tryz.underlying3 ab;have aj:DataW.trod enc Tryz.prog W 0 (λ_=>true) true n 3 (List.take (Tryz.prog.cellsOf 3) [c3,c4])=some jb:=aY 3 _ rfl
 rw [pN]at aj;obtain⟨v3,ef,r3⟩:=i8 (k:=.i64) Tryz.underlying3 aj;have aC:DataW.trod enc Tryz.prog W 0 (λ_=>true) true n 9 (List.take (Tryz.prog.cellsOf 9) [c4])=some fr:=aY 4 _ rfl
 rw [pO]at aC;obtain⟨v4,ec,bx⟩:=pf Tryz.underlying9 aC;exact⟨⟨v0,v1,v2,v3,v4⟩,⟨⟨fo.1,fo.2⟩,cC,⟨al.1,al.2⟩,⟨ef.1,ef.2⟩,ec⟩,((((dF.app r1).app r2).app r3).app bx)⟩
structure Vk(x:b7):Prop where
 arF:e6 x.Version
 arG:x.aD.length≤9223372036854775807∧∀i,i<x.aD.length→Vj (x.aD.getD i default)
theorem arH(fuel:Nat)(cs:List Value)(x:DataW H×List MemPlace)(h:DataW.trod enc Tryz.prog W 0 (λ_=>true) true fuel 29 cs=some x):∃p:b7,Vk p∧f0 W cs (ahW p).cells:=by
 obtain⟨xs,n,hn,_,aa,hl,aY⟩:=DataW.trod_struct Tryz.underlying29 h;rw [adY]at aa;obtain⟨c0,c1,rfl⟩:=yd cs aa;obtain⟨fI,dA,rfl⟩:=yd xs hl;have h0:DataW.trod enc Tryz.prog W 0 (λ_=>true) true n 2 (List.take (Tryz.prog.cellsOf 2) [c0,c1])=some fI:=aY 0 _ rfl
 rw [qV]at h0;obtain⟨v0,fo,dF⟩:=i8 (k:=.i64) Tryz.underlying2 h0;have Z:DataW.trod enc Tryz.prog W 0 (λ_=>true) true n 27 (List.take (Tryz.prog.cellsOf 27) [c1])=some dA:=aY 1 _ rfl
 rw [are]at Z;obtain⟨v1,cC,g1,r1⟩:=l9 (encA:=cX) (ok:=Vj) Tryz.underlying27 ad3 (by omega) Z (λm cs' gf hm hx=>arE m cs' gf hx)
 exact⟨⟨v0,v1⟩,⟨⟨fo.1,fo.2⟩,⟨cC,g1⟩⟩,(dF.app r1)⟩
structure M9(x:bh):Prop where
 aro:x.Key.length≤9223372036854775807
 arI:e6 x.Count
theorem arJ(fuel:Nat)(cs:List Value)(x:DataW H×List MemPlace)(h:DataW.trod enc Tryz.prog W 0 (λ_=>true) true fuel 107 cs=some x):∃p:bh,M9 p∧f0 W cs (dN p).cells:=by
 obtain⟨xs,n,hn,_,aa,hl,aY⟩:=DataW.trod_struct Tryz.underlying107 h;rw [ad9]at aa;obtain⟨c0,c1,rfl⟩:=yd cs aa;obtain⟨fI,dA,rfl⟩:=yd xs hl;have h0:DataW.trod enc Tryz.prog W 0 (λ_=>true) true n 9 (List.take (Tryz.prog.cellsOf 9) [c0,c1])=some fI:=aY 0 _ rfl
 rw [pO]at h0;obtain⟨v0,fo,dF⟩:=pf Tryz.underlying9 h0;have Z:DataW.trod enc Tryz.prog W 0 (λ_=>true) true n 2 (List.take (Tryz.prog.cellsOf 2) [c1])=some dA:=aY 1 _ rfl
 rw [qV]at Z;obtain⟨v1,cC,r1⟩:=i8 (k:=.i64) Tryz.underlying2 Z;exact⟨⟨v0,v1⟩,⟨fo,⟨cC.1,cC.2⟩⟩,(dF.app r1)⟩
structure aea(x:fc):Prop where
 at3:True
 at4:x.Reads.length≤9223372036854775807∧∀i,i<x.Reads.length→(x.Reads.getD i default).length≤9223372036854775807
 at5:x.cm.length≤9223372036854775807∧∀i,i<x.cm.length→(x.cm.getD i default).length≤9223372036854775807
theorem arK(fuel:Nat)(cs:List Value)(x:DataW H×List MemPlace)(h:DataW.trod enc Tryz.prog W 0 (λ_=>true) true fuel 57 cs=some x):∃p:fc,aea p∧f0 W cs (ahX p).cells:=by
 obtain⟨xs,n,hn,_,aa,hl,aY⟩:=DataW.trod_struct Tryz.underlying57 h;rw [ad1]at aa;obtain⟨c0,c1,c2,rfl⟩:=qW cs aa;obtain⟨fI,dA,ey,rfl⟩:=qW xs hl;have h0:DataW.trod enc Tryz.prog W 0 (λ_=>true) true n 4 (List.take (Tryz.prog.cellsOf 4) [c0,c1,c2])=some fI:=aY 0 _ rfl
 rw [adW]at h0;obtain⟨v0,dF⟩:=XQ Tryz.underlying4 h0;have Z:DataW.trod enc Tryz.prog W 0 (λ_=>true) true n 55 (List.take (Tryz.prog.cellsOf 55) [c1,c2])=some dA:=aY 1 _ rfl
 rw [ad0]at Z;obtain⟨v1,cC,g1,r1⟩:=l9 (encA:=bF) (ok:=λs:aux=>s.length≤9223372036854775807) Tryz.underlying55 pO (by omega) Z (λm cs' gf hm hx=>pf Tryz.underlying9 hx)
 have ab:DataW.trod enc Tryz.prog W 0 (λ_=>true) true n 55 (List.take (Tryz.prog.cellsOf 55) [c2])=some ey:=aY 2 _ rfl
 rw [ad0]at ab;obtain⟨v2,al,g2,r2⟩:=l9 (encA:=bF) (ok:=λs:aux=>s.length≤9223372036854775807) Tryz.underlying55 pO (by omega) ab (λm cs' gf hm hx=>pf Tryz.underlying9 hx)
 exact⟨⟨v0,v1,v2⟩,⟨trivial,⟨cC,g1⟩,⟨al,g2⟩⟩,((dF.app r1).app r2)⟩
structure M_(x:Request):Prop where
 ad_:e6 x.Client
 arw:e6 x.Seq
 at6:x.bb.length≤9223372036854775807
 fArgs:x.ar.length≤9223372036854775807∧∀i,i<x.ar.length→yf (x.ar.getD i default)
 at7:True
 at8:aea x.bk
theorem arL(fuel:Nat)(cs:List Value)(x:DataW H×List MemPlace)(h:DataW.trod enc Tryz.prog W 0 (λ_=>true) true fuel 59 cs=some x):∃p:Request,M_ p∧f0 W cs (eo p).cells:=by
 obtain⟨xs,n,hn,_,aa,hl,aY⟩:=DataW.trod_struct Tryz.underlying59 h;rw [ad2]at aa;obtain⟨c0,c1,c2,c3,c4,c5,lU,ln,rfl⟩:=adV cs aa;obtain⟨fI,dA,ey,jb,fr,kL,rfl⟩:=aq_ xs hl;have h0:DataW.trod enc Tryz.prog W 0 (λ_=>true) true n 3 (List.take (Tryz.prog.cellsOf 3) [c0,c1,c2,c3,c4,c5,lU,ln])=some fI:=aY 0 _ rfl
 rw [pN]at h0;obtain⟨v0,fo,dF⟩:=i8 (k:=.i64) Tryz.underlying3 h0;have Z:DataW.trod enc Tryz.prog W 0 (λ_=>true) true n 2 (List.take (Tryz.prog.cellsOf 2) [c1,c2,c3,c4,c5,lU,ln])=some dA:=aY 1 _ rfl
 rw [qV]at Z;obtain⟨v1,cC,r1⟩:=i8 (k:=.i64) Tryz.underlying2 Z;have ab:DataW.trod enc Tryz.prog W 0 (λ_=>true) true n 9 (List.take (Tryz.prog.cellsOf 9) [c2,c3,c4,c5,lU,ln])=some ey:=aY 2 _ rfl
 rw [pO]at ab;obtain⟨v2,al,r2⟩:=pf Tryz.underlying9 ab;have aj:DataW.trod enc Tryz.prog W 0 (λ_=>true) true n 54 (List.take (Tryz.prog.cellsOf 54) [c3,c4,c5,lU,ln])=some jb:=aY 3 _ rfl
 rw [adZ]at aj;obtain⟨v3,ef,g3,r3⟩:=l9 (encA:=d9) (ok:=yf) Tryz.underlying54 M7 (by omega) aj (λm cs' gf hm hx=>Vd m cs' gf hx)
 have aC:DataW.trod enc Tryz.prog W 0 (λ_=>true) true n 4 (List.take (Tryz.prog.cellsOf 4) [c4,c5,lU,ln])=some fr:=aY 4 _ rfl
 rw [adW]at aC;obtain⟨v4,bx⟩:=XQ Tryz.underlying4 aC;have aT:DataW.trod enc Tryz.prog W 0 (λ_=>true) true n 57 (List.take (Tryz.prog.cellsOf 57) [c5,lU,ln])=some kL:=aY 5 _ rfl
 rw [ad1]at aT;obtain⟨v5,AF,b'⟩:=arK n _ _ aT;exact⟨⟨v0,v1,v2,v3,v4,v5⟩,⟨⟨fo.1,fo.2⟩,⟨cC.1,cC.2⟩,al,⟨ef,g3⟩,trivial,AF⟩,(((((dF.app r1).app r2).app r3).app bx).app b')⟩
structure n_(x:bU):Prop where
 arM:e6 x.Pos
 arN:Vg x.az
 Vl:x.cc.length≤9223372036854775807∧∀i,i<x.cc.length→qJ (x.cc.getD i default)
 arO:x.cJ.length≤9223372036854775807∧∀i,i<x.cJ.length→M8 (x.cJ.getD i default)
 aeb:Vk x.Place
 arP:x.bh.length≤9223372036854775807∧∀i,i<x.bh.length→M9 (x.bh.getD i default)
 arQ:x.Queue.length≤9223372036854775807∧∀i,i<x.Queue.length→M_ (x.Queue.getD i default)
 arR:hV x.de
theorem aec(fuel:Nat)(cs:List Value)(x:DataW H×List MemPlace)(h:DataW.trod enc Tryz.prog W 0 (λ_=>true) true fuel 34 cs=some x):∃p:bU,n_ p∧f0 W cs (Pi p).cells:=by
 obtain⟨xs,n,hn,_,aa,hl,aY⟩:=DataW.trod_struct Tryz.underlying34 h;rw [arj]at aa;obtain⟨c0,c1,c2,c3,c4,c5,lU,ln,pP,c9,mG,rfl⟩:=ara cs aa;obtain⟨fI,dA,ey,jb,fr,kL,qm,Ej,rfl⟩:=adV xs hl;have h0:DataW.trod enc Tryz.prog W 0 (λ_=>true) true n 2 (List.take (Tryz.prog.cellsOf 2) [c0,c1,c2,c3,c4,c5,lU,ln,pP,c9,mG])=some fI:=aY 0 _ rfl
 rw [qV]at h0;obtain⟨v0,fo,dF⟩:=i8 (k:=.i64) Tryz.underlying2 h0;have Z:DataW.trod enc Tryz.prog W 0 (λ_=>true) true n 24 (List.take (Tryz.prog.cellsOf 24) [c1,c2,c3,c4,c5,lU,ln,pP,c9,mG])=some dA:=aY 1 _ rfl
 rw [adX]at Z;obtain⟨v1,cC,r1⟩:=art n _ _ Z;have ab:DataW.trod enc Tryz.prog W 0 (λ_=>true) true n 25 (List.take (Tryz.prog.cellsOf 25) [c4,c5,lU,ln,pP,c9,mG])=some ey:=aY 2 _ rfl
 rw [arc]at ab;obtain⟨v2,al,g2,r2⟩:=l9 (encA:=d') (ok:=qJ) Tryz.underlying25 adS (by omega) ab (λm cs' gf hm hx=>aq8 m cs' gf hx)
 have aj:DataW.trod enc Tryz.prog W 0 (λ_=>true) true n 26 (List.take (Tryz.prog.cellsOf 26) [c5,lU,ln,pP,c9,mG])=some jb:=aY 3 _ rfl
 rw [ard]at aj;obtain⟨v3,ef,g3,r3⟩:=l9 (encA:=dr) (ok:=M8) Tryz.underlying26 ad6 (by omega) aj (λm cs' gf hm hx=>arA m cs' gf hx)
 have aC:DataW.trod enc Tryz.prog W 0 (λ_=>true) true n 29 (List.take (Tryz.prog.cellsOf 29) [lU,ln,pP,c9,mG])=some fr:=aY 4 _ rfl
 rw [adY]at aC;obtain⟨v4,ec,bx⟩:=arH n _ _ aC;have aT:DataW.trod enc Tryz.prog W 0 (λ_=>true) true n 30 (List.take (Tryz.prog.cellsOf 30) [pP,c9,mG])=some kL:=aY 5 _ rfl
 rw [arf]at aT;obtain⟨v5,AF,g5,b'⟩:=l9 (encA:=dN) (ok:=M9) Tryz.underlying30 ad9 (by omega) aT (λm cs' gf hm hx=>arJ m cs' gf hx)
 have bP:DataW.trod enc Tryz.prog W 0 (λ_=>true) true n 31 (List.take (Tryz.prog.cellsOf 31) [c9,mG])=some qm:=aY 6 _ rfl
 rw [arh]at bP;obtain⟨v6,rx,g6,bO⟩:=l9 (encA:=eo) (ok:=M_) Tryz.underlying31 ad2 (by omega) bP (λm cs' gf hm hx=>arL m cs' gf hx)
 have cM:DataW.trod enc Tryz.prog W 0 (λ_=>true) true n 32 (List.take (Tryz.prog.cellsOf 32) [mG])=some Ej:=aY 7 _ rfl
 rw [ari]at cM;obtain⟨bB,aed,cU⟩:=i8 (k:=.u64) Tryz.underlying32 cM;exact⟨⟨v0,v1,v2,v3,v4,v5,v6,bB⟩,⟨⟨fo.1,fo.2⟩,cC,⟨al,g2⟩,⟨ef,g3⟩,ec,⟨AF,g5⟩,⟨rx,g6⟩,⟨aed.1,Int.lt_of_le_of_lt aed.2 (by decide)⟩⟩,(((((((dF.app r1).app r2).app r3).app bx).app b').app bO).app cU)⟩
end
def oW{α:Type}[Inhabited α]{P:α→Prop}{l:List α}(h:∀i,i<l.length→P (l.getD i default))(h0:P default)(i:Nat):P (l.getD i default):=by
 by_cases hi:i<l.length
 ·exact h i hi
 ·rw [List.getD_eq_getElem?_getD,List.getElem?_eq_none (by omega)];exact h0
def oa{α:Type}[Inhabited α]{P:α→Prop}{l:List α}(h:∀i,i<l.length→P (l.getD i default))(x:α)(hx:x∈l):P x:=by
 obtain⟨i,hi,e⟩:=U6 hx;rw [←e];exact h i hi
def sj.ch{r:bU}(h:sj r)(hi:n_ r){n:Nat}(hn:3000000≤n):tG n r where
 st:=⟨by have:=h.vw;omega,λi=>oW (P:=MI n) (λk hk=>by
  have Z:=h.rs k hk;unfold yc at Z;simp only [Bool.and_eq_true,decide_eq_true_eq,ih]at Z;obtain⟨⟨ab,aj⟩,aC⟩:=Z;exact⟨by omega,by omega,λj=>oW (P:=λx:Version=>x.br.S.length≤1000) (λm hm=>by have:=aC m hm;omega) (by show([]:aux).length≤1000;simp) j⟩) ((adw (n:=n) (by omega)).st.row 0) i⟩
 x_:=by have:=h.pl;omega
 kU:=λi=>oW (P:=mT) (λk hk=>by
  obtain⟨Z,ab,aj,aC⟩:=h.b8 k hk;have aT:=Mm (r.cc.getD k default).Body;exact⟨hi.Vl.2 k hk,by omega,by omega,by omega⟩) adm i
 tH:=by have:=h.li;omega
 n5:=λi=>oW (P:=pJ n) (λk hk=>by
  obtain⟨Z,ab⟩:=h.oC k hk
  exact⟨by omega,λj=>oW (P:=λx:eN=>x1 n x.Outcome) (λm hm=>by
   obtain⟨aj,aC⟩:=ab m hm;exact⟨by omega,λq=>oW (P:=λx:bq=>x.S.length≤1000) (λm hm=>by have:=aC m hm;omega) (by show([]:aux).length≤1000;simp) q⟩) ((MR (n:=n) (by omega) (l:=[]) (λx hx=>by cases hx) 0).out 0) j⟩) (MR (n:=n) (by omega) (l:=[]) (λx hx=>by cases hx) 0) i
 pl:=by have:=h.M3.pl;omega
 B4:=λi=>oW (P:=r_) (λk hk=>by obtain⟨a,b⟩:=h.M3.b8 k hk;exact⟨by omega,by omega⟩) ((adw (n:=n) (by omega)).B4 0) i
 aF:=by have:=h.M3.aa;omega
 ky:=λi=>oW (P:=λx:bh=>x.Key.length≤1000) (λk hk=>by have:=h.M3.hs k hk;omega) (by show([]:aux).length≤1000;simp) i
 n6:=by have:=h.adF;omega
 tI:=λi=>oW (P:=qS n) (λk hk=>by
  obtain⟨Z,ab,aj,f1,f2,f3,f4⟩:=h.aqS k hk
  exact⟨by omega,by omega,λj=>oW (P:=λx:bq=>x.S.length≤1000) (λm hm=>by have:=aj m hm;omega) (by show([]:aux).length≤1000;simp) j,by omega,by omega,
   λj=>oW (P:=λx:aux=>x.length≤1000) (λm hm=>by have:=f3 m hm;omega) (by show([]:aux).length≤1000;simp) j,
   λj=>oW (P:=λx:aux=>x.length≤1000) (λm hm=>by have:=f4 m hm;omega) (by show([]:aux).length≤1000;simp) j⟩) (adv (by omega)) i
def Vm{k:aux}(h:jw k=true):k.length≤24:=by
 unfold jw at h;simp only [Bool.and_eq_true,decide_eq_true_eq]at h;exact h.1.2
def aee{k:aux}(h:nm k=true):k.length≤24:=by
 unfold nm at h;simp only [Bool.and_eq_true,decide_eq_true_eq]at h;exact h.2
def aef{l:List bq}(h:pH l=true)(hi:∀i,i<l.length→yf (l.getD i default)):∀v∈l,qP v:=by
 unfold pH at h;rw [ih]at h;refine oa λi aa=>?_
 have Z:=h i aa;rw [Bool.and_eq_true]at Z;exact⟨Z.1,(hi i aa).ad'⟩
def arS{o:Outcome}(h:vn o=true)(hi:Vh o):pL o:=by
 unfold vn at h;by_cases hs:o.Status=1
 ·simp only [hs,aug,aui,Bool.and_eq_true,decide_eq_true_eq]at h;obtain⟨⟨Z,ab⟩,aj⟩:=h;exact⟨by omega,by omega,ab,aef aj hi.aru.2⟩
 ·simp only [hs,auh,auj,Bool.and_eq_true,decide_eq_true_eq]at h;obtain⟨⟨⟨Z,ab⟩,aj⟩,aC⟩:=h;have aT:o.Out=[]:=List.length_eq_zero_iff.1 aC;exact⟨by omega,by omega,by rw [aT];simp,by rw [aT];exact λv av=>by cases av⟩
def arT{s:bL}(h:x3 s=true)(hi:M8 s):qU s:=by
 unfold x3 at h;simp only [Bool.and_eq_true,Bool.not_eq_true',decide_eq_true_eq,ih]at h;obtain⟨⟨Z,ab⟩,aj⟩:=h;obtain⟨aZ,a2,a3,a4⟩:=UF Z;have hk:=Gp ⟨a3,a4⟩
 have aC:∀i,i<s.bJ.length→((s.bJ.getD i default).Client=s.Client∧(s.bJ.getD i default).Seq=s.Next-(s.bJ.length:Int)+(i:Int))∧vn (s.bJ.getD i default).Outcome=true:=λi aa=>by
  have:=aj i aa
  unfold BU at this;simp only [Bool.and_eq_true,decide_eq_true_eq]at this;exact this
 refine⟨⟨aZ,a2⟩,⟨a3,a4⟩,?_,by rw [List.length_map];omega,?_⟩
 ·refine List.ext_getElem (by simp [vr]) λi g1 g2=>?_
  have aT:=aC i g1;rw [List.getD_eq_getElem?_getD,List.getElem?_eq_getElem g1,Option.getD_some]at aT;simp only [vr,List.getElem_map,List.getElem_zipIdx,Nat.zero_add];rw [wr (x:=kt s.Next-(i:Int)) (by omega) (by omega),wr (x:=s.Next-(kt s.Next-(i:Int))) (by omega) (by omega)]
  generalize s.bJ[i]=x at aT
  obtain⟨c,q,o⟩:=x;obtain⟨⟨e1,e2⟩,_⟩:=aT;simp only at e1 e2
  subst e1;rw [e2,ab,show s.Next-kt s.Next+(i:Int)=s.Next-(kt s.Next-(i:Int))by omega]
 ·intro o aw;obtain⟨x,hx,rfl⟩:=List.mem_map.1 aw;exact oa (P:=λx:eN=>pL x.Outcome) (λi aa=>arS (aC i aa).2 (hi.arz.2 i aa).arx) x hx
def arU{p:b7}(h:nn p=true)(hi:Vk p):p.aD.length≤16∧∀x∈p.aD,qT x:=by
 unfold nn at h;simp only [Bool.and_eq_true,Bool.not_eq_true',Bool.or_eq_false_iff,decide_eq_false_iff_not,Bool.not_eq_false',decide_eq_true_eq,ih]at h;obtain⟨⟨⟨⟨⟨Z,ab⟩,aj⟩,aC⟩,aT⟩,bP⟩:=h;refine⟨by omega,oa λi aa=>?_⟩
 have cM:=bP i aa;have hx:=hi.arG.2 i aa;unfold vm r' at cM;simp only [Bool.and_eq_true]at cM;obtain⟨dj,⟨_,en⟩,_⟩:=cM;refine⟨hx.arB,?_,hx.arC,hx.arD,?_⟩
 ·cases i with
  |zero=>rw [aT];simp
  |succ i=>
   rw [show decide (0<((i+1:Nat):Int))=true from decide_eq_true (by omega),auk,Bool.false_or,Bool.and_eq_true]at dj
   exact aee dj.1
 ·by_cases hd:(p.aD.getD i default).ft=0
  ·simp only [hd,aug,aui,decide_eq_true_eq]at en;rw [en];simp
  ·simp only [hd,auh,auj,Bool.and_eq_true]at en;exact aee en.1.1.2
def arV{l:List bh}(h:r7 l=true)(hi:∀i,i<l.length→M9 (l.getD i default)):l.length≤32∧∀x∈l,x.Key.length≤24∧e6 x.Count:=by
 unfold r7 at h;simp only [Bool.and_eq_true,decide_eq_true_eq,ih]at h;obtain⟨Z,ab⟩:=h;exact⟨by omega,oa (P:=λx:bh=>x.Key.length≤24∧e6 x.Count) λi aa=>⟨Vm (Z i aa).1.1.1,(hi i aa).arI⟩⟩
def aeg{l:jI}(h:qR l=true):∀v∈l,v.length≤24:=by
 unfold qR at h;rw [ih]at h
 exact oa (P:=λv:aux=>v.length≤24) λi aa=>by
  have:=h i aa
  rw [Bool.and_eq_true]at this;exact Vm this.1
def arW{s:aux}(h:gv s=true):s.length≤16:=by obtain⟨_,_,_,_,_,_,h⟩:=L' h;exact h
def arX{
 r:Request} (h:pI r=0) (hi:M_ r):n3 r∧tE r=true:=by
 have h0:=h;unfold pI at h;cases Z:((decide (r.Client<1)||decide (32<r.Client))||decide (r.Seq<1))||decide (1099511627776<r.Seq)
 ·cases ab:gv r.bb
  ·rw [Z,ab]at h;simp at h
  ·cases aj:decide (6<r.ar.length)
   ·cases aC:pH r.ar
    ·rw [Z,ab,aj,aC]at h;simp at h
    ·cases aT:((!r8 r.bk||r.bk.dH)||(!r.ez&&decide (0<r.bk.Reads.length+r.bk.cm.length)))
     ·simp only [Bool.or_eq_false_iff,decide_eq_false_iff_not]at Z aj aT;obtain⟨⟨⟨c6,jl⟩,F0⟩,L8⟩:=Z;obtain⟨⟨c1,c2⟩,c3⟩:=aT;rw [Bool.not_eq_false']at c1;unfold r8 at c1;rw [c2,auj]at c1;simp only [Bool.and_eq_true,decide_eq_true_eq]at c1;obtain⟨⟨d1,d2⟩,d3,d4⟩:=c1;refine⟨⟨⟨by omega,by omega⟩,⟨by omega,by omega⟩,arW ab,⟨by omega,aef aC hi.fArgs.2⟩,?_,c2⟩,?_⟩
      ·unfold Gq;cases hd:r.ez
       ·rw [hd]at c3;simp only [aul,Bool.true_and,decide_eq_false_iff_not]at c3;rw [if_neg (by simp)]
        rw [List.length_eq_zero_iff.1 (show r.bk.Reads.length=0 by omega),List.length_eq_zero_iff.1 (show r.bk.cm.length=0 by omega)]
       ·rw [if_pos rfl];exact⟨⟨d2,aeg d1⟩,d4,aeg d3⟩
      ·unfold tE;rw [h0,decide_eq_true (show r.Client≤32 by omega),decide_eq_true (show r.Seq≤1099511627776 by omega)];rfl
     ·rw [Z,ab,aj,aC,aT]at h;simp at h
   ·rw [Z,ab,aj]at h;simp at h
 ·rw [Z]at h;simp at h
def arY{s:az}(hs:lk s=true)(hi:Vg s)(hb:∀i,i<s.Rows.length→(s.Rows.getD i default).bj.length≤1000000000):∀p∈eR s.Rows,sb p:=by
 intro p hp;obtain⟨r,ai,e,_⟩:=Gu _ _ hp;obtain⟨j,hj,rfl⟩:=U6 ai;obtain⟨a,b⟩:=adL hs hb j hj;rw [e];refine⟨Vm a,b,?_⟩
 have Z:=(hi.ars.2 j hj).arp.2;exact oW (P:=λv:Version=>e6 v.br.N) (λk hk=>(Z k hk).arm.ad') (by show e6 (0:Int);exact⟨by omega,by omega⟩) _
def arZ{r:bU}(hs:gy r=true)(hi:n_ r)(gp:r.az.Rows.length≤1000000)(hb:∀i,i<r.az.Rows.length→(r.az.Rows.getD i default).bj.length≤1000000000)(Gv:r.cJ.length≤32):tJ (n9 r (eR r.az.Rows)):=by
 unfold gy at hs;simp only [Bool.and_eq_true,decide_eq_true_eq]at hs;obtain⟨⟨⟨⟨⟨⟨⟨⟨Z,ab⟩,aj⟩,aC⟩,aT⟩,bP⟩,cM⟩,dj⟩,en⟩:=hs;have oo:=vx r.az.Rows;refine⟨hi.arM,⟨⟨by show(eR r.az.Rows).length≤_;omega,arY aj hi.arN hb⟩,aqY aj gp hb⟩,?_,⟨⟨Gv,?_⟩,bP⟩,⟨⟨hi.aeb.arF,arU cM hi.aeb⟩,cM⟩,arV dj hi.arP.2,?_,hi.arR⟩
 ·unfold tF at aT;simp only [Bool.and_eq_true,decide_eq_true_eq,ih]at aT;obtain⟨gH,ar0⟩:=aT;refine⟨by show(r.cc.map gL).length≤16;rw [List.length_map];exact ar0,λs hs=>?_⟩
  obtain⟨p,hp,rfl⟩:=List.mem_map.1 (show s∈r.cc.map gL from hs)
  refine oa (P:=λp:bb=>(gL p).length≤16384) (λi aa=>?_) p hp
  have:=(gH i aa).1
  simp only [Bool.not_eq_true',Bool.or_eq_false_iff,decide_eq_false_iff_not]at this;omega
 ·have gH:=bP;unfold n1 at gH;simp only [Bool.and_eq_true,ih]at gH;exact oa (P:=qU) λi aa=>arT (gH i aa).1 (hi.arO.2 i aa)
 ·have gH:=en;unfold x' at gH;simp only [Bool.and_eq_true,decide_eq_true_eq,ih]at gH;exact⟨gH.2,oa (P:=λq:Request=>n3 q∧tE q=true) λi aa=>arX (gH.1 i aa) (hi.arQ.2 i aa)⟩
def Vn{α:Type}{E:α→aux}{k:Nat}:∀{l:List α},(∀v∈l,(E v).length≤k)→(iP E l).length≤k*l.length
 |[],_=>by simp [iP]
 |v::l,h=>by
  have Z:=h v (by simp)
  have ab:=Vn (E:=E) (l:=l) λw hw=>h w (by simp [hw])
  rw [BL,auq,aum,Nat.mul_add,Nat.mul_one];omega
def sk{α:Type}{E:α→aux}{k:Nat}(m:Nat){l:List α}(aa:l.length≤m)(hm:m<18446744073709551616)(hk:∀v∈l,(E v).length≤k):(ea E l).length≤10+k*m:=by
 have Z:=Vn hk;have ab:=nk (u:=l.length) (by omega)
 have aj:=Nat.mul_le_mul_left k aa;unfold ea;rw [auq];omega
def Vo{v:bq}(h:qP v):(bV v).length≤84:=by
 have Z:=tD h;have ab:=acy h.2 (by omega)
 omega
def vy{s:aux}{k:Nat}(h:s.length≤k)(hk:k≤1000000):(gd s).length≤k+10:=by
 have:=My (s:=s) (by omega)
 omega
def ar1{o:Outcome}(h:pL o):(sd o).length≤1374:=by
 obtain⟨Z,ab⟩:=ady h;have aZ:=n8 Z;have a2:=n8 ab;have a3:=sk (E:=bV) (k:=84) 16 h.2.2.1 (by omega) λv av=>Vo (h.2.2.2 v av)
 unfold sd;simp only [auq];omega
def ar2{s:bL}(h:qU s):(lm s).length≤11012:=by
 obtain⟨Z,ab,aj,aC,aT⟩:=h;have aZ:=n8 (z:=s.Client) ⟨by omega,by omega⟩
 have a2:=n8 (z:=s.Next) ⟨by omega,by omega⟩
 have a3:=Vn (E:=sd) (k:=1374) λo aw=>ar1 (aT o aw)
 have a4:=Gp ab;unfold lm;simp only [auq];omega
def ar3{x:Part}(h:qT x):(sc x).length≤98:=by
 obtain⟨Z,ab,aj,aC,aT⟩:=h;have aZ:=rX Z;have a2:=rX aj;have a3:=rX aC;have a4:=vy ab (by omega)
 have a5:=vy aT (by omega)
 unfold sc;simp only [auq];omega
def ar4{r:Request}(h:n3 r):(jJ r).length≤5000:=by
 obtain⟨Z,ab,aj,aC,aT,bP⟩:=h;have aZ:=n8 Z;have a2:=n8 ab;have a3:=vy aj (by omega)
 have a4:=sk (E:=bV) (k:=84) 6 aC.1 (by omega) λv av=>Vo (aC.2 v av)
 have a5:=U2 r.ez
 have qI:(sf r.ez (r.bk.Reads,r.bk.cm)).length≤4372:=by
  unfold sf Gq at *;cases hd:r.ez
  ·simp
  ·rw [hd]at aT;obtain⟨⟨c1,c2⟩,c3,c4⟩:=aT;have d1:=sk (E:=gd) (k:=34) 64 c1 (by omega) λv av=>vy (c2 v av) (by omega)
   have d2:=sk (E:=gd) (k:=34) 64 c3 (by omega) λv av=>vy (c4 v av) (by omega)
   simp only [auv,auq];simp only at d1 d2
   omega
 unfold jJ;simp only [auq];omega
def ar5{r:bU}{A:List bo}(hp:tJ (n9 r A))(aO:A.length≤100)(Gv:r.cJ.length≤10)(ej:r.Queue.length≤64):(iv (n9 r A)).length≤800000:=by
 have c6:(mO r.Pos).length≤10:=rX hp.pos
 have jl:=sk (E:=ll) (k:=118) 100 aO (by omega) λp h=>by
  obtain⟨c1,c2⟩:=hp.kU.1.2 p h;have d1:=vy c1 (by omega)
  have d2:=Vo c2;unfold ll;rw [auq];omega
 have F0:=sk (E:=gd) (k:=16394) 16 hp.src.1 (by omega) λs h=>vy (hp.src.2 s h) (by omega)
 have L8:=sk (E:=lm) (k:=11012) 10 Gv (by omega) λs h=>ar2 (hp.n5.1.2 s h)
 have at9:=sk (E:=sc) (k:=98) 16 hp.ya.1.2.1 (by omega) λs h=>ar3 (hp.ya.1.2.2 s h)
 have aua:=sk (E:=n4) (k:=44) 32 hp.aF.1 (by omega) λx h=>by
  obtain⟨c1,c2⟩:=hp.aF.2 x h;have d1:=vy c1 (by omega)
  have d2:=rX c2;unfold n4;rw [auq];omega
 have aub:=sk (E:=jJ) (k:=5000) 64 ej (by omega) λq h=>ar4 (hp.n6.2 q h).1
 have auc:=n8 hp.UX;have aud:=rX hp.ya.1.1;unfold iv oU;simp only [auq];simp only [n9]at *;omega
abbrev hB(r:bU):n7:=n9 r (eR r.az.Rows)
section
variable {n:Nat} (hn:3000000≤n) (aI:n≤1000000000) {r:bU} (aY:sj r) (hi:n_ r)
include hn aI aY hi
theorem yg(hs:gy r=true):tJ (hB r)∧(iv (hB r)).length≤800000:=by
 have hsh:=aY.ch hi hn;have B':=aY.vw;have hp:=arZ hs hi (by omega) (λi aa=>by have:=(hsh.st.row i).BV;omega) (by have:=aY.li;omega)
 exact⟨hp,ar5 hp (by have:=vx r.az.Rows;omega) (by have:=aY.li;omega) (by have:=aY.adF;omega)⟩
theorem aeh(hs:gy r=true):(∀i,i<r.az.Rows.length→B7 n r.Pos (r.az.Rows.getD i default))∧r.az.cd≤r.Pos∧r.Pos≤r.az.b2:=by
 have hsh:=aY.ch hi hn;unfold gy at hs;simp only [Bool.and_eq_true,decide_eq_true_eq]at hs;obtain⟨⟨⟨⟨⟨⟨⟨⟨Z,ab⟩,aj⟩,aC⟩,aT⟩,bP⟩,cM⟩,dj⟩,en⟩:=hs;have B_:=adH (n:=n) aj (λi aa=>by have:=(hsh.st.row i).BV;exact⟨this,by omega⟩)
 rw [aC]at B_;refine⟨B_,?_⟩
 unfold lk at aj;simp only [Bool.and_eq_true,Bool.not_eq_true',Bool.or_eq_false_iff,decide_eq_false_iff_not]at aj;obtain⟨⟨⟨aZ,a2⟩,a3⟩,_⟩:=aj;omega
theorem aei(hs:gy r=true):sU n r=some (iv (hB r)):=by
 have hsh:=aY.ch hi hn;have B':=aY.vw;have oo:=aY.pl;obtain⟨hp,aa⟩:=yg hn aI aY hi hs;obtain⟨B_,Vp,Vq⟩:=aeh hn aI aY hi hs;have l8:=hs;unfold gy x' at l8;simp only [Bool.and_eq_true,decide_eq_true_eq,ih]at l8;obtain⟨⟨⟨⟨⟨⟨⟨⟨Z,ab⟩,aj⟩,aC⟩,aT⟩,bP⟩,cM⟩,dj⟩,en,gH⟩:=l8
 exact adB hn aI hp aa (oa λi _=>hsh.kU i) (by omega) (aqW (by omega) (by omega) B_ Vp Vq (by rw [UH (by omega) aI hsh.st,aj]))
  (by rw [MG (by omega) aI hsh.tH hsh.n5,bP]) (oa (P:=λq:Request=>oE n q=some 0) λi aa=>by rw [ME (by omega) aI (hsh.tI i),en i aa])
def encA(r:bU):aux×Int:=bif !gy r then([],1)else bif decide (16384<(((iv (hB r)).length:Nat):Int)) then([],2) else(iv (hB r),0)
end
def ar6{n:Nat}(hn:3000000≤n)(aI:n≤1000000000){a b:bU}(oX:sj a)(l1:n_ a)(pQ:sj b)(oY:n_ b):
 Ag n a b=some (gy a&&(gy b&&decide (iv (hB a)=iv (hB b)))):=by
 unfold Ag;rw [MY hn aI (oX.ch l1 hn),ak];cases ha:gy a
 ·rfl
 ·rw [MY hn aI (pQ.ch oY hn)];cases hb:gy b
  ·rfl
  ·rw [aei hn aI oX l1 ha,aei hn aI pQ oY hb];rfl
def ar7(A:List bo)(a:Int):(ii A a).Rows.length=A.length:=by unfold ii;simp
def Na{A:List bo}{a:Int}{i:Nat}(hi:i<A.length):(ii A a).Rows.getD i default=⟨(A.getD i default).Key,[⟨a,(A.getD i default).br⟩]⟩:=by
 unfold ii;simp only [List.getD_eq_getElem?_getD,List.getElem?_map,List.getElem?_eq_getElem hi,Option.map_some,Option.getD_some]
def ar8{A:List bo}{a:Int}(h:mf A=true)(h0:0≤a)(Z:a≤1099511627776)(aa:A.length≤1000000000):lk (ii A a)=true:=by
 unfold mf x0 at h;simp only [Bool.and_eq_true,ih]at h;obtain⟨ab,aj⟩:=h;unfold lk;rw [Bool.and_eq_true,ih,ar7];refine⟨?_,λi hi=>?_⟩
 ·show(!((decide (a<0)||decide (a<a))||decide (1099511627776<a)))=true
  rw [decide_eq_false (show¬ a<0 by omega),decide_eq_false (show¬ a<a by omega),decide_eq_false (show¬ 1099511627776<a by omega)];rfl
 ·obtain⟨⟨aZ,a2⟩,a3⟩:=ab i hi;have a4:=aj i hi;rw [Bool.and_eq_true,Bool.and_eq_true];refine⟨⟨by rw [Na hi];exact aZ,?_⟩,?_⟩
  ·cases i with
   |zero=>simp
   |succ i=>
    rw [UB i (by omega)]at a3 ⊢
    rw [Na (show i<A.length by omega),Na hi]
    exact a3
  ·rw [Na hi];show pK ⟨(A.getD i default).Key,[⟨a,(A.getD i default).br⟩]⟩ a a=true
   generalize A.getD i default=p at a2 a4
   unfold pK;rw [Bool.and_eq_true,ih];refine⟨?_,λk hk=>?_⟩
   ·show(!(false||decide (p.br.Kind=0)))=true
    rw [Bool.false_or];exact a4
   ·obtain rfl:k=0:=by
     have:k<1:=hk
     omega
    have e:tC ⟨p.Key,[⟨a,p.br⟩]⟩ a a 0=(((!decide (a<a) && !decide (a<a))&&je p.br)&&true):=by
     unfold tC;rw [show decide (0<((0:Nat):Int))=false from decide_eq_false (by omega),Bool.false_and];rfl
    rw [e,a2,decide_eq_false (aut a)];rfl
def aej{a:Int}:∀{A:List bo},(∀p∈A,p.br.Kind≠0)→eR (ii A a).Rows=A
 |[],_=>rfl
 |p::A,h=>by
  have aG:=aej (a:=a) (A:=A) λq ao=>h q (by simp [ao])
  show eR (⟨p.Key,[⟨a,p.br⟩]⟩::(ii A a).Rows)=p::A
  rw [eR,aG];rw [show np ⟨p.Key,[⟨a,p.br⟩]⟩=p.br from rfl,if_neg (h p (by simp))]
abbrev jz(r:bU):bU:=⟨r.Pos,ii (eR r.az.Rows) r.Pos,r.cc,r.cJ,r.Place,r.bh,r.Queue,r.de⟩
def aek{l:List Row}{p:bo}(h:p∈eR l):p.br.Kind≠0:=by
 obtain⟨r,_,e,k⟩:=Gu _ _ h;rw [e];exact k
def ael(r:bU):hB (jz r)=hB r:=by
 show n9 (jz r) (eR (ii (eR r.az.Rows) r.Pos).Rows)=_
 rw [aej λp hp=>aek hp];rfl
def Vr{r:bU}(hs:gy r=true)(hp:tJ (hB r))(aa:(eR r.az.Rows).length≤1000000000):gy (jz r)=true:=by
 unfold gy at hs ⊢;simp only [Bool.and_eq_true,decide_eq_true_eq]at hs ⊢;obtain⟨⟨⟨⟨⟨⟨⟨⟨Z,ab⟩,aj⟩,aC⟩,aT⟩,bP⟩,cM⟩,dj⟩,en⟩:=hs;exact⟨⟨⟨⟨⟨⟨⟨⟨Z,ab⟩,ar8 hp.kU.2 Z ab aa⟩,rfl⟩,aT⟩,bP⟩,cM⟩,dj⟩,en⟩
def Vs{n:Nat}(hn:2000≤n){r:bU}(h:tG n r)(hp:tJ (hB r))(aa:(eR r.az.Rows).length<n):tG n (jz r):=
 ⟨aqo hn aa hp.kU.1.2 r.Pos,h.x_,h.kU,h.tH,h.n5,h.pl,h.B4,h.aF,h.ky,h.n6,h.tI⟩
def ar9{n:Nat}(hn:3000000≤n)(l:List bb)(aa:l.length≤1000)(h:∀p∈l,mT p)(hs:∀p∈l,gL p≠[]∧(gL p).length≤16384):Ad n (l.map gL)=some (l,true):=by
 have key:∀(m i:Nat),l.length<i+m→i≤l.length→Ac n (l.map gL) m (i:Int) (l.take i)=some (l,true):=by
  intro m;induction m with
  |zero=>intro i Z ab;omega
  |succ m aG=>
   intro i Z ab;have aem:(l.map gL).length=l.length:=List.length_map ..;by_cases hi:i<l.length
   ·have hx:=MH (l:=l) hi;have g1:=h _ hx;obtain⟨g2,g3⟩:=hs _ hx
    have g4:(l.map gL).getD i default=gL (l.getD i default):=by
     simp only [List.getD_eq_getElem?_getD,List.getElem?_map,List.getElem?_eq_getElem hi,Option.map_some,Option.getD_some]
    have av:mF (l.getD i default)=0:=by
     by_cases e:mF (l.getD i default)=0
     ·exact e
     ·exact absurd (show gL (l.getD i default)=[]by unfold gL;rw [if_neg e]) g2
    have g5:gL (l.getD i default)=kS (l.getD i default):=by unfold gL;rw [if_pos av]
    have e1:Ey n (gL (l.getD i default))=some (l.getD i default,0,0):=by
     rw [g5];exact aoe g1.i av hn g1.f g1.b (by rw [←g5];exact g3)
    have gm:room ((l.take i).length+1) 64=true:=lj (by rw [List.length_take];omega)
    simp only [Ac,JU,aup,aem,hi,aug,aui,bw hi,aK,auo,g4,e1,ak,aur,gm,bm (show i≤4611686018427387904 by omega),auu,auk,aul,auj,UV g1 hn]
    have:=aG (i+1) (by omega) (by omega)
    rw [show l.take (i+1)=l.take i++[l.getD i default]by rw [List.take_add,e9 l i default hi,List.take_succ_cons,List.take_zero]]at this
    exact this
   ·obtain rfl:i=l.length:=by omega
    simp only [Ac,JU,Rl,aem,aut,auh,auj,List.take_length]
 unfold Ad;exact key n 0 (by omega) (by omega)
section
variable {n:Nat} (hn:3000000≤n) (aI:n≤1000000000) {r:bU} (aY:sj r) (hi:n_ r)
include hn aI aY hi
theorem Vt(hs:gy r=true):Ad n (r.cc.map gL)=some (r.cc,true):=by
 have hsh:=aY.ch hi hn;have oo:=aY.pl;refine ar9 hn _ (by omega) (oa λi _=>hsh.kU i) (oa (P:=λp:bb=>gL p≠[]∧(gL p).length≤16384) λi aa=>?_)
 unfold gy tF at hs;simp only [Bool.and_eq_true,decide_eq_true_eq,ih]at hs;have:=(hs.1.1.1.1.2.1 i aa).1
 simp only [Bool.not_eq_true',Bool.or_eq_false_iff,decide_eq_false_iff_not]at this;exact⟨this.1,by omega⟩
theorem ar'(hs:gy r=true):Ez n (iv (hB r))=some (jz r,0):=by
 have hsh:=aY.ch hi hn;have B':=aY.vw;have py:=vx r.az.Rows;obtain⟨hp,aa⟩:=yg hn aI aY hi hs;have oA:=Vr hs hp (by omega)
 have Ca:=Vs (n:=n) (by omega) hsh hp (by omega)
 have ar_:Ad n (hB r).2.2.1=some (r.cc,true):=Vt hn aI aY hi hs;have l8:=hs;unfold gy at l8;simp only [Bool.and_eq_true,decide_eq_true_eq]at l8;obtain⟨⟨⟨⟨⟨⟨⟨⟨Z,ab⟩,aj⟩,aC⟩,aT⟩,bP⟩,cM⟩,dj⟩,en⟩:=l8
 have hd:MZ (iv (hB r)) = .ok (hB r,[]):=by
  have:=UY.rt (hB r) [] hp
  rwa [List.append_nil]at this
 have ai:=aqm hn aI (s:=iv (hB r)) (by omega)
 rw [hd]at ai;simp only at ai
 have e1:bu (iv (hB r)) []=(((iv (hB r)).length:Nat):Int):=(aqq (List.nil_suffix)).2 rfl
 have asa:Af n (hB r).2.1 (hB r).1=some (ii (eR r.az.Rows) r.Pos,0):=by
  show Af n (eR r.az.Rows) r.Pos=_
  rw [aps (l:=eR r.az.Rows) (by omega) aI (by omega) (UJ hp.kU.1.2)]
  unfold BX;rw [show mf (eR r.az.Rows)=true from hp.kU.2,decide_eq_false (show¬ r.Pos<0 by omega),decide_eq_false (show¬ 1099511627776<r.Pos by omega)];rfl
 unfold Ez;rw [ai,ak];simp only [aug,auk,auj,dv,e1];rw [decide_eq_false (show¬ (hB r).1<0 from show¬ r.Pos<0 by omega),decide_eq_false (show¬ 1099511627776<(hB r).1 from show¬ 1099511627776<r.Pos by omega)]
 simp only [Bool.or_self,auj];rw [ar_,ak];simp only [auk,auj];rw [asa,ak];simp only [aug,auk,auj];refine(congrArg (λx=>Option.bind x _) (MY hn aI Ca)).trans ?_
 rw [oA];rfl
end
def sl(r:bU):bU×Int:=bif !gy r then(M1,1) else(jz r,0)
section
variable {n:Nat} (hn:3000000≤n) (aI:n≤1000000000) {r:bU} (aY:sj r) (hi:n_ r)
include hn aI aY hi
theorem asb(hs:gy r=true):E' n (eR r.az.Rows) r.Pos=some (ii (eR r.az.Rows) r.Pos,0):=by
 have hsh:=aY.ch hi hn;have B':=aY.vw;have py:=vx r.az.Rows;obtain⟨hp,aa⟩:=yg hn aI aY hi hs;have l8:=hs;unfold gy at l8;simp only [Bool.and_eq_true,decide_eq_true_eq]at l8;obtain⟨⟨⟨⟨⟨⟨⟨⟨Z,ab⟩,aj⟩,aC⟩,aT⟩,bP⟩,cM⟩,dj⟩,en⟩:=l8;rw [apt (l:=eR r.az.Rows) (by omega) aI (by omega) (UJ hp.kU.1.2)]
 unfold BX;rw [show mf (eR r.az.Rows)=true from hp.kU.2,decide_eq_false (show¬ r.Pos<0 by omega),decide_eq_false (show¬ 1099511627776<r.Pos by omega)];rfl
theorem aen:Fc n r=some (sl r):=by
 have hsh:=aY.ch hi hn;have B':=aY.vw;unfold Fc sl;rw [apY hn aI hsh,ak];cases hs:gy r
 ·rfl
 ·obtain⟨B_,Vp,Vq⟩:=aeh hn aI aY hi hs
  have aj:lk r.az=true:=by
   unfold gy at hs;simp only [Bool.and_eq_true,decide_eq_true_eq]at hs;exact hs.1.1.1.1.1.1.2
  simp only [auk,auj];rw [aqX (by omega) (by omega) B_ Vp Vq (by rw [ac5 (by omega) aI hsh.st,aj]),ak]
  rw [asb hn aI aY hi hs,ak]
theorem asc(hs:gy r=true):sU n (jz r)=some (iv (hB r)):=by
 have hsh:=aY.ch hi hn;have B':=aY.vw;have oo:=aY.pl;have py:=vx r.az.Rows;obtain⟨hp,aa⟩:=yg hn aI aY hi hs;have oA:=Vr hs hp (by omega)
 have Ca:=Vs (n:=n) (by omega) hsh hp (by omega)
 have aj:lk (jz r).az=true:=by
  unfold gy at oA;simp only [Bool.and_eq_true,decide_eq_true_eq]at oA;exact oA.1.1.1.1.1.1.2
 have l8:=hs;unfold gy x' at l8;simp only [Bool.and_eq_true,decide_eq_true_eq,ih]at l8;obtain⟨⟨⟨⟨⟨⟨⟨⟨Z,ab⟩,_⟩,aC⟩,aT⟩,bP⟩,cM⟩,dj⟩,en,gH⟩:=l8
 exact adB (r:=jz r) (A:=eR r.az.Rows) hn aI hp aa (oa λi _=>hsh.kU i) (by show r.cc.length≤1000;omega)
  (aqx (by omega) (by omega) (by omega) (λi aa=>aek (MH aa)) (by rw [show ii (eR r.az.Rows) r.Pos=(jz r).az from rfl,UH (by omega) aI Ca.st,aj]))
  (by show sT n r.cJ=some true;rw [MG (by omega) aI hsh.tH hsh.n5,bP]) (oa (P:=λq:Request=>oE n q=some 0) λi aa=>by rw [ME (by omega) aI (hsh.tI i),en i aa])
theorem asd(hs:gy r=true):tG n (jz r)∧rz n (jz r)=some true∧Y3 n (jz r)=some (jz r,0):=by
 have hsh:=aY.ch hi hn;have B':=aY.vw;have py:=vx r.az.Rows;obtain⟨hp,aa⟩:=yg hn aI aY hi hs;have oA:=Vr hs hp (by omega)
 have Ca:=Vs (n:=n) (by omega) hsh hp (by omega)
 have e1:rz n (jz r)=some true:=by rw [MY hn aI Ca,oA]
 refine⟨Ca,e1,?_⟩
 unfold Y3;rw [e1,ak];simp only [auk,auj];rw [asc hn aI aY hi hs,ak,ar' hn aI aY hi hs];rfl
end
abbrev kV(x:auB)(P:Prop):Prop:=x=some false∨(P∧x=some true)
def Vu{α:Type}[Inhabited α]{a b:List α}(aa:a.length=b.length)(h:∀i,i<a.length→a.getD i default=b.getD i default):a=b:=by
 refine List.ext_getElem aa λi Z ab=>?_
 have:=h i Z
 rw [List.getD_eq_getElem?_getD,List.getElem?_eq_getElem Z,List.getD_eq_getElem?_getD,List.getElem?_eq_getElem ab]at this;exact this
def pR{α:Type}[Inhabited α]{a b:List α}{L:Nat→Int→auB}{m:Nat}(hm:a.length<m)(aa:a.length=b.length)
 (step:∀m i,i<a.length→L (m+1) (i:Int)=some false∨(a.getD i default=b.getD i default∧L (m+1) (i:Int)=L m ((i+1:Nat):Int))) (stop:∀m,L (m+1) (a.length:Int)=some true):kV (L m 0) (a=b):=by
 rcases oV hm step stop with h|⟨h,g⟩
 ·exact Or.inl h
 ·exact Or.inr ⟨Vu aa h,g⟩
def kV.to{x:auB}{P Q:Prop}(h:kV x P)(f:P→Q):kV x Q:=h.imp id λg=>⟨f g.1,g.2⟩
def ob{a b:Nat}(h:a=b):decide ((a:Int)=(b:Int))=true:=decide_eq_true (by omega)
def oc{a b:Nat}(h:¬ a=b):decide ((a:Int)=(b:Int))=false:=decide_eq_false (by omega)
def step_eq{c:Bool}{P:Prop}{k:auB}(h:c=true↔P):(bif (!c)then some false else k)=some false∨(P∧(bif (!c)then some false else k)=k):=by
 cases c
 ·exact Or.inl rfl
 ·exact Or.inr ⟨h.1 rfl,rfl⟩
def Gw{x:auB}{P:Prop}{k:auB}(h:kV x P):(Option.bind x λr=>bif (!r)then some false else k)=some false∨(P∧(Option.bind x λr=>bif (!r)then some false else k)=k):=by
 rcases h with h|⟨h,g⟩
 ·exact Or.inl (by rw [h];rfl)
 ·exact Or.inr ⟨h,by rw [g];rfl⟩
def Vv(x y:bq):(decide (x.Kind=y.Kind)&&(decide (x.N=y.N)&&(decide (x.S=y.S)&&true)))=true↔x=y:=by
 obtain⟨a,b,c⟩:=x;obtain⟨d,e,f⟩:=y;simp only [Bool.and_true,Bool.and_eq_true,decide_eq_true_eq,bq.mk.injEq]
def ase(x y:Version):(decide (x.cl=y.cl)&&(decide (x.br.Kind=y.br.Kind)&&(decide (x.br.N=y.br.N)&&(decide (x.br.S=y.br.S)&&true))))=true↔x=y:=by
 obtain⟨a,b⟩:=x;obtain⟨d,e⟩:=y;rw [Bool.and_eq_true,Vv];simp only [decide_eq_true_eq,Version.mk.injEq]
def asf(x y:Part):(decide (x.Id=y.Id)&&(decide (x.dY=y.dY)&&(decide (x.Node=y.Node)&&(decide (x.ft=y.ft)&&(decide (x.gI=y.gI)&&true)))))=true↔x=y:=by
 obtain⟨a,b,c,d,e⟩:=x;obtain⟨f,g,h,i,j⟩:=y;simp only [Bool.and_true,Bool.and_eq_true,decide_eq_true_eq,Part.mk.injEq]
def asg(x y:bh):(decide (x.Key=y.Key)&&(decide (x.Count=y.Count)&&true))=true↔x=y:=by
 obtain⟨a,b⟩:=x;obtain⟨d,e⟩:=y;simp only [Bool.and_true,Bool.and_eq_true,decide_eq_true_eq,bh.mk.injEq]
def ash(x y:Param):(decide (x.Name=y.Name)&&(decide (x.fi=y.fi)&&true))=true↔x=y:=by
 obtain⟨a,b⟩:=x;obtain⟨d,e⟩:=y;simp only [Bool.and_true,Bool.and_eq_true,decide_eq_true_eq,Param.mk.injEq]
section
variable {n:Nat} (aI:n≤1000000000)
include aI
theorem aeo{a b:jI}(ha:a.length<n):kV (xi n a b) (a=b):=by
 unfold xi;by_cases aa:a.length=b.length
 ·simp only [ob aa,auk,auj]
  exact pR ha aa (λm i hi=>by
   simp only [uN,Ar,aup,hi,aug,aui,bw hi,bw (show i<b.length by omega),aK,auo,bm (show i≤4611686018427387904 by omega)]
   exact step_eq decide_eq_true_iff) (λm=>by simp only [uN,Ar,J5,aut,auh,auj])
 ·left;simp only [oc aa,aul,aui]
theorem asi{a b:List bh}(ha:a.length<n):kV (Aq n a b) (a=b):=by
 unfold Aq;by_cases aa:a.length=b.length
 ·simp only [ob aa,auk,auj]
  exact pR ha aa (λm i hi=>by
   simp only [uM,Ap,aup,hi,aug,aui,bw hi,bw (show i<b.length by omega),aK,auo,bm (show i≤4611686018427387904 by omega)]
   exact step_eq (asg _ _)) (λm=>by simp only [uM,Ap,J4,aut,auh,auj])
 ·left;simp only [oc aa,aul,aui]
theorem asj{a b:b7}(ha:a.aD.length<n):kV (Ao n a b) (a=b):=by
 unfold Ao;by_cases av:a.Version=b.Version
 ·by_cases aa:a.aD.length=b.aD.length
  ·simp only [av,ob aa,aug,auk,auj];refine(pR (a:=a.aD) (b:=b.aD) ha aa (λm i hi=>?_) (λm=>?_)).to λe=>?_
   ·simp only [uL,An,aup,hi,aug,aui,bw hi,bw (show i<b.aD.length by omega),aK,auo,bm (show i≤4611686018427387904 by omega)]
    exact step_eq (asf _ _)
   ·simp only [uL,An,J3,aut,auh,auj]
   ·cases a;cases b;simp_all
  ·left;simp only [av,oc aa,aug,auk,aul,aui,auj]
 ·left;simp only [av,auh,aul,aui]
theorem ask{a b:Outcome}(ha:a.Out.length<n):kV (s6 n a b) (a=b):=by
 unfold s6;by_cases Z:a.Status=b.Status
 ·by_cases ab:a.Code=b.Code
  ·by_cases aa:a.Out.length=b.Out.length
   ·simp only [Z,ab,ob aa,aug,auk,auj];refine(pR (a:=a.Out) (b:=b.Out) ha aa (λm i hi=>?_) (λm=>?_)).to λe=>?_
    ·simp only [uP,Au,aup,hi,aug,aui,bw hi,bw (show i<b.Out.length by omega),aK,auo,bm (show i≤4611686018427387904 by omega)]
     exact step_eq (Vv _ _)
    ·simp only [uP,Au,J7,aut,auh,auj]
    ·cases a;cases b;simp_all
   ·left;simp only [Z,ab,oc aa,aug,auk,aul,aui,auj]
  ·left;simp only [Z,ab,aug,auh,auk,aul,aui,auj]
 ·left;simp only [Z,auh,aul,aui]
theorem asl{a b:eN}(ha:a.Outcome.Out.length<n):kV (EE n a b) (a=b):=by
 unfold EE;by_cases Z:a.Client=b.Client
 ·by_cases ab:a.Seq=b.Seq
  ·simp only [Z,ab,aug,aui];rcases ask aI (a:=a.Outcome) (b:=b.Outcome) ha with h|⟨h,g⟩
   ·left
    rw [show s6 n ⟨a.Outcome.Status,a.Outcome.Code,a.Outcome.Out⟩ ⟨b.Outcome.Status,b.Outcome.Code,b.Outcome.Out⟩=some false from h];rfl
   ·right
    rw [show s6 n ⟨a.Outcome.Status,a.Outcome.Code,a.Outcome.Out⟩ ⟨b.Outcome.Status,b.Outcome.Code,b.Outcome.Out⟩=some true from g]
    refine⟨?_,rfl⟩
    cases a;cases b;simp_all
  ·left;simp only [Z,ab,aug,auh,aui,auj,ak]
 ·left;simp only [Z,auh,auj,ak]
theorem asm{a b:List eN}(ha:a.length<n)(aw:∀i,(a.getD i default).Outcome.Out.length<n):kV (Aw n a b) (a=b):=by
 unfold Aw;by_cases aa:a.length=b.length
 ·simp only [ob aa,auk,auj]
  exact pR ha aa (λm i hi=>by
   simp only [uQ,Av,aup,hi,aug,aui,bw hi,bw (show i<b.length by omega),aK,auo,bm (show i≤4611686018427387904 by omega)]
   exact Gw (asl aI (aw i))) (λm=>by simp only [uQ,Av,J8,aut,auh,auj])
 ·left;simp only [oc aa,aul,aui]
theorem asn{a b:List bL}(ha:a.length<n)(aw:∀i,pJ n (a.getD i default)):kV (Ay n a b) (a=b):=by
 unfold Ay;by_cases aa:a.length=b.length
 ·simp only [ob aa,auk,auj];refine pR ha aa (λm i hi=>?_) (λm=>by simp only [s7,Ax,J9,aut,auh,auj])
  simp only [s7,Ax,aup,hi,aug,aui,bw hi,bw (show i<b.length by omega),aK,auo,bm (show i≤4611686018427387904 by omega),auu]
  have h0:=aw i;by_cases Z:(a.getD i default).Client=(b.getD i default).Client
  ·by_cases ab:(a.getD i default).Next=(b.getD i default).Next
   ·simp only [Z,ab,aug,auk,aul,aui,auj];rcases Gw (k:=s7 n a b m ((i+1:Nat):Int)) (asm aI (a:=(a.getD i default).bJ) (b:=(b.getD i default).bJ) h0.rep (λk=>(h0.out k).out))with h|⟨h,g⟩
    ·exact Or.inl h
    ·refine Or.inr ⟨?_,g⟩;generalize a.getD i default=x at Z ab h
     generalize b.getD i default=y at Z ab h
     cases x;cases y;simp_all
   ·left;simp only [Z,ab,aug,auh,auk,aul,aui,auj,ak]
  ·left;simp only [Z,auh,auk,aul,aui,auj,ak]
 ·left;simp only [oc aa,aul,aui]
theorem aso{a b:fc}(Z:a.Reads.length<n)(ab:a.cm.length<n):kV (xj n a b) (a=b):=by
 unfold xj;by_cases h:a.dH=b.dH
 ·simp only [h,beq_self_eq_true,aui];rcases aeo aI (a:=a.Reads) (b:=b.Reads) Z with e|⟨e,g⟩
  ·left;rw [e];simp only [ak,auj]
  ·rw [g];simp only [ak,aui];rcases aeo aI (a:=a.cm) (b:=b.cm) ab with e2|⟨e2,g2⟩
   ·left;rw [e2];simp only [ak]
   ·right;rw [g2]
    refine⟨?_,rfl⟩
    cases a;cases b;simp_all
 ·left
  rw [show(a.dH == b.dH)=false from beq_eq_false_iff_ne.2 h]
  simp only [ak,auj]
theorem asp{a b:Request}(h:qS n a):kV (At n a b) (a=b):=by
 unfold At;by_cases Z:a.Client=b.Client
 ·by_cases ab:a.Seq=b.Seq
  ·by_cases aj:a.bb=b.bb
   ·by_cases aC:a.ez=b.ez
    ·by_cases aa:a.ar.length=b.ar.length
     ·simp only [Z,ab,aj,aC,ob aa,beq_self_eq_true,aug,auk,aul,aui,auj];rcases aso aI (a:=a.bk) (b:=b.bk) h.BS h.BT with e|⟨e,g⟩
      ·left
       rw [show xj n ⟨a.bk.dH,a.bk.Reads,a.bk.cm⟩ ⟨b.bk.dH,b.bk.Reads,b.bk.cm⟩=some false from e];rfl
      ·rw [show xj n ⟨a.bk.dH,a.bk.Reads,a.bk.cm⟩ ⟨b.bk.dH,b.bk.Reads,b.bk.cm⟩=some true from g]
       simp only [ak,auk,auj];refine(pR (a:=a.ar) (b:=b.ar) h.args aa (λm i hi=>?_) (λm=>?_)).to λe=>?_
       ·have hx:=h.args;simp only [uO,As,aup,hi,aug,aui,bw hi,bw (show i<b.ar.length by omega),aK,auo,bm (show i≤4611686018427387904 by omega)]
        exact step_eq (Vv _ _)
       ·simp only [uO,As,J6,aut,auh,auj]
       ·cases a;cases b;simp_all
     ·left;simp only [Z,ab,aj,aC,oc aa,beq_self_eq_true,aug,auk,aul,aui,auj,ak]
    ·left
     rw [show(a.ez == b.ez)=false from beq_eq_false_iff_ne.2 aC]
     simp only [Z,ab,aj,aug,auk,aul,aui,auj,ak]
   ·left;simp only [Z,ab,aj,aug,auh,auk,aul,aui,auj,ak]
  ·left;simp only [Z,ab,aug,auh,auk,aul,aui,auj,ak]
 ·left;simp only [Z,auh,auk,aul,aui,auj,ak]
theorem asq{a b:az}(h:BW n a):kV (Am n a b) (a=b):=by
 have h0:=h.rows;unfold Am;by_cases Z:a.cd=b.cd
 ·by_cases ab:a.b2=b.b2
  ·by_cases aa:a.Rows.length=b.Rows.length
   ·simp only [Z,ab,ob aa,aug,auk,auj];refine(pR (a:=a.Rows) (b:=b.Rows) h0 aa (λm i hi=>?_) (λm=>?_)).to λe=>?_
    ·have av:=(h.row i).BV;simp only [pq,Al,aup,hi,aug,aui,bw hi,bw (show i<b.Rows.length by omega),aK,auo]
     by_cases cC:(a.Rows.getD i default).Key=(b.Rows.getD i default).Key
     ·by_cases al:(a.Rows.getD i default).bj.length=(b.Rows.getD i default).bj.length
      ·simp only [cC,ob al,aug,auk,auj]
       rcases oV (L:=s5 n (pq n a b m) (i:Int) a b) (len:=(a.Rows.getD i default).bj.length) (m:=n) (Q:=λk=>(a.Rows.getD i default).bj.getD k default=(b.Rows.getD i default).bj.getD k default) (fin:=pq n a b m ((i+1:Nat):Int)) av
        (λm2 k hk=>by
         simp only [s5,Ak,aup,auo,hk,aug,aui,bw hk,bw (show k<(b.Rows.getD i default).bj.length by omega),aK,bm (show k≤4611686018427387904 by omega)]
         exact step_eq (ase _ _))
        (λm2=>by simp only [s5,Ak,J2,auo,aut,auh,auj,bm (show i≤4611686018427387904 by omega)])with g|⟨g1,g2⟩
       ·exact Or.inl g
       ·refine Or.inr ⟨?_,g2⟩;have g3:=Vu al g1;generalize a.Rows.getD i default=x at cC g3
        generalize b.Rows.getD i default=y at cC g3
        cases x;cases y;simp_all
      ·left;simp only [cC,oc al,aug,auk,aul,aui,auj]
     ·left;simp only [cC,auh,aul,aui]
    ·simp only [pq,Al,J1,aut,auh,auj]
    ·cases a;cases b;simp_all
   ·left;simp only [Z,ab,oc aa,aug,auk,aul,aui,auj]
  ·left;simp only [Z,ab,aug,auh,auk,aul,aui,auj]
 ·left;simp only [Z,auh,aul,aui]
end
def aep:∀(n:Nat) (a b:Expr),da a≤n→da a≤140737488351232→kV (rE n a b) (a=b):=by
 intro n;induction n with
 |zero=>intro a b h;rw [oQ]at h;omega
 |succ n aG=>
  intro a b h aa;have tl:=oQ a;have py:=Bo a.ar;simp only [rE,JX];by_cases Z:a.Op=b.Op
  ·by_cases ab:a.N=b.N
   ·by_cases aj:a.S=b.S
    ·by_cases aC:a.ar.length=b.ar.length
     ·simp only [Z,ab,aj,ob aC,aug,auk,auj];refine(pR (a:=a.ar) (b:=b.ar) (L:=uH n (rE n) a b) (m:=n) (by omega) aC (λm i hi=>?_) (λm=>?_)).to λe=>?_
      ·have hg:=Bp a.ar i hi;simp only [uH,EA,aup,hi,aug,aui,bw hi,bw (show i<b.ar.length by omega),aK,auo,bm (show i≤4611686018427387904 by omega)]
       exact Gw (aG (a.ar.getD i default) (b.ar.getD i default) (by omega) (by omega))
      ·simp only [uH,EA,JW,aut,auh,auj]
      ·cases a;cases b;simp_all
     ·left;simp only [Z,ab,aj,oc aC,aug,auk,aul,aui,auj]
    ·left;simp only [Z,ab,aj,aug,auh,auk,aul,aui,auj]
   ·left;simp only [Z,ab,aug,auh,auk,aul,aui,auj]
  ·left;simp only [Z,auh,aul,aui]
def asr:∀(
 n:Nat) (a b:List Stmt),dq a+2≤n→dq a≤140737488351232→kV (s4 n a b) (a=b):=by
 intro n;induction n with
 |zero=>intro a b h;omega
 |succ n aG=>
  intro a b h aa;have py:=rN a;simp only [s4,JZ];by_cases aC:a.length=b.length
  ·simp only [ob aC,auk,auj];refine pR (a:=a) (b:=b) (L:=uI n (s4 n) a b) (m:=n) (by omega) aC (λm i hi=>?_) (λm=>?_)
   ·have hg:=FY a i hi;simp only [uI,EB,iN,aup,hi,aug,aui,bw hi,bw (show i<b.length by omega),aK,auo,bm (show i≤4611686018427387904 by omega)]
    have lZ:=fst_eq (a.getD i default);by_cases cC:(a.getD i default).Op=(b.getD i default).Op
    ·by_cases al:(a.getD i default).Name=(b.getD i default).Name
     ·by_cases ef:(a.getD i default).Max=(b.getD i default).Max
      ·simp only [cC,al,ef,aug,auk,aul,aui,auj];rcases aep n (a.getD i default).A (b.getD i default).A (by omega) (by omega)with g|⟨g1,e1⟩
       ·left;simp only [g,ak,auk,aul,aui,auj]
       ·rcases aep n (a.getD i default).B (b.getD i default).B (by omega) (by omega)with g|⟨g2,e2⟩
        ·left;simp only [e1,g,ak,auk,aul,aui,auj]
        ·rcases aG (a.getD i default).Body (b.getD i default).Body (by omega) (by omega)with g|⟨g3,e3⟩
         ·left;simp only [e1,e2,g,ak,auk,aul,aui,auj]
         ·rcases aG (a.getD i default).bz (b.getD i default).bz (by omega) (by omega)with g|⟨g4,gG⟩
          ·left;simp only [e1,e2,e3,g,ak,auk,aul,aui,auj]
          ·right
           refine⟨?_,by simp only [e1,e2,e3,gG,ak,auk,aul,aui,auj]⟩
           generalize a.getD i default=x at cC al ef g1 g2 g3 g4
           generalize b.getD i default=y at cC al ef g1 g2 g3 g4
           cases x;cases y;simp_all
      ·left;simp only [cC,al,ef,aug,auh,auk,aul,aui,auj,ak]
     ·left;simp only [cC,al,aug,auh,auk,aul,aui,auj,ak]
    ·left;simp only [cC,auh,auk,aul,aui,auj,ak]
   ·simp only [uI,EB,JY,aut,auh,auj]
  ·left;simp only [oc aC,aul,aui]
section
variable {n:Nat} (hn:3000000≤n) (aI:n≤1000000000)
include hn aI
theorem ass{a b:bb}(h:mT a):kV (Ah n a b) (a=b):=by
 have h0:=h.f;have aT:=h.b;have bP:=xN a.Params;unfold Ah;by_cases Z:a.Name=b.Name
 ·by_cases aa:a.Params.length=b.Params.length
  ·simp only [Z,ob aa,aug,auk,auj]
   rcases oV (L:=uJ n a b) (len:=a.Params.length) (m:=n) (Q:=λk=>a.Params.getD k default=b.Params.getD k default) (fin:=EC n a b) (by omega)
    (λm i hi=>by
     simp only [uJ,ED,aup,auo,hi,aug,aui,bw hi,bw (show i<b.Params.length by omega),aK,bm (show i≤4611686018427387904 by omega)]
     exact step_eq (ash _ _))
    (λm=>by simp only [uJ,ED,aut,auh,auj])with g|⟨g1,g2⟩
   ·exact Or.inl g
   ·rw [g2];unfold EC;rcases asr n a.Body b.Body (by omega) (by omega)with g|⟨g3,g4⟩
    ·left;rw [g];rfl
    ·right;rw [g4]
     refine⟨?_,rfl⟩
     have g5:=Vu aa g1;cases a;cases b;simp_all
  ·left;simp only [Z,oc aa,aug,auk,aul,aui,auj]
 ·left;simp only [Z,auh,aul,aui]
theorem ast{a b:List bb}(ha:a.length<n)(h:∀i,mT (a.getD i default)):kV (Aj n a b) (a=b):=by
 unfold Aj;by_cases aa:a.length=b.length
 ·simp only [ob aa,auk,auj]
  exact pR ha aa (λm i hi=>by
   simp only [uK,Ai,aup,hi,aug,aui,bw hi,bw (show i<b.length by omega),aK,auo,bm (show i≤4611686018427387904 by omega)]
   exact Gw (ass hn aI (h i))) (λm=>by simp only [uK,Ai,J0,aut,auh,auj])
 ·left;simp only [oc aa,aul,aui]
theorem asu{a b:bU}(h:tG n a):kV (s9 n a b) (a=b):=by
 unfold s9
 (try simp only [B2])
 by_cases Z:a.Pos=b.Pos
 ·by_cases ab:a.de=b.de
  ·simp only [Z,ab,aug,auk,aul,aui,auj];rcases asq aI (a:=a.az) (b:=b.az) h.st with g|⟨g1,e1⟩
   ·left;simp only [g,ak,auk,aul,aui,auj]
   ·rcases ast hn aI (a:=a.cc) (b:=b.cc) h.x_ h.kU with g|⟨g2,e2⟩
    ·left;simp only [e1,g,ak,auk,aul,aui,auj]
    ·rcases asn aI (a:=a.cJ) (b:=b.cJ) h.tH h.n5 with g|⟨g3,e3⟩
     ·left;simp only [e1,e2,g,ak,auk,aul,aui,auj]
     ·rcases asj aI (a:=a.Place) (b:=b.Place) h.pl with g|⟨g4,gG⟩
      ·left;simp only [e1,e2,e3,g,ak,auk,aul,aui,auj]
      ·rcases asi aI (a:=a.bh) (b:=b.bh) h.aF with g|⟨g5,mt⟩
       ·left;simp only [e1,e2,e3,gG,g,ak,auk,aul,aui,auj]
       ·by_cases aa:a.Queue.length=b.Queue.length
        ·simp only [e1,e2,e3,gG,mt,ob aa,ak,auk,aul,aui,auj];refine(pR (a:=a.Queue) (b:=b.Queue) (L:=s8 n a b) (m:=n) h.n6 aa (λm i hi=>?_) (λm=>?_)).to λe=>?_
         ·have ao:=h.n6;simp only [s8,Az,aup,hi,aug,aui,bw hi,bw (show i<b.Queue.length by omega),aK,auo,bm (show i≤4611686018427387904 by omega)]
          exact Gw (asp aI (h.tI i))
         ·simp only [s8,Az,J',aut,auh,auj]
         ·cases a;cases b;simp_all
        ·left;simp only [e1,e2,e3,gG,mt,oc aa,ak,auk,aul,aui,auj]
  ·left;simp only [Z,ab,aug,auh,auk,aul,aui,auj,ak]
 ·left;simp only [Z,auh,auk,aul,aui,auj,ak]
end
section
variable {n:Nat} (hn:3000000≤n) (aI:n≤1000000000) {a b:bU} (oX:sj a) (l1:n_ a) (pQ:sj b) (oY:n_ b)
include hn aI oX l1 pQ oY
theorem aeq(ha:gy a=true)(hb:gy b=true):jz a=jz b↔iv (hB a)=iv (hB b):=by
 constructor
 ·intro h;rw [←ael a,←ael b,h]
 ·intro h;obtain⟨pa,_⟩:=yg hn aI oX l1 ha;obtain⟨asv,_⟩:=yg hn aI pQ oY hb;have d1:=UY.rt (hB a) [] pa;have d2:=UY.rt (hB b) [] asv;rw [h,d2]at d1;have e:hB b=hB a:=by injection d1 with d1;injection d1
  have aN:=Vt hn aI oX l1 ha;have bp:=Vt hn aI pQ oY hb;have e3:b.cc.map gL=a.cc.map gL:=congrArg (λp:n7=>p.2.2.1) e
  rw [e3,aN]at bp;have gG:a.cc=b.cc:=by injection bp with bp;injection bp
  have e1:b.Pos=a.Pos:=congrArg (λp:n7=>p.1) e
  have e2:eR b.az.Rows=eR a.az.Rows:=congrArg (λp:n7=>p.2.1) e
  have mt:b.cJ=a.cJ:=congrArg (λp:n7=>p.2.2.2.1) e
  have vh:b.Place=a.Place:=congrArg (λp:n7=>p.2.2.2.2.1) e
  have vg:b.bh=a.bh:=congrArg (λp:n7=>p.2.2.2.2.2.1) e
  have BJ:b.Queue=a.Queue:=congrArg (λp:n7=>p.2.2.2.2.2.2.1) e
  have Me:b.de=a.de:=congrArg (λp:n7=>p.2.2.2.2.2.2.2) e
  unfold jz;rw [e1,e2,gG,mt,vh,vg,BJ,Me]
theorem asw:Lu n a b=some (gy a&&(gy b&&decide (iv (hB a)=iv (hB b)))):=by
 unfold Lu
 (try simp only [B3])
 rw [aen hn aI oX l1,aen hn aI pQ oY];simp only [ak];cases ha:gy a
 ·have e1:sl a=(M1,1):=by unfold sl;rw [ha];rfl
  simp only [e1,show¬ (1:Int)=0 by omega,auh,auj,ak,Bool.false_and]
 ·have e1:sl a=(jz a,0):=by unfold sl;rw [ha];rfl
  cases hb:gy b
  ·have e2:sl b=(M1,1):=by unfold sl;rw [hb];rfl
   simp only [e1,e2,show¬ (1:Int)=0 by omega,aug,auh,aui,auj,ak,Bool.false_and,Bool.true_and]
  ·have e2:sl b=(jz b,0):=by unfold sl;rw [hb];rfl
   have aer:=(asd hn aI oX l1 ha).1;simp only [e1,e2,aug,aui,Bool.true_and];by_cases h:jz a=jz b
   ·rw [decide_eq_true ((aeq hn aI oX l1 pQ oY ha hb).1 h)];rw [←h];rw [show s9 n _ _=some true from ap8 hn aI aer];rfl
   ·rw [decide_eq_false λg=>h ((aeq hn aI oX l1 pQ oY ha hb).2 g)]
    rcases asu hn aI (a:=jz a) (b:=jz b) aer with g|⟨g,_⟩
    ·rw [show s9 n _ _=some false from g];rfl
    ·exact absurd g h
end
def asx(a b:bU)(l1:n_ a)(oY:n_ b):SS 10000000 a b=some true:=by
 unfold SS
 (try simp only [B3])
 rcases adG (n:=10000000) (by omega) a l1.Vl.2 with h|⟨oX,h⟩
 ·simp only [h,ak,aul,auk,aui,auj,U0]
 ·rcases adG (n:=10000000) (by omega) b oY.Vl.2 with g|⟨pQ,g⟩
  ·simp only [h,g,ak,aul,auk,aui,auj,U0]
  ·simp only [h,g,ak,aul,auk,aui,auj,U0,ar6 (n:=10000000) (by omega) (by omega) oX l1 pQ oY,asw (n:=10000000) (by omega) (by omega) oX l1 pQ oY,beq_self_eq_true]
end Go.Ab.Y

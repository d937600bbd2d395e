/- The plain law: what the functions compute answers as the statement says. -/
import Derived.Test.YtcjbfnojhpfchaaGreatDoorPlainC
set_option linter.all false
namespace Go.Ab.Y
open Go Go.Ab Go.Proofs
abbrev Bl:=Int×List bn×jZ×List bM×cb×List bi×List Request×Int
def Ms:ez Bl:=dM iM λ_=>dM Bf λ_=>dM UE λ_=>dM uX λ_=>dM uU λ_=>dM xB λ_=>dM px λ_=>ie
def kr(p:Bl):atW:=mK p.1++(d9 li p.2.1++(d9 gb p.2.2.1++(d9 lj p.2.2.2.1++(oI p.2.2.2.2.1++(d9 nY p.2.2.2.2.2.1++(d9 jF p.2.2.2.2.2.2.1++jv p.2.2.2.2.2.2.2))))))
structure th(p:Bl):Prop where
 pos:e5 p.1
 lk:(p.2.1.length≤2147483647∧∀v∈p.2.1,rV v)∧mb p.2.1=true
 src:p.2.2.1.length≤16∧∀s∈p.2.2.1,s.length≤16384
 oJ:(p.2.2.2.1.length≤32∧∀v∈p.2.2.2.1,qG v)∧nV p.2.2.2.1=true
 xD:(e5 p.2.2.2.2.1.Version∧p.2.2.2.2.1.aE.length≤16∧∀v∈p.2.2.2.2.1.aE,qF v)∧ni p.2.2.2.2.1=true
 aF:p.2.2.2.2.2.1.length≤32∧∀h∈p.2.2.2.2.2.1,h.Key.length≤24∧e5 h.Count
 py:p.2.2.2.2.2.2.1.length≤64∧∀v∈p.2.2.2.2.2.2.1,nX v∧te v=true
 UL:hS p.2.2.2.2.2.2.2
def apM:ek Ms kr th:=
 (kQ.dep λ_ _=>Md.dep λ_ _=>apj.dep λ_ _=>Mk.dep λ_ _=>Me.dep λ_ _=>api.dep λ_ _=>Mo.dep λ_ _=>mN).as _ _
  (λv=>⟨λh=>⟨h.pos,h.lk,h.src,h.oJ,h.xD,h.aF,h.py,h.UL⟩,λh=>⟨h.1,h.2.1,h.2.2.1,h.2.2.2.1,h.2.2.2.2.1,h.2.2.2.2.2.1,h.2.2.2.2.2.2.1,h.2.2.2.2.2.2.2⟩⟩) (λv _=>rfl)
def apN{k:Nat}{t:atW}{e:Int}(h:qC k t = .error e):e≠0:=by
 unfold qC fU at h;cases aa:jc k t with
 |error f=>rw [aa]at h;cases h;exact oG aa
 |ok r=>rw [aa]at h;cases h
def h5{α:Type}(z:α)(s:atW)(a:Int):Except Int (α×atW)→α×Int×Int
 |.ok (v,t)=>(v,bo s t,0)
 |.error e=>(z,a,e)
section
variable {n:Nat} (hn:3000000≤n) (aR:n≤1000000000) {s:atW} (hs:s.length<n)
theorem u0{α:Type}{z:α}{D:ez α}{t:atW}{a:Int}(h0:∀e,D t = .error e→e≠0):(bif (!decide ((res z s (D t)).2.2=0))then some (z,a,(res z s (D t)).2.2)else some ((res z s (D t)).1,(res z s (D t)).2.1,(res z s (D t)).2.2))=some (h5 z s a (D t)):=by
 cases h:D t with
 |error e=>rw [fF];simp only [gH (h0 e h),atH];rfl
 |ok r=>obtain⟨v,bS⟩:=r;rfl
theorem apO{a e:Int}(he:e≠0):wB n ⟨s,a,e⟩=some (0,a,e):=by unfold wB;simp only [gH he,atH]
theorem apP{a e:Int}(he:e≠0):y' n ⟨s,a,e⟩=some ([],a,e):=by unfold y';simp only [gH he,atH]
theorem FU{p a e:Int}(he:e≠0):wA n p ⟨s,a,e⟩=some (0,a,e):=by unfold wA;simp only [gH he,atH]
theorem apQ{a e:Int}(he:e≠0):zj n ⟨s,a,e⟩=some ([],a,e):=by unfold zj;simp only [gH he,atH]
theorem ac9{a e:Int}(he:e≠0):za n ⟨s,a,e⟩=some (⟨0,[]⟩,a,e):=by unfold za;simp only [gH he,atH]
theorem apR{a e:Int}(he:e≠0):zg n ⟨s,a,e⟩=some ([],a,e):=by unfold zg;simp only [gH he,atH]
theorem ac'{a e:Int}(he:e≠0):zk n ⟨s,a,e⟩=some (0,a,e):=by unfold zk;simp only [gH he,atH]
include hn aR hs
theorem ac_{t:atW}(aF:t <:+ s):wB n ⟨s,bo s t,0⟩=some (h5 0 s (bo s t) (iM t)):=by
 unfold wB;simp only [atF,atJ,atI];rw [Um aF (by omega) (by omega),al];exact u0 (λe h=>kQ.c8 _ _ h)
theorem apS{t:atW}(aF:t <:+ s):y' n ⟨s,bo s t,0⟩=some (h5 [] s (bo s t) (Bf t)):=by
 unfold y';simp only [atF,atJ,atI];rw [ao9 (by omega) aR hs aF,al];exact u0 (λe h=>Md.c8 _ _ h)
theorem ada{k:Nat}(hk:k≤1000){t:atW}(aF:t <:+ s):wA n (k:Int) ⟨s,bo s t,0⟩=some (h5 0 s (bo s t) (qC k t)):=by
 unfold wA P_;simp only [atF,atJ,atI];rw [uN aF (by omega) (by omega) (by omega),al,al];exact u0 (λe h=>apN h)
theorem adb{k:Nat}(hk:k≤20000){t:atW}(aF:t <:+ s):Dt n (k:Int) ⟨s,bo s t,0⟩=some (h5 [] s (bo s t) (f7 k t)):=by
 unfold Dt Qa;simp only [atF,atJ,atI];rw [FG aF (by omega) (by omega) (by omega),al,al];exact u0 (λe h=>(A9 k (by omega)).c8 _ _ h)
theorem apT{t:atW}(aF:t <:+ s):zj n ⟨s,bo s t,0⟩=some (h5 [] s (bo s t) (uX t)):=by
 unfold zj;simp only [atF,atJ,atI];rw [apf (by omega) aR hs aF,al];exact u0 (λe h=>Mk.c8 _ _ h)
theorem apU{t:atW}(aF:t <:+ s):za n ⟨s,bo s t,0⟩=some (h5 ⟨0,[]⟩ s (bo s t) (uU t)):=by
 unfold za;simp only [atF,atJ,atI];rw [apa (by omega) aR hs aF,al];exact u0 (λe h=>Me.c8 _ _ h)
theorem apV{t:atW}(aF:t <:+ s):zg n ⟨s,bo s t,0⟩=some (h5 [] s (bo s t) (px t)):=by
 unfold zg;simp only [atF,atJ,atI];rw [apv (by omega) aR hs aF,al];exact u0 (λe h=>Mo.c8 _ _ h)
theorem apW{t:atW}(aF:t <:+ s):zk n ⟨s,bo s t,0⟩=some (h5 0 s (bo s t) (ie t)):=by
 unfold zk;simp only [atF,atJ,atI];rw [Ba aF (by omega) (by omega),al];exact u0 (λe h=>mN.c8 _ _ h)
theorem apX{b:fm}(hb:b.s=s){r1 r26 r27 r2 v25}{a e:Int}{l:List bi}(he:e≠0):lQ e (ud n b r1 r26 r27 r2 v25 a e l):=by
 unfold ud;rw [apR he,al,ac' he,al];exact⟨_,_,rfl⟩
theorem Bm{b:fm}(hb:b.s=s){r1 r26 r27 r2 v25}{a e c:Int}{l:List bi}{m:Nat}(he:e≠0):lQ e (ri n b r1 r26 r27 r2 v25 (m+1) a e l c):=by
 have sm:decide (e=0)=false:=decide_eq_false he;simp only [ri,Dv,sm,ef,Bool.and_false,atI];exact apX hn aR hs hb he
theorem apY{b:fm}(hb:b.s=s){r1 r2}{a e:Int}{l:jZ}(he:e≠0):lQ e (ue n b r1 r2 a e l):=by
 unfold ue y5;rw [apQ he,al,ac9 he,al,al,FU he,al];obtain⟨m,rfl⟩:∃j,n=j+1:=⟨n-1,by omega⟩
 exact Bm hn aR hs hb he
theorem Mt{b:fm}(hb:b.s=s){r1 r2}{a e c:Int}{l:jZ}{m:Nat}(he:e≠0):lQ e (uf n b r1 r2 (m+1) a e l c):=by
 have sm:decide (e=0)=false:=decide_eq_false he;simp only [uf,Dw,sm,ef,Bool.and_false,atI];exact apY hn aR hs hb he
theorem apZ{b:fm}(hb:b.s=s){r1:Int×Int×Int}{r26:List bM×Int×Int}{r27:cb×Int×Int}{r2:List bn×Int×Int}{v25:jZ}{l:List bi}{t:atW}(aF:t <:+ s):
 match dM px (λ_=>ie) t with|.ok (p,bS)=>ud n b r1 r26 r27 r2 v25 (bo s t) 0 l=some (⟨⟨r1.1,⟨0,0,[]⟩,[],r26.1,r27.1,l,p.1,p.2⟩,r2.1,v25⟩,bo s bS,0)|.error e=>lQ e (ud n b r1 r26 r27 r2 v25 (bo s t) 0 l):=by
 unfold ud dM;rw [hb,apV hn aR hs aF,al];cases g1:px t with
 |error e=>
  have he:=Mo.c8 _ _ g1;simp only [h5];rw [ac' he,al];exact⟨_,_,rfl⟩
 |ok r=>
  obtain⟨dz,t1⟩:=r;have kq:=jd Mo g1 aF;simp only [h5];rw [apW hn aR hs kq,al];cases g2:ie t1 with
  |error e=>exact⟨_,_,rfl⟩
  |ok r=>rfl
theorem ap0{b:fm}(hb:b.s=s){r1:Int×Int×Int}{r26:List bM×Int×Int}{r27:cb×Int×Int}{r2:List bn×Int×Int}{v25:jZ}{u:Nat}(hu:u<n){t:atW}(aF:t <:+ s):
 match dM (hy (fU (λp=>(⟨p.1,p.2⟩:bi)) (dM (f7 24) λ_=>iM)) u) (λ_=>dM px (λ_=>ie)) t with|.ok (p,bS)=>ri n b r1 r26 r27 r2 v25 n (bo s t) 0 [] (u:Int)=some (⟨⟨r1.1,⟨0,0,[]⟩,[],r26.1,r27.1,p.1,p.2.1,p.2.2⟩,r2.1,v25⟩,bo s bS,0)|.error e=>lQ e (ri n b r1 r26 r27 r2 v25 n (bo s t) 0 [] (u:Int)):=by
 have cZ:=uS (L:=λm i t acc=>ri n b r1 r26 r27 r2 v25 m (bo s t) 0 acc ((u-i:Nat):Int)) (f:=λ_ v=>v) (D:=fU (λp=>(⟨p.1,p.2⟩:bi)) (dM (f7 24) λ_=>iM)) (u:=u) (s:=s) (fin:=λacc t=>ud n b r1 r26 r27 r2 v25 (bo s t) 0 acc) (bad:=λe x=>lQ e x) (λx v t hx=>UD.lP hx) (by
  intro m i t acc hm hi ha aF;have hc:(0:Int)<((u-i:Nat):Int):=by omega
  simp only [ri,Dv,hc,atF,atH,Du,al];rw [hb,show(24:Int)=((24:Nat):Int)from rfl,adb hn aR hs (by omega) aF,al]
  have gm:room (acc.length+1) 24=true:=lg (by omega)
  obtain⟨m,rfl⟩:∃j,m=j+1:=⟨m-1,by omega⟩
  unfold fU dM;cases g1:f7 24 t with
  |error e=>
   have he:=nU.c8 _ _ g1;simp only [h5];rw [apO he,al];simp only [atQ,show(((24:Nat):Int)).toNat=24 from rfl,gm,aL]
   exact Bm hn aR hs hb he
  |ok r=>
   obtain⟨dz,t1⟩:=r;have kq:=jd nU g1 aF;simp only [h5];rw [ac_ hn aR hs kq,al];cases g2:iM t1 with
   |error e=>
    have he:=kQ.c8 _ _ g2;simp only [h5,atQ,gm,aL];exact Bm hn aR hs hb he
   |ok r=>
    obtain⟨ew,t2⟩:=r;simp only [h5,atQ,gm,aL];rw [show atY (((u-i:Nat):Int)-1)=((u-(i+1):Nat):Int)by rw [wr]<;>omega]) (by
  intro m t acc ha aF;simp only [ri,Dv,Nat.sub_self,show¬ (0:Int)<((0:Nat):Int)by omega,atG,atI]) u n 0 t [] (by omega) hu rfl aF
 simp only [Nat.sub_zero]at cZ;unfold dM;cases ai:hy (fU (λp=>(⟨p.1,p.2⟩:bi)) (dM (f7 24) λ_=>iM)) u t with
 |error e=>unfold dM at ai;rw [ai];unfold dM at cZ;rw [ai]at cZ;exact cZ
 |ok r=>
  obtain⟨l,ng⟩:=r;have UM:=jd (UD.rep u) ai aF;rw [ai]at cZ;unfold dM at ai;rw [ai];simp only [List.nil_append,uT]at cZ ⊢;rw [cZ];have hj:=apZ hn aR hs hb (r1:=r1) (r26:=r26) (r27:=r27) (r2:=r2) (v25:=v25) (l:=l) UM;unfold dM at hj;cases g:px ng with
  |error e=>rw [g]at hj;exact hj
  |ok r=>
   obtain⟨q,t1⟩:=r;rw [g]at hj;simp only at hj ⊢
   cases e0:ie t1 with
   |error e=>rw [e0]at hj;exact hj
   |ok r=>rw [e0]at hj;exact hj
end
def ti{α β:Type}{D:ez α}{k:α→ez β}{t:atW}{e:Int}(h:D t = .error e):dM D k t = .error e:=by unfold dM;rw [h]
def xE{α β:Type}{D:ez α}{k:α→ez β}{t bS:atW}{v:α}(h:D t = .ok (v,bS)):dM D k t=match k v bS with|.ok (w,u)=>.ok ((v,w),u)|.error e=>.error e:=by unfold dM;rw [h];rfl
def adc{t:atW}:xB t=match jc 32 t with|.ok (u,t)=>hy (fU (λp=>(⟨p.1,p.2⟩:bi)) (dM (f7 24) λ_=>iM)) u t|.error e=>.error e:=rfl
abbrev tailD:ez (List bM×cb×List bi×List Request×Int):=dM uX λ_=>dM uU λ_=>dM xB λ_=>dM px λ_=>ie
section
variable {n:Nat} (hn:3000000≤n) (aR:n≤1000000000) {s:atW} (hs:s.length<n)
include hn aR hs
theorem ap1{b:fm}(hb:b.s=s){r1:Int×Int×Int}{r2:List bn×Int×Int}{v25:jZ}{t:atW}(aF:t <:+ s):
 match tailD t with|.ok (p,bS)=>ue n b r1 r2 (bo s t) 0 v25=some (⟨⟨r1.1,⟨0,0,[]⟩,[],p.1,p.2.1,p.2.2.1,p.2.2.2.1,p.2.2.2.2⟩,r2.1,v25⟩,bo s bS,0)|.error e=>lQ e (ue n b r1 r2 (bo s t) 0 v25):=by
 unfold ue y5 tailD;obtain⟨rY,kc⟩:∃j,n=j+1:=⟨n-1,by omega⟩
 rw [hb,apT hn aR hs aF,al];cases g1:uX t with
 |error e=>
  have he:=Mk.c8 _ _ g1;rw [ti g1];simp only [h5];rw [ac9 he,al,al,FU he,al];have:=Bm hn aR hs hb (r1:=r1) (r26:=([],bo s t,e)) (r27:=(⟨0,[]⟩,bo s t,e)) (r2:=r2) (v25:=v25) (a:=bo s t) (c:=0) (l:=[]) (m:=rY) he
  rw [←kc]at this;exact this
 |ok r=>
  obtain⟨dz,t1⟩:=r;have kq:=jd Mk g1 aF;rw [xE g1];simp only [h5];rw [apU hn aR hs kq,al,al];cases g2:uU t1 with
  |error e=>
   have he:=Me.c8 _ _ g2;rw [ti g2];simp only [h5];rw [FU he,al];have:=Bm hn aR hs hb (r1:=r1) (r26:=(dz,bo s t1,0)) (r27:=(⟨0,[]⟩,bo s t1,e)) (r2:=r2) (v25:=v25) (a:=bo s t1) (c:=0) (l:=[]) (m:=rY) he
   rw [←kc]at this;exact this
  |ok r=>
   obtain⟨ew,t2⟩:=r;have jN:=jd Me g2 kq;rw [xE g2];simp only [h5];rw [show(32:Int)=((32:Nat):Int)from rfl,ada hn aR hs (by omega) jN,al]
   cases h:jc 32 t2 with
   |error e=>
    have he:=oG h;have bm:xB t2 = .error e:=by rw [adc,h]
    rw [ti bm,rM h];simp only [h5];have:=Bm hn aR hs hb (r1:=r1) (r26:=(dz,bo s t1,0)) (r27:=(ew,bo s t2,0)) (r2:=r2) (v25:=v25) (a:=bo s t2) (c:=0) (l:=[]) (m:=rY) he
    rw [←kc]at this;exact this
   |ok r=>
    obtain⟨u,bS⟩:=r;obtain⟨Z,aa,aj⟩:=pr h;have eK:bS <:+ s:=List.IsSuffix.trans ⟨e' u,Z.symm⟩ jN;have hu:=eK.length_le;rw [rL h];simp only [h5];have cZ:=ap0 hn aR hs hb (r1:=r1) (r26:=(dz,bo s t1,0)) (r27:=(ew,bo s t2,0)) (r2:=r2) (v25:=v25) (u:=u) (by omega) eK
    have bm:xB t2=hy (fU (λp=>(⟨p.1,p.2⟩:bi)) (dM (f7 24) λ_=>iM)) u bS:=by rw [adc,h]
    cases ai:hy (fU (λp=>(⟨p.1,p.2⟩:bi)) (dM (f7 24) λ_=>iM)) u bS with
    |error e=>
     rw [ti ai]at cZ;rw [ai]at bm;rw [ti bm];exact cZ
    |ok r=>
     obtain⟨l,ng⟩:=r;rw [xE ai]at cZ;rw [ai]at bm;rw [xE bm];cases g:dM px (λ_=>ie) ng with
     |error e=>rw [g]at cZ;exact cZ
     |ok r=>rw [g]at cZ;exact cZ
theorem ap2:match Ms s with|.ok (p,bS)=>Dx n ⟨s,0,0⟩=some (⟨⟨p.1,⟨0,0,[]⟩,[],p.2.2.2.1,p.2.2.2.2.1,p.2.2.2.2.2.1,p.2.2.2.2.2.2.1,p.2.2.2.2.2.2.2⟩,p.2.1,p.2.2.1⟩,bo s bS,0)|.error e=>lQ e (Dx n ⟨s,0,0⟩):=by
 unfold Dx y5 Ms;obtain⟨rY,kc⟩:∃j,n=j+1:=⟨n-1,by omega⟩
 have hb:(⟨s,0,0⟩:fm).s=s:=rfl;have aF:s <:+ s:=List.suffix_refl s;rw [show(⟨s,0,0⟩:fm)=⟨s,bo s s,0⟩by rw [aoq],ac_ hn aR hs aF,al]
 generalize cL:(⟨s,bo s s,0⟩:fm)=B
 have hb:B.s=s:=by rw [←cL]
 rw [hb];cases g1:iM s with
 |error e=>
  have he:=kQ.c8 _ _ g1;rw [ti g1];simp only [h5];rw [apP he,al,al,FU he,al];have:=Mt hn aR hs hb (r1:=(0,bo s s,e)) (r2:=([],bo s s,e)) (a:=bo s s) (c:=0) (l:=[]) (m:=rY) he
  rw [←kc]at this;exact this
 |ok r=>
  obtain⟨dz,t1⟩:=r;have kq:=jd kQ g1 aF;rw [xE g1];simp only [h5];rw [apS hn aR hs kq,al,al];cases g2:Bf t1 with
  |error e=>
   have he:=Md.c8 _ _ g2;rw [ti g2];simp only [h5];rw [FU he,al];have:=Mt hn aR hs hb (r1:=(dz,bo s t1,0)) (r2:=([],bo s t1,e)) (a:=bo s t1) (c:=0) (l:=[]) (m:=rY) he
   rw [←kc]at this;exact this
  |ok r=>
   obtain⟨ew,t2⟩:=r;have jN:=jd Md g2 kq;rw [xE g2];simp only [h5];rw [show(16:Int)=((16:Nat):Int)from rfl,ada hn aR hs (by omega) jN,al]
   have iU:UE t2=match jc 16 t2 with|.ok (u,t)=>hy (f7 16384) u t|.error e=>.error e:=rfl
   cases h:jc 16 t2 with
   |error e=>
    have he:=oG h;rw [h]at iU;rw [ti iU,rM h];simp only [h5];have:=Mt hn aR hs hb (r1:=(dz,bo s t1,0)) (r2:=(ew,bo s t2,0)) (a:=bo s t2) (c:=0) (l:=[]) (m:=rY) he
    rw [←kc]at this;exact this
   |ok r=>
    obtain⟨u,bS⟩:=r;obtain⟨Z,aa,aj⟩:=pr h;have eK:bS <:+ s:=List.IsSuffix.trans ⟨e' u,Z.symm⟩ jN;have hu:=eK.length_le;rw [h]at iU;rw [rL h];simp only [h5]
    have cZ:=uS (L:=λm i t acc=>uf n B (dz,bo s t1,0) (ew,bo s t2,0) m (bo s t) 0 acc ((u-i:Nat):Int)) (f:=λ_ v=>v) (D:=f7 16384) (u:=u) (s:=s) (fin:=λacc t=>ue n B (dz,bo s t1,0) (ew,bo s t2,0) (bo s t) 0 acc) (bad:=λe x=>lQ e x) (λx v t hx=>Mp.lP hx) (by
     intro m i t acc hm hi ha aF;have hc:(0:Int)<((u-i:Nat):Int):=by omega
     simp only [uf,Dw,hc,atF,atH,Du,al];rw [hb,show(16384:Int)=((16384:Nat):Int)from rfl,adb hn aR hs (by omega) aF,al]
     have gm:room (acc.length+1) 16=true:=lg (by omega)
     obtain⟨m,rfl⟩:∃j,m=j+1:=⟨m-1,by omega⟩
     cases g1:f7 16384 t with
     |error e=>
      have he:=Mp.c8 _ _ g1;simp only [h5,atQ,gm,aL];exact Mt hn aR hs hb he
     |ok r=>
      obtain⟨dz,t1⟩:=r;simp only [h5,atQ,gm,aL];rw [show atY (((u-i:Nat):Int)-1)=((u-(i+1):Nat):Int)by rw [wr]<;>omega]) (by
     intro m t acc ha aF;simp only [uf,Dw,Nat.sub_self,show¬ (0:Int)<((0:Nat):Int)by omega,atG,atI]) u n 0 bS [] (by omega) (by omega) rfl eK
    simp only [Nat.sub_zero]at cZ;cases ai:hy (f7 16384) u bS with
    |error e=>
     rw [ai]at cZ;simp only at iU
     rw [ai]at iU;rw [ti iU];exact cZ
    |ok r=>
     obtain⟨l,ng⟩:=r;have UM:=jd (Mp.rep u) ai eK;rw [ai]at cZ;simp only at iU
     rw [ai]at iU;rw [xE iU];simp only [List.nil_append,uT]at cZ ⊢;rw [cZ];have hj:=ap1 hn aR hs hb (r1:=(dz,bo s t1,0)) (r2:=(ew,bo s t2,0)) (v25:=l) UM;unfold tailD at hj;cases g:(dM uX λ_=>dM uU λ_=>dM xB λ_=>dM px λ_=>ie) ng with
     |error e=>rw [g]at hj;exact hj
     |ok r=>rw [g]at hj;exact hj
end
abbrev ade:b7:=⟨0,⟨0,0,[]⟩,[],[],⟨0,[]⟩,[],[],0⟩
def ap3(l:List bn)(a:Int)(i:Nat)(hi:i<l.length):((je l a).Rows.getD i default)=⟨(l.getD i default).Key,[⟨a,(l.getD i default).bA⟩]⟩:=by
 unfold je;simp [List.getD_eq_getElem?_getD,hi]
def ap4{n:Nat}(hn:2000≤n){l:List bn}(ab:l.length<n)(h:∀p∈l,rV p)(a:Int):FK n (je l a):=by
 refine⟨by unfold je;simpa using ab,λi=>?_⟩
 by_cases hi:i<l.length
 ·rw [ap3 l a i hi];have hp:=acP (h _ (Mb hi));refine⟨hp.1,by show 1<n;omega,λk=>?_⟩
  refine rU (P:=λv:Version=>v.bA.S.length≤1000) (λx hx=>?_) (by show([]:atW).length≤1000;simp) k
  rw [List.mem_singleton.1 hx];exact hp.2
 ·have:(je l a).Rows.getD i default=default:=by
   unfold je;rw [List.getD_eq_getElem?_getD,List.getElem?_eq_none (by simp;omega)];rfl
  rw [this];refine⟨by show([]:atW).length≤1000;simp,by show 0<n;omega,λk=>?_⟩
  show(([]:List Version).getD k default).bA.S.length≤1000
  simp [List.getD];show([]:atW).length≤1000
  simp
def adf{n:Nat}(hn:2000≤n):rQ n default:=UF hn ⟨by show hS 0;unfold hS;omega,by show hS 0;unfold hS;omega,by show([]:atW).length≤16;simp,⟨by show([]:List bp).length≤6;simp,λv aw=>by cases aw⟩,rfl,rfl⟩
def ap5{p:Bl}(h:th p):p.2.1.length≤(kr p).length:=by
 have Z:=L9 (E:=li) (l:=p.2.1) λv _=>by unfold li gb;simp [qA]
 unfold kr;rw [show d9 li p.2.1=e' p.2.1.length++iL li p.2.1 from rfl]
 simp only [atP];omega
def UN{n:Nat}(hn:2000≤n):tg n ade:=by
 have h0:∀{α:Type} (l:List α),l=[]→l.length<n:=λl h=>by rw [h];show 0<n;omega
 exact {
  st:=by
   refine⟨h0 _ rfl,λi=>⟨?_,?_,λk=>?_⟩⟩
   ·show([]:atW).length≤1000;simp
   ·exact h0 _ rfl
   ·show([]:atW).length≤1000;simp
  Bj:=h0 _ rfl
  lk:=λi=>rU (P:=nZ) (λx hx=>absurd hx (by show¬ x∈([]:List bc);simp)) ac6 i
  uY:=h0 _ rfl
  oJ:=Ml hn (λx hx=>by cases hx)
  pl:=h0 _ rfl
  Bk:=acQ (λx hx=>by cases hx)
  aF:=h0 _ rfl
  kv:=λi=>by show([]:atW).length≤1000;simp
  py:=h0 _ rfl
  uZ:=λi=>rU (P:=rQ n) (λx hx=>absurd hx (by show¬ x∈([]:List Request);simp)) (adf hn) i}
def ap6{s t:atW}(h:t <:+ s):(bo s t=((s.length:Nat):Int))↔t=[]:=by
 have:=h.length_le
 unfold bo;constructor
 ·intro e;have:t.length=0:=by omega
  exact List.eq_nil_of_length_eq_zero this
 ·intro e;subst e;simp
section
variable {n:Nat} (hn:3000000≤n) (aR:n≤1000000000) {s:atW} (hs:s.length≤2000)
include hn aR hs
end
def adg:JF 10000000=some true:=by kernel_rfl
def r4{α R:Type}[Inhabited α]{l:List α}{E:α→atW}{B:Nat}{L:Nat→atW→Nat→Option R}{fin:atW→Option R}
 (hs:∀m i acc,i<l.length→acc.length+(E (l.getD i default)).length≤B→L (m+1) acc i=L m (acc++E (l.getD i default)) (i+1))
 (he:∀m acc,acc.length≤B→L (m+1) acc l.length=fin acc):
 ∀m i acc,l.length<m+i→i≤l.length→acc.length+(iL E (l.drop i)).length≤B→L m acc i=fin (acc++iL E (l.drop i)):=by
 intro m;induction m with
 |zero=>intro i acc Z aa;omega
 |succ m aH=>
  intro i acc Z aa aj;by_cases hi:i<l.length
  ·rw [e8 l i default hi,A7]at aj ⊢;rw [atP]at aj;rw [hs m i acc hi (by omega),aH (i+1) _ (by omega) (by omega) (by rw [atP];omega),List.append_assoc]
  ·obtain rfl:i=l.length:=by omega
   rw [gu l _ hi,aoo]at aj ⊢;rw [he m acc (by simpa using aj),List.append_nil]
def Bn{n:Nat}(hn:10≤n){z:Int}(h:hS z):hY n (IntKind.u64.wrap z)=some (jv z):=by
 obtain⟨Z,aa⟩:=h;have e:IntKind.u64.wrap z=((z.toNat:Nat):Int):=by rw [IntKind.wrap_u64];omega
 rw [e];exact uK hn (by omega)
def tj{n:Nat}(hn:10≤n){k:Nat}(h:k<18446744073709551616):hY n (IntKind.u64.wrap (k:Int))=some (e' k):=by
 rw [rG h];exact uK hn h
def lR{n:Nat}{s t:atW}(h:t.length+s.length≤10000000):ki n s (g' t)=some (((s.length:Nat):Int),g' (t++s)):=by
 unfold ki yQ;simp only [al,L2,Ub (show t.length+s.length≤140737488355328 by omega),aL]
 rw [T9];rfl
def UO{n:Nat}{t:atW}(h:t.length≤10000000):sC n (g' t)=some (t,g' t):=by
 unfold sC;simp only [T8,T7,L2,show t.length≤9223372036854775807 by omega,atF,Bool.and_self,aL]
def r5{α:Type}[Inhabited α]{P:α→Prop}{l:List α}(h:∀x∈l,P x){i:Nat}(hi:i<l.length):P (l.getD i default):=by
 rw [List.getD_eq_getElem?_getD,List.getElem?_eq_getElem hi];exact h _ (List.getElem_mem hi)
def ap7{n:Nat}(hn:2000≤n){l:List bn}(ab:l.length<n)(h:∀p∈l,rV p)(cL:(d9 li l).length≤1000000):Ik n l=some (d9 li l):=by
 have hlen:l.length≤(iL li l).length:=L9 λv _=>by unfold li gb;simp [qA]
 unfold d9 at cL ⊢;rw [atP]at cL
 have key:=r4 (l:=l) (E:=li) (B:=2000000) (L:=λm acc i=>yW n l m (g' acc) (i:Int)) (fin:=λacc=>some acc)
  (λm i acc hi hb=>by
   obtain⟨Z,aa⟩:=r5 h hi;have aj:=td aa;unfold li at hb ⊢;rw [atP]at hb;simp only [yW,Ij,hi,bI hi,atN,atO,atF,atH,aL,bv (show i≤4611686018427387904 by omega)]
   rw [uL (by omega) (by omega),al,lR (by omega),al,
    show vZ n (⟨((l.getD i default).bA).Kind,((l.getD i default).bA).N,((l.getD i default).bA).S⟩:bp)=_ from Uf (v:=(l.getD i default).bA) (by omega) aa.2 (by omega),al,
    lR (by rw [atP];omega),al,List.append_assoc])
  (λm acc ha=>by
   simp only [yW,Ij,atO,Nat.lt_irrefl,atG,atI,PS];rw [UO (by omega),al])
 unfold Ik;rw [tj (by omega) (by omega),al,T_,lR (by simp;omega),al]
 exact key n 0 _ (by omega) (by omega) (by simp;omega)
def ap8{n:Nat}(hn:2000≤n){p:cb}(h0:e5 p.Version)(ab:p.aE.length≤16)(h:∀x∈p.aE,qF x)(cL:(oI p).length≤1000000):CR n p=some (oI p):=by
 have aw:=rH h0;unfold oI d9 at cL ⊢;simp only [atP]at cL
 have key:=r4 (l:=p.aE) (E:=rW) (B:=2000000) (L:=λm acc i=>yI n p m (i:Int) acc) (fin:=λacc=>some acc)
  (λm i acc hi hb=>by
   obtain⟨Z,aa,aj,aC,aT⟩:=r5 h hi;unfold rW at hb ⊢;simp only [atP]at hb;simp only [yI,HI,hi,bI hi,atN,atO,atF,atH,aL,bv (show i≤4611686018427387904 by omega)]
   rw [xp (by omega) Z,al,uL (by omega) (by omega),al,xp (by omega) aj,al,xp (by omega) aC,al,uL (by omega) (by omega),al]
   simp (disch:=omega) only [List.length_append,gC,aL,List.append_assoc])
  (λm acc ha=>by simp only [yI,HI,atO,Nat.lt_irrefl,atG,atI,O6])
 unfold CR;rw [xp (by omega) h0,al,tj (by omega) (by omega),al,gC (by omega),aL,←List.append_assoc]
 exact key n 0 _ (by omega) (by omega) (by simp only [atP,List.drop_zero];omega)
def adh{n:Nat}(hn:2000≤n){l:jZ}(ab:l.length≤64)(h:∀x∈l,x.length≤24)(cL:(d9 gb l).length≤1000000):CN n l=some (d9 gb l):=by
 unfold d9 at cL ⊢;simp only [atP]at cL
 have key:=r4 (l:=l) (E:=gb) (B:=2000000) (L:=λm acc i=>yz n l m (i:Int) acc) (fin:=λacc=>some acc)
  (λm i acc hi hb=>by
   have Z:=r5 h hi;simp only [yz,Hx,hi,bI hi,atN,atO,atF,atH,aL,bv (show i≤4611686018427387904 by omega)]
   rw [uL (by omega) (by omega),al]
   simp (disch:=omega) only [gC,aL])
  (λm acc ha=>by simp only [yz,Hx,atO,Nat.lt_irrefl,atG,atI,O1])
 unfold CN;rw [tj (by omega) (by omega),al]
 exact key n 0 _ (by omega) (by omega) (by rw [List.drop_zero];omega)
def n0{z:Int}(h:hS z):(jv z).length≤10:=nf (by obtain⟨Z,aa⟩:=h;omega)
def adi{o:Outcome}(h:pw o):hS o.Status∧hS o.Code:=⟨⟨h.1.1,by have:=h.1.2;omega⟩,⟨h.2.1.1,by have:=h.2.1.2;omega⟩⟩
def adj{α β:Type}(E:β→atW)(f:α→β)(l:List α):iL E (l.map f)=iL (λx=>E (f x)) l:=by
 unfold iL;rw [List.map_map];rfl
section
variable {n:Nat} (hn:2000≤n)
include hn
theorem ap9(d_ ak:List Int→Int→Option atW)(l:List bM)(i j:Nat)(hj:j≤4611686018427387904)(av:pw ((((l.getD i default).bK).getD j default).Outcome))(acc:atW)
 (cL:acc.length+(iL bU ((((l.getD i default).bK).getD j default).Outcome.Out)).length≤2000000):
 wi n d_ ak l (i:Int) (j:Int) n (g' acc) 0=d_ (g' (acc++iL bU ((((l.getD i default).bK).getD j default).Outcome.Out))) ((j+1:Nat):Int):=by
 have ab:=av.2.2.1
 have key:=r4 (l:=(((l.getD i default).bK).getD j default).Outcome.Out) (E:=bU) (B:=2000000) (L:=λm acc k=>wi n d_ ak l (i:Int) (j:Int) m (g' acc) (k:Int)) (fin:=λacc=>d_ (g' acc) ((j+1:Nat):Int))
  (λm k acc hk hb=>by
   have aa:=r5 av.2.2.2 hk;have aj:=td aa;simp only [wi,If,atN,hk,bI hk,atO,atF,atH,aL,bv (show k≤4611686018427387904 by omega)]
   rw [Uf (by omega) aa.2 (by omega),al,lR (by omega),al])
  (λm acc ha=>by
   simp only [wi,If,atN,atO,Nat.lt_irrefl,atG,atI,PP,bv hj])
 have:=key n 0 acc (by omega) (by omega) (by rw [List.drop_zero];exact cL)
 rw [List.drop_zero]at this;exact this
theorem ap'(ak:List Int→Int→Option atW)(l:List bM)(i:Nat)(hi:i≤4611686018427387904)(ab:(l.getD i default).bK.length≤1000)(av:∀r∈(l.getD i default).bK,pw r.Outcome)(acc:atW)
 (cL:acc.length+(iL (λr:eS=>rX r.Outcome) (l.getD i default).bK).length≤2000000):
 wk n ak l (i:Int) n (g' acc) 0=ak (g' (acc++iL (λr:eS=>rX r.Outcome) (l.getD i default).bK)) ((i+1:Nat):Int):=by
 have key:=r4 (l:=(l.getD i default).bK) (E:=λr:eS=>rX r.Outcome) (B:=2000000) (L:=λm acc j=>wk n ak l (i:Int) m (g' acc) (j:Int)) (fin:=λacc=>ak (g' acc) ((i+1:Nat):Int))
  (λm j acc hj hb=>by
   have aa:=r5 (P:=λr:eS=>pw r.Outcome) av hj
   obtain⟨aj,aC⟩:=adi aa;have aT:=aa.2.2.1;have hK:=n0 aj;have ke:=n0 aC;have atd:=nf (u:=(((l.getD i default).bK).getD j default).Outcome.Out.length) (by omega)
   unfold rX d9 at hb ⊢;simp only [atP]at hb;simp only [wk,Ig,atN,hj,bI hj,atO,atF,atH,aL]
   rw [Bn (by omega) aj,al,Bn (by omega) aC,al,gC (by omega),aL,tj (by omega) (by omega),al,gC (by rw [atP];omega),aL,
    lR (by simp only [atP];omega),al]
   refine(ap9 hn _ ak l i j (by omega) aa _ (by simp only [atP];omega)).trans ?_
   simp only [List.append_assoc])
  (λm acc ha=>by
   simp only [wk,Ig,atN,atO,Nat.lt_irrefl,atG,atI,PO,bv hi])
 have:=key n 0 acc (by omega) (by omega) (by rw [List.drop_zero];exact cL)
 rw [List.drop_zero]at this;exact this
theorem ap_{l:List bM}(aw:sD n l=some true)(ab:l.length≤32)(h:∀s∈l,qG s)(cL:(d9 lj l).length≤1000000):Da n l=some (d9 lj l):=by
 unfold d9 at cL ⊢;simp only [atP]at cL
 have key:=r4 (l:=l) (E:=lj) (B:=2000000) (L:=λm acc i=>yV n l m (g' acc) (i:Int)) (fin:=λacc=>some acc)
  (λm i acc hi hb=>by
   have aa:=r5 h hi;obtain⟨⟨c1,c2⟩,⟨d1,d2⟩,aT,bQ,cK⟩:=aa;have c_:hS (l.getD i default).Client:=⟨by omega,by omega⟩
   have ak:hS (l.getD i default).Next:=⟨by omega,by omega⟩
   have hK:=n0 c_;have ke:=n0 ak;have hk:=FO ⟨d1,d2⟩;have ai:(l.getD i default).bK.length≤1000:=by rw [List.length_map]at bQ;omega
   have av:∀r∈(l.getD i default).bK,pw r.Outcome:=λr ai=>cK _ (List.mem_map_of_mem ai)
   unfold lj at hb ⊢;rw [adj]at hb ⊢;simp only [atP]at hb;simp only [yV,Ii,atN,hi,bI hi,atO,atF,atH,aL];rw [Bn (by omega) c_,al,Bn (by omega) ak,al,gC (by omega),aL,lR (by simp only [atP];omega),al]
   refine(ap' hn _ l i (by omega) ai av _ (by simp only [atP];omega)).trans ?_
   simp only [List.append_assoc])
  (λm acc ha=>by
   simp only [yV,Ii,atO,Nat.lt_irrefl,atG,atI,PN];rw [UO (by omega),al])
 unfold Da;rw [aw,al,atJ,atI,tj (by omega) (by omega),al,T_,lR (by simp;omega),al]
 have:=key n 0 (e' l.length) (by omega) (by omega) (by rw [List.drop_zero];omega)
 rw [List.drop_zero]at this;exact this
theorem aqa(k:atW)(v:bp)(a:Int):yG n ⟨k,[⟨a,v⟩]⟩ a=some v:=by
 obtain⟨m,rfl⟩:∃m,n=m+3:=⟨n-3,by omega⟩
 unfold yG CQ
 have e:v8 (m+3) a ⟨k,[⟨a,v⟩]⟩ (m+3) 0=some 1:=by
  have w:atY (0+1)=1:=rfl;simp only [v8,HF,HE,w];have h0:decide ((0:Int)<(([⟨a,v⟩]:List Version).length:Nat))=true:=rfl;have Z:decide ((1:Int)<(([⟨a,v⟩]:List Version).length:Nat))=false:=rfl;have aa:aJ 0 ([⟨a,v⟩]:List Version).length=true:=rfl;have aj:(([⟨a,v⟩]:List Version).getD (0:Int).toNat default).ck=a:=rfl;simp only [h0,Z,aa,aj,Int.le_refl,atF,atJ,atK,Bool.true_or,Bool.false_or,aL,atH,atI]
 rw [e,al];rfl
theorem aqb{l:List bn}{a:Int}(ab:l.length≤2000)(eQ:l.length<n)(hk:∀i,i<l.length→(l.getD i default).bA.Kind≠0)(aw:v7 n (je l a)=some true):v_ n (je l a) a=some (l,0):=by
 have hg:∀i,i<l.length→(je l a).Rows.getD i default=⟨(l.getD i default).Key,[⟨a,(l.getD i default).bA⟩]⟩:=λi hi=>by
  unfold je;simp only [List.getD_eq_getElem?_getD,List.getElem?_map,List.getElem?_eq_getElem hi,Option.map_some,Option.getD_some]
 have hlen:(je l a).Rows.length=l.length:=by unfold je;simp
 have key:∀m i acc,l.length<m+i→i≤l.length→acc.length≤i→v' n a (je l a) m (i:Int) acc=some (acc++l.drop i,0):=by
  intro m;induction m with
  |zero=>intro i acc Z aa;omega
  |succ m aH=>
   intro i acc Z aa aj;simp only [v',HH,hlen,atO];by_cases hi:i<l.length
   ·simp only [hi,bI hi,atN,atF,atH,aL];rw [hg i hi,aqa hn,al];simp only [hk i hi,atG,atK,atH,atQ,yH,bv (show i≤4611686018427387904 by omega),lg (show(acc.length+1)*48≤140737488355328 by omega),aL]
    rw [aH (i+1) _ (by omega) (by omega) (by rw [atP,atQ];omega),e8 l i default hi]
    simp
   ·obtain rfl:i=l.length:=by omega
    simp only [Nat.lt_irrefl,atG,atI,HG,gu l _ hi,List.append_nil]
 unfold v_;rw [aw,al]
 have ai:yF n (je l a) a=some 0:=by
  unfold yF je;simp only [atS,atG,atI]
 simp only [atJ,atI,ai,al,atF];exact key n 0 [] (by omega) (by omega) (by simp)
end
def aqc{n:Nat}(hn:10≤n){z:Int}(h:hS z):hY n z=some (jv z):=by
 obtain⟨Z,aa⟩:=h;have e:z=((z.toNat:Nat):Int):=by omega
 have:=uK (n:=n) (u:=z.toNat) hn (by omega)
 rw [←e]at this;exact this
def aqd{n:Nat}(b:Bool):O2 n b=some (xq b):=by cases b<;>rfl
def UP(b:Bool):(xq b).length=1:=by cases b<;>rfl
section
variable {n:Nat} (hn:2000≤n)
include hn
theorem aqe{r:Request}(h:nX r)(acc:atW)(cL:acc.length+(xq r.eN++rZ r.eN (r.br.Reads,r.br.cA)).length≤2000000)(mA:(rZ r.eN (r.br.Reads,r.br.cA)).length≤1000000):
 CP n r acc=some (acc++(xq r.eN++rZ r.eN (r.br.Reads,r.br.cA))):=by
 have aT:=h.2.2.2.2.1;rw [atP]at cL;unfold CP;rw [aqd,al,gC (by omega),aL]
 cases hd:r.eN
 ·simp only [atI,CO,rZ,atV,Bool.false_eq_true,List.append_nil]
 ·rw [hd]at aT cL mA;obtain⟨⟨aZ,a2⟩,cY,jj⟩:=aT;simp only at aZ a2 cY jj
  simp only [rZ,atU,atP]at cL mA;rw [atH,adh hn aZ a2 (by omega),al,adh hn cY jj (by omega),al]
  simp (disch:=omega) only [List.length_append,gC,aL,CO,rZ,if_true,List.append_assoc]
theorem aqf{r:Request}(aw:ot n r=some 0)(h:nX r)(cL:(jF r).length≤1000000):Hz n r=some (jF r):=by
 obtain⟨c1,c2,c3,⟨c4,c5⟩,lS,ll⟩:=id h;have hK:=n0 c1;have ke:=n0 c2;unfold jF d9 at cL ⊢;simp only [atP]at cL
 have key:=r4 (l:=r.ar) (E:=bU) (B:=900000) (L:=λm acc i=>yA n r m acc (i:Int)) (fin:=λacc=>CP n r acc)
  (λm i acc hi hb=>by
   have aa:=r5 c5 hi;have aj:=td aa;simp only [yA,Hy,hi,bI hi,atN,atO,atF,atH,aL,bv (show i≤4611686018427387904 by omega)]
   rw [Uf (by omega) aa.2 (by omega),al,gC (by omega),aL])
  (λm acc ha=>by simp only [yA,Hy,atO,Nat.lt_irrefl,atG,atI])
 unfold Hz;rw [aw,al];simp only [atF,atJ,atI];have t1:=L3 (s:=r.bc) (by omega)
 have adk:=nf (u:=r.ar.length) (by omega)
 have v1:(iL bU r.ar).length≤1000:=by
  have:∀l:List bp,(∀v∈l,qB v)→(iL bU l).length≤100*l.length:=by
   intro l;induction l with
   |nil=>intro _;simp [iL]
   |cons v l aH=>
    intro bm;have g:=bm v (by simp)
    have g2:=ach g.2 (by have:=td g;omega)
    have g3:=td g;have g4:=aH λw hw=>bm w (by simp [hw])
    rw [A7,atP,atL];omega
  have:=this r.ar c5
  omega
 rw [Bn (by omega) c1,al,Bn (by omega) c2,al,gC (by omega),aL,uL (by omega) (by omega),al,gC (by simp only [atP];omega),aL,
  tj (by omega) (by omega),al,gC (by simp only [atP];omega),aL]
 have:=key n 0 (((jv r.Client++jv r.Seq)++gb r.bc)++e' r.ar.length) (by omega) (by omega) (by rw [List.drop_zero];simp only [atP];omega)
 rw [List.drop_zero]at this;refine this.trans ?_;rw [aqe hn h _ (by simp only [atP,UP];simp only [atP,UP]at cL;omega) (by omega)]
 simp only [List.append_assoc]
theorem aqg{l:List Request}(ab:l.length≤64)(h:∀r∈l,nX r∧ot n r=some 0)(cL:(d9 jF l).length≤900000):yC n l=some (d9 jF l):=by
 unfold d9 at cL ⊢;simp only [atP]at cL
 have key:=r4 (l:=l) (E:=jF) (B:=1000000) (L:=λm acc i=>yB n l m (i:Int) acc) (fin:=λacc=>some acc)
  (λm i acc hi hb=>by
   obtain⟨Z,aa⟩:=r5 h hi;simp only [yB,HA,hi,bI hi,atN,atO,atF,atH,aL,bv (show i≤4611686018427387904 by omega)]
   rw [aa,al];simp only [atF,atJ,atI];rw [aqf hn aa Z (by omega),al,gC (by omega),aL])
  (λm acc ha=>by simp only [yB,HA,atO,Nat.lt_irrefl,atG,atI,O3])
 unfold yC;simp only [eL,show¬ 64<l.length by omega,atG,atI]
 rw [tj (by omega) (by omega),al]
 have:=key n 0 (e' l.length) (by omega) (by omega) (by rw [List.drop_zero];omega)
 rw [List.drop_zero]at this;exact this
theorem aqh{r:b7}(ao:yC n r.Queue=some (d9 jF r.Queue))(hc:hS r.dA)(acc:atW)(cL:acc.length+(d9 jF r.Queue).length≤3000000):
 Db n r (g' acc)=some (acc++(d9 jF r.Queue++jv r.dA)):=by
 have:=n0 hc
 unfold Db;rw [ao,al,lR (by omega),al,aqc (by omega) hc,al,lR (by rw [atP];omega),al,UO (by simp only [atP];omega),al]
 simp only [List.append_assoc]
theorem aqi{r:b7}(Z:Da n r.c6=some (d9 lj r.c6))(aa:CR n r.Place=some (oI r.Place))(aj:r.bi.length≤32∧∀h∈r.bi,h.Key.length≤24∧e5 h.Count)
 (ao:yC n r.Queue=some (d9 jF r.Queue)) (hc:hS r.dA) (acc:atW) (cL:acc.length+(d9 lj r.c6).length+(oI r.Place).length+(d9 nY r.bi).length+(d9 jF r.Queue).length≤2000000):
 yZ n r (g' acc)=some (acc++(d9 lj r.c6++(oI r.Place++(d9 nY r.bi++(d9 jF r.Queue++jv r.dA))))):=by
 obtain⟨aj,aC⟩:=aj;have adk:=nf (u:=r.bi.length) (by omega)
 have mA:=cL;rw [show(d9 nY r.bi).length=(e' r.bi.length).length+(iL nY r.bi).length by unfold d9;simp]at mA
 have key:=r4 (l:=r.bi) (E:=nY) (B:=2000000) (L:=λm acc i=>yY n r m (g' acc) (i:Int)) (fin:=λacc=>Db n r (g' acc))
  (λm i acc hi hb=>by
   obtain⟨g1,g2⟩:=r5 aC hi;unfold nY at hb ⊢;rw [atP]at hb;simp only [yY,In,hi,bI hi,atN,atO,atF,atH,aL,bv (show i≤4611686018427387904 by omega)]
   rw [uL (by omega) (by omega),al,lR (by omega),al,xp (by omega) g2,al,lR (by rw [atP];omega),al,List.append_assoc])
  (λm acc ha=>by simp only [yY,In,atO,Nat.lt_irrefl,atG,atI])
 unfold yZ;rw [Z,al,lR (by omega),al,aa,al,lR (by rw [atP];omega),al,tj (by omega) (by omega),al,lR (by simp only [atP];omega),al]
 have:=key n 0 (((acc++d9 lj r.c6)++oI r.Place)++e' r.bi.length) (by omega) (by omega) (by rw [List.drop_zero];simp only [atP];omega)
 rw [List.drop_zero]at this;refine this.trans ?_;rw [aqh hn ao hc _ (by simp only [atP];omega)]
 unfold d9;simp only [List.append_assoc]
end
section
variable {n:Nat} (hn:3000000≤n) (aR:n≤1000000000)
include hn aR
end
section
variable {n:Nat} (hn:3000000≤n) (aR:n≤1000000000) {s:atW} (hs:s.length≤2000)
include hn aR hs
end
section
variable {n:Nat} (hn:2000≤n)
include hn
end
section
variable {n:Nat} (hn:2000≤n)
include hn
end
def oK(r:b7)(A:List bn):Bl:=(r.Pos,A,r.cq.map gU,r.c6,r.Place,r.bi,r.Queue,r.dA)
section
variable {n:Nat} (hn:2000≤n)
include hn
end
section
variable {n:Nat} (hn:3000000≤n) (aR:n≤1000000000) {r:b7} {A:List bn} (hp:th (oK r A)) (hs:(kr (oK r A)).length≤800000) (hg:∀q∈r.cq,nZ q) (oa:r.cq.length≤1000)
include hn aR hp hs hg oa
end
section
variable {n:Nat} (hn:3000000≤n) (aR:n≤1000000000) {r:b7} {A:List bn} (hp:th (oK r A)) (hs:(kr (oK r A)).length≤800000) (hg:∀q∈r.cq,nZ q) (oa:r.cq.length≤1000)
include hn aR hp hs hg oa
theorem adl(aqj:v_ n r.aB r.Pos=some (A,0))(aqk:sD n r.c6=some true)(aql:∀q∈r.Queue,ot n q=some 0):sE n r=some (kr (oK r A)):=by
 have ate:A.length≤(kr (oK r A)).length:=ap5 hp;have l4:=hs;unfold kr oK at hs;simp only [atP]at hs;have aqm:=ap_ (n:=n) (by omega) aqk hp.oJ.1.1 hp.oJ.1.2 (by show(d9 lj r.c6).length≤_;omega)
 have aqn:=ap8 (n:=n) (by omega) hp.xD.1.1 hp.xD.1.2.1 hp.xD.1.2.2 (by show(oI r.Place).length≤_;omega)
 have aqo:=aqg (n:=n) (by omega) hp.py.1 (λq ao=>⟨(hp.py.2 q ao).1,aql q ao⟩) (by show(d9 jF r.Queue).length≤_;omega)
 have be:=ap7 (n:=n) (l:=A) (by omega) (by omega) hp.lk.1.2 (by omega)
 have Gy:e5 r.Pos:=hp.pos;have i1:(mK r.Pos).length≤10:=rH hp.pos;have adk:=nf (u:=r.cq.length) (by omega)
 have iU:d9 gb (r.cq.map gU)=e' r.cq.length++iL (λq=>gb (gU q)) r.cq:=by
  unfold d9;rw [adj,List.length_map]
 rw [iU]at hs;simp only [atP]at hs
 have j:∀B:atW,B.length≤1000000→yZ n r (g' B)=some (B++(d9 lj r.c6++(oI r.Place++(d9 nY r.bi++(d9 jF r.Queue++jv r.dA))))):=λB cL=>
  aqi (by omega) aqm aqn hp.aF aqo hp.UL B (by omega)
 have key:=r4 (l:=r.cq) (E:=λq=>gb (gU q)) (B:=1000000) (L:=λm acc i=>y0 n r m (g' acc) (i:Int)) (fin:=λacc=>yZ n r (g' acc))
  (λm i acc hi hb=>by
   have g:=r5 hg hi;have g2:=apx g;simp only [y0,Io,hi,bI hi,atN,atO,atF,atH,aL,bv (show i≤4611686018427387904 by omega)]
   rw [UI g hn,al,uL (by omega) (by omega),al,lR (by omega),al])
  (λm acc ha=>by simp only [y0,Io,atO,Nat.lt_irrefl,atG,atI])
 unfold sE;rw [aqj,al,xp (by omega) Gy,al,T_,lR (by simp;omega),al,be,al,lR (by simp;omega),al,tj (by omega) (by omega),al,lR (by simp only [atP,atM];omega),al]
 have:=key n 0 ((([]++mK r.Pos)++d9 li A)++e' r.cq.length) (by omega) (by omega) (by rw [List.drop_zero];simp only [atP,atM];omega)
 rw [List.drop_zero]at this;refine this.trans ?_;rw [j _ (by simp only [atP,atM];omega)]
 unfold kr oK;simp only
 rw [iU];simp only [List.append_assoc,List.nil_append]
end
def xF(r:Row):Bool:=(decide (r.bl.length≤12)&&decide (r.Key.length≤200))&&allI r.bl.length λk=>decide ((r.bl.getD k default).bA.S.length≤200)
def aqp{n:Nat}(hn:2000≤n)(s:aB):KA n s 12=some (decide (s.Rows.length≤12)&&allI s.Rows.length λi=>xF (s.Rows.getD i default)):=by
 unfold KA;by_cases h:s.Rows.length≤12
 ·simp only [eL,show¬ 12<s.Rows.length by omega,atG,atI,h,atF,Bool.true_and]
  refine(h4 (L:=un n s) (len:=s.Rows.length) (chk:=λi=>xF (s.Rows.getD i default)) (no:=false) (yes:=true) (m:=n) (by omega) ?_ ?_).trans (by cases allI s.Rows.length (λi=>xF (s.Rows.getD i default))<;>rfl)
  ·intro m i hi;simp only [un,Kz,hi,bI hi,atN,atO,eL,atF,atH,aL,atT,dt];unfold xF;by_cases Z:(s.Rows.getD i default).bl.length≤12
   ·by_cases aa:(s.Rows.getD i default).Key.length≤200
    ·simp only [show¬ 12<(s.Rows.getD i default).bl.length by omega,show¬ 200<(s.Rows.getD i default).Key.length by omega,Z,aa,hi,bI hi,atG,atF,Bool.or_false,Bool.false_or,atH,atI,Bool.true_and,aL]
     refine Ur (L:=Ai n (un n s m) (i:Int) s) (len:=(s.Rows.getD i default).bl.length) (chk:=λk=>decide (((s.Rows.getD i default).bl.getD k default).bA.S.length≤200)) (no:=false) (yes:=un n s m ((i+1:Nat):Int)) (m:=n) (by omega) ?_ ?_
     ·intro m2 k hk;simp only [Ai,Ky,hi,hk,bI hi,bI hk,atN,atO,eL,atF,atH,aL,bv (show k≤4611686018427387904 by omega)]
      by_cases aj:((s.Rows.getD i default).bl.getD k default).bA.S.length≤200
      ·simp only [show¬ 200<((s.Rows.getD i default).bl.getD k default).bA.S.length by omega,aj,atG,atF,atI,atU]
      ·simp only [show 200<((s.Rows.getD i default).bl.getD k default).bA.S.length by omega,aj,atF,atG,atH,atV,Bool.false_eq_true]
     ·intro m2;simp only [Ai,Ky,Sk,bI hi,atN,aL,atO,Nat.lt_irrefl,atG,atI,bv (show i≤4611686018427387904 by omega)]
    ·simp only [show 200<(s.Rows.getD i default).Key.length by omega,aa,hi,bI hi,aL,atF,atG,atT,atH,Bool.and_false,Bool.false_and,atV,Bool.false_eq_true]
   ·simp only [show 12<(s.Rows.getD i default).bl.length by omega,Z,hi,bI hi,aL,atF,atG,Bool.true_or,atH,Bool.false_and,atV,Bool.false_eq_true]
  ·intro m;simp only [un,Kz,Sj,atO,Nat.lt_irrefl,atG,atI]
 ·simp only [eL,show 12<s.Rows.length by omega,h,atF,atG,atH,Bool.false_and]
def aqq{L:Nat→Int→at0}{len:Nat}{Q:Nat→Prop}{fin:at0}
 (step:∀m i,i<len→L (m+1) (i:Int)=some false∨(Q i∧L (m+1) (i:Int)=L m ((i+1:Nat):Int))) (stop:∀m,L (m+1) (len:Int)=fin):
 ∀m i,len<m+i→i≤len→L m (i:Int)=some false∨((∀k,i≤k→k<len→Q k)∧L m (i:Int)=fin):=by
 intro m;induction m with
 |zero=>intro i Z aa;omega
 |succ m aH=>
  intro i Z aa;by_cases hi:i<len
  ·rcases step m i hi with h|⟨ao,h⟩
   ·exact Or.inl h
   ·rcases aH (i+1) (by omega) (by omega)with aj|⟨aj,aC⟩
    ·exact Or.inl (h.trans aj)
    ·refine Or.inr ⟨λk hk o0=>?_,h.trans aC⟩
     by_cases e:k=i
     ·subst e;exact ao
     ·exact aj k (by omega) o0
  ·obtain rfl:i=len:=by omega
   exact Or.inr ⟨λk hk o0=>by omega,stop m⟩
def r6{L:Nat→Int→at0}{len m:Nat}{Q:Nat→Prop}{fin:at0}(hm:len<m)
 (step:∀m i,i<len→L (m+1) (i:Int)=some false∨(Q i∧L (m+1) (i:Int)=L m ((i+1:Nat):Int))) (stop:∀m,L (m+1) (len:Int)=fin):
 L m 0=some false∨((∀k,k<len→Q k)∧L m 0=fin):=by
 rcases aqq step stop m 0 (by omega) (by omega)with h|⟨Z,aa⟩
 ·exact Or.inl h
 ·exact Or.inr ⟨λk hk=>Z k (by omega) hk,aa⟩
structure adm(f:fg):Prop where
 r:f.Reads.length≤100
 w:f.cA.length≤100
 rs:∀i,i<f.Reads.length→(f.Reads.getD i default).length≤100
 ws:∀i,i<f.cA.length→(f.cA.getD i default).length≤100
def aqr{n:Nat}(hn:2000≤n)(f:fg):wX n f 100=some false∨(adm f∧wX n f 100=some true):=by
 unfold wX;simp only [eL,dt];by_cases Z:f.Reads.length≤100
 ·by_cases aa:f.cA.length≤100
  ·simp only [show¬ 100<f.Reads.length by omega,show¬ 100<f.cA.length by omega,atG,Bool.or_false,atI]
   have hw:=r6 (L:=wW n f) (len:=f.cA.length) (m:=n) (Q:=λi=>(f.cA.getD i default).length≤100) (fin:=some true) (by omega)
    (λm i hi=>by
     simp only [wW,KB,hi,bI hi,atN,atO,eL,atF,atH,aL,bv (show i≤4611686018427387904 by omega)]
     by_cases h:(f.cA.getD i default).length≤100
     ·right;simp only [show¬ 100<(f.cA.getD i default).length by omega,atG,atI,h,true_and]
     ·left;simp only [show 100<(f.cA.getD i default).length by omega,atF,atH])
    (λm=>by simp only [wW,KB,Sl,atO,Nat.lt_irrefl,atG,atI])
   have ai:=r6 (L:=Aj n f) (len:=f.Reads.length) (m:=n) (Q:=λi=>(f.Reads.getD i default).length≤100) (fin:=wW n f n 0) (by omega)
    (λm i hi=>by
     simp only [Aj,KC,hi,bI hi,atN,atO,eL,atF,atH,aL,bv (show i≤4611686018427387904 by omega)]
     by_cases h:(f.Reads.getD i default).length≤100
     ·right;simp only [show¬ 100<(f.Reads.getD i default).length by omega,atG,atI,h,true_and]
     ·left;simp only [show 100<(f.Reads.getD i default).length by omega,atF,atH])
    (λm=>by simp only [Aj,KC,Sm,atO,Nat.lt_irrefl,atG,atI])
   rcases ai with ai|⟨iu,iR⟩
   ·exact Or.inl ai
   ·rw [iR];rcases hw with hw|⟨yj,Cp⟩
    ·exact Or.inl hw
    ·exact Or.inr ⟨⟨Z,aa,iu,yj⟩,Cp⟩
  ·left;simp only [show 100<f.cA.length by omega,atF,atT,atH]
 ·left;simp only [show 100<f.Reads.length by omega,atF,Bool.true_or,atH]
structure UQ(r:Request):Prop where
 p:r.bc.length≤300
 a:r.ar.length≤40
 vs:∀i,i<r.ar.length→(r.ar.getD i default).S.length≤300
 f:adm r.br
def aqs{n:Nat}(hn:2000≤n)(r:Request):Ep n r=some false∨(UQ r∧Ep n r=some true):=by
 unfold Ep;simp only [eL,dt];by_cases Z:r.bc.length≤300
 ·by_cases aa:r.ar.length≤40
  ·simp only [show¬ 300<r.bc.length by omega,show¬ 40<r.ar.length by omega,atG,Bool.or_false,Bool.false_or,atK,atH]
   rcases aqr hn r.br with h|⟨aj,h⟩
   ·left;rw [show wX n _ 100=some false from h];rfl
   ·rw [show wX n (⟨r.br.ee,r.br.Reads,r.br.cA⟩:fg) 100=some true from h,al]
    simp only [atJ,atI]
    rcases r6 (L:=Ak n r) (len:=r.ar.length) (m:=n) (Q:=λi=>(r.ar.getD i default).S.length≤300) (fin:=some true) (by omega)
     (λm i hi=>by
      simp only [Ak,KD,hi,bI hi,atN,atO,eL,atF,atH,aL,bv (show i≤4611686018427387904 by omega)]
      by_cases h:(r.ar.getD i default).S.length≤300
      ·right;simp only [show¬ 300<(r.ar.getD i default).S.length by omega,atG,atI,h,true_and]
      ·left;simp only [show 300<(r.ar.getD i default).S.length by omega,atF,atH])
     (λm=>by simp only [Ak,KD,Sn,atO,Nat.lt_irrefl,atG,atI])with aC|⟨aC,aT⟩
    ·exact Or.inl aC
    ·exact Or.inr ⟨⟨Z,aa,aC,aj⟩,aT⟩
  ·left;simp only [show 40<r.ar.length by omega,atF,atT,Bool.true_or,atJ,atI,al,atH]
 ·left;simp only [show 300<r.bc.length by omega,atF,Bool.true_or,atJ,atI,al,atH]
structure adn(p:cb)(h:List bi):Prop where
 pl:p.aE.length≤20
 ab:h.length≤40
 b6:∀i,i<p.aE.length→(p.aE.getD i default).ec.length≤200∧(p.aE.getD i default).gQ.length≤200
 hs:∀i,i<h.length→(h.getD i default).Key.length≤200
def aqt{n:Nat}(hn:2000≤n)(p:cb)(h:List bi):Er n p h=some false∨(adn p h∧Er n p h=some true):=by
 unfold Er
 have bm:=r6 (L:=wY n h p) (len:=min h.length 41) (m:=n) (Q:=λi=>(h.getD i default).Key.length≤200) (fin:=KE n h p) (by omega)
  (λm i hi=>by
   have l9:i<h.length:=by omega
   have tB:(i:Int)<41:=by omega
   simp only [wY,KF,l9,tB,bI l9,atN,atO,eL,atF,atH,aL,bv (show i≤4611686018427387904 by omega)]
   by_cases g:(h.getD i default).Key.length≤200
   ·right;simp only [show¬ 200<(h.getD i default).Key.length by omega,atG,atI,g,true_and]
   ·left;simp only [show 200<(h.getD i default).Key.length by omega,atF,atH])
  (λm=>by
   simp only [wY,KF];by_cases e:h.length≤40
   ·rw [Nat.min_eq_left (by omega)];simp only [atO,Nat.lt_irrefl,atG,atI]
   ·rw [Nat.min_eq_right (by omega)]
    cases decide (((41:Nat):Int)<((h.length:Nat):Int))<;>rfl)
 have hp:=r6 (L:=Al n h p) (len:=min p.aE.length 21) (m:=n) (Q:=λi=>(p.aE.getD i default).ec.length≤200∧(p.aE.getD i default).gQ.length≤200) (fin:=wY n h p n 0) (by omega)
  (λm i hi=>by
   have l9:i<p.aE.length:=by omega
   have tB:(i:Int)<21:=by omega
   simp only [Al,KG,l9,tB,bI l9,atN,atO,eL,atF,atH,dt,atT,aL,bv (show i≤4611686018427387904 by omega)]
   by_cases Z:(p.aE.getD i default).ec.length≤200
   ·by_cases aa:(p.aE.getD i default).gQ.length≤200
    ·right;simp only [show¬ 200<(p.aE.getD i default).ec.length by omega,show¬ 200<(p.aE.getD i default).gQ.length by omega,atG,Bool.or_false,atI,Z,aa,true_and,and_self]
    ·left;simp only [show 200<(p.aE.getD i default).gQ.length by omega,atF,atT,atH]
   ·left;simp only [show 200<(p.aE.getD i default).ec.length by omega,atF,Bool.true_or,atH])
  (λm=>by
   simp only [Al,KG,So];by_cases e:p.aE.length≤20
   ·rw [Nat.min_eq_left (by omega)];simp only [atO,Nat.lt_irrefl,atG,atI]
   ·rw [Nat.min_eq_right (by omega)]
    cases decide (((21:Nat):Int)<((p.aE.length:Nat):Int))<;>rfl)
 rcases hp with hp|⟨x_,ya⟩
 ·exact Or.inl hp
 ·rw [ya];rcases bm with bm|⟨aqu,Gi⟩
  ·exact Or.inl bm
  ·rw [Gi];unfold KE;by_cases a:p.aE.length≤20
   ·by_cases b:h.length≤40
    ·right
     refine⟨⟨a,b,λi hi=>x_ i (by omega),λi hi=>aqu i (by omega)⟩,?_⟩
     simp only [jD,a,b,atF,atH]
    ·left;simp only [jD,a,b,atF,atG,atH]
   ·left;simp only [jD,a,atG,atI]
structure ado(o:Outcome):Prop where
 l:o.Out.length≤20
 vs:∀i,i<o.Out.length→(o.Out.getD i default).S.length≤200
structure UR(s:bM):Prop where
 l:s.bK.length≤12
 os:∀i,i<s.bK.length→ado (s.bK.getD i default).Outcome
def aqv{n:Nat}(hn:2000≤n)(l:List bM):Es n l=some false∨((l.length≤6∧∀i,i<l.length→UR (l.getD i default))∧Es n l=some true):=by
 unfold Es
 rcases r6 (L:=qd n l) (len:=min l.length 7) (m:=n) (Q:=λi=>UR (l.getD i default)) (fin:=KH n l) (by omega)
  (λm i hi=>by
   have l9:i<l.length:=by omega
   have tB:(i:Int)<7:=by omega
   simp only [qd,KK,l9,tB,bI l9,atN,atO,eL,atF,atH,aL];by_cases Z:(l.getD i default).bK.length≤12
   ·simp only [show¬ 12<(l.getD i default).bK.length by omega,atG,atI]
    rcases r6 (L:=uo n (qd n l m) l (i:Int)) (len:=(l.getD i default).bK.length) (m:=n) (Q:=λj=>ado ((l.getD i default).bK.getD j default).Outcome) (fin:=qd n l m ((i+1:Nat):Int)) (by omega)
     (λm2 j hj=>by
      simp only [uo,KJ,l9,hj,bI l9,bI hj,atN,atO,eL,atF,atH,aL];by_cases aa:((l.getD i default).bK.getD j default).Outcome.Out.length≤20
      ·simp only [show¬ 20<((l.getD i default).bK.getD j default).Outcome.Out.length by omega,atG,atI]
       rcases r6 (L:=Am n (uo n (qd n l m) l (i:Int) m2) (qd n l m) l (i:Int) (j:Int)) (len:=((l.getD i default).bK.getD j default).Outcome.Out.length) (m:=n) (Q:=λk=>(((l.getD i default).bK.getD j default).Outcome.Out.getD k default).S.length≤200) (fin:=uo n (qd n l m) l (i:Int) m2 ((j+1:Nat):Int)) (by omega)
        (λm3 k hk=>by
         simp only [Am,KI,hk,bI hk,atN,atO,eL,atF,atH,aL,bv (show k≤4611686018427387904 by omega)]
         by_cases aj:(((l.getD i default).bK.getD j default).Outcome.Out.getD k default).S.length≤200
         ·right;simp only [show¬ 200<(((l.getD i default).bK.getD j default).Outcome.Out.getD k default).S.length by omega,atG,atI,aj,true_and]
         ·left;simp only [show 200<(((l.getD i default).bK.getD j default).Outcome.Out.getD k default).S.length by omega,atF,atH])
        (λm3=>by simp only [Am,KI,Sq,atN,atO,Nat.lt_irrefl,atG,atI,bv (show j≤4611686018427387904 by omega)])with h|⟨h,g⟩
       ·exact Or.inl h
       ·exact Or.inr ⟨⟨aa,h⟩,g⟩
      ·left;simp only [show 20<((l.getD i default).bK.getD j default).Outcome.Out.length by omega,atF,atH])
     (λm2=>by simp only [uo,KJ,Sp,bI l9,aL,atN,atO,Nat.lt_irrefl,atG,atI,bv (show i≤4611686018427387904 by omega)])with h|⟨h,g⟩
    ·exact Or.inl h
    ·exact Or.inr ⟨⟨Z,h⟩,g⟩
   ·left;simp only [show 12<(l.getD i default).bK.length by omega,atF,atH])
  (λm=>by
   simp only [qd,KK];by_cases e:l.length≤6
   ·rw [Nat.min_eq_left (by omega)];simp only [atO,Nat.lt_irrefl,atG,atI]
   ·rw [Nat.min_eq_right (by omega)]
    cases decide (((7:Nat):Int)<((l.length:Nat):Int))<;>rfl)with h|⟨h,g⟩
 ·exact Or.inl h
 ·rw [g];unfold KH;by_cases a:l.length≤6
  ·right;exact⟨⟨a,λi hi=>h i (by omega)⟩,by simp only [jD,a,atF]⟩
  ·left;simp only [jD,a,atG]
structure xG(r:b7):Prop where
 u1:r.aB.Rows.length≤12
 rs:∀i,i<r.aB.Rows.length→xF (r.aB.Rows.getD i default)=true
 pl:r.cq.length≤4
 b6:∀i,i<r.cq.length→LS (r.cq.getD i default) 60
 lf:r.c6.length≤6
 oo:∀i,i<r.c6.length→UR (r.c6.getD i default)
 Mu:adn r.Place r.bi
 adp:r.Queue.length≤6
 aqw:∀i,i<r.Queue.length→UQ (r.Queue.getD i default)
def aqx{n:Nat}(hn:2000≤n)(r:b7)(hp:∀i,i<r.cq.length→qv (r.cq.getD i default)):Et n r=some false∨(xG r∧Et n r=some true):=by
 unfold Et;rw [aqp hn,al];simp only [eL,dt];cases Z:decide (r.aB.Rows.length≤12)&&allI r.aB.Rows.length λi=>xF (r.aB.Rows.getD i default)
 ·left;simp only [atK,Bool.true_or,atJ,atI,atH,al]
 ·by_cases aa:r.cq.length≤4
  ·by_cases aj:r.Queue.length≤6
   ·simp only [show¬ 4<r.cq.length by omega,show¬ 6<r.Queue.length by omega,atG,atJ,Bool.or_false,Bool.false_or,atK,atH]
    rcases aqv hn r.c6 with aC|⟨⟨aC,aT⟩,bQ⟩
    ·left;rw [aC,al];simp only [atK,Bool.true_or,atJ,atI,atH,al]
    ·rw [bQ,al];simp only [atJ,atK,atH,Bool.false_or,Bool.or_false]
     (try rw [FSb])
     rcases aqt hn r.Place r.bi with cK|⟨cK,di⟩
     ·left;rw [cK,al];rfl
     ·rw [di,al];simp only [atJ,atI]
      rcases r6 (L:=An n r) (len:=r.cq.length) (m:=n) (Q:=λi=>LS (r.cq.getD i default) 60) (fin:=wZ n r n 0) (by omega)
       (λm i hi=>by
        obtain⟨b,e1,e2⟩:=ank (n:=n) (r.cq.getD i default) 60 (by omega) (by omega) (hp i hi)
        simp only [An,KM,hi,bI hi,atN,atO,atF,atH,aL,bv (show i≤4611686018427387904 by omega)]
        rw [show Eo n (r.cq.getD i default) 60=some b from e1,al]
        cases b
        ·left;rfl
        ·right;exact⟨e2 rfl,rfl⟩)
       (λm=>by simp only [An,KM,Ss,atO,Nat.lt_irrefl,atG,atI])with el|⟨el,g9⟩
      ·exact Or.inl el
      ·rw [g9]
       rcases r6 (L:=wZ n r) (len:=r.Queue.length) (m:=n) (Q:=λi=>UQ (r.Queue.getD i default)) (fin:=some true) (by omega)
        (λm i hi=>by
         simp only [wZ,KL,hi,bI hi,atN,atO,atF,atH,aL,bv (show i≤4611686018427387904 by omega)]
         rcases aqs hn (r.Queue.getD i default)with h|⟨h,g⟩
         ·left;rw [h];rfl
         ·right;rw [g];exact⟨h,rfl⟩)
        (λm=>by simp only [wZ,KL,Sr,atO,Nat.lt_irrefl,atG,atI])with gF|⟨gF,g10⟩
       ·exact Or.inl gF
       ·rw [Bool.and_eq_true,decide_eq_true_eq,ig]at Z;exact Or.inr ⟨⟨Z.1,Z.2,aa,el,aC,aT,cK,aj,gF⟩,g10⟩
   ·left;simp only [show 6<r.Queue.length by omega,atF,atT,Bool.true_or,atJ,atI,atH,al]
  ·left;simp only [show 4<r.cq.length by omega,atF,atT,Bool.true_or,atJ,atI,atH,al]
def n1(r:Row):bp:=(r.bl.getD (r.bl.length-1) default).bA
def fr:List Row→List bn
 |[]=>[]
 |r::l=>if(n1 r).Kind=0 then fr l else⟨r.Key,n1 r⟩::fr l
structure Bo(n:Nat)(a:Int)(r:Row):Prop where
 l:r.bl.length<n
 b:r.bl.length≤1000000000
 p:0<r.bl.length
 s:∀i,i<r.bl.length→(r.bl.getD i default).ck≤a
def aqy{n:Nat}{a:Int}{r:Row}(h:Bo n a r):CQ n r a=some ((r.bl.length:Nat):Int):=by
 have ab:=h.l;have hb:=h.b;unfold CQ
 have key:∀m i,r.bl.length<m+i→i≤r.bl.length→v8 n a r m (i:Int)=some ((r.bl.length:Nat):Int):=by
  intro m;induction m with
  |zero=>intro i Z aa;omega
  |succ m aH=>
   intro i Z aa;simp only [v8,HF,HE,atO,atN];by_cases hi:i<r.bl.length
   ·simp only [hi,bI hi,atF,atT,aL,atH,h.s i hi,bv (show i≤4611686018427387904 by omega)]
    exact aH (i+1) (by omega) (by omega)
   ·obtain rfl:i=r.bl.length:=by omega
    simp only [Nat.lt_irrefl,atG,atK,Bool.true_or,aL,atI]
 exact key n 0 (by omega) (by omega)
def aqz{n:Nat}{a:Int}{r:Row}(h:Bo n a r):yG n r a=some (n1 r):=by
 have ab:=h.l;have hb:=h.b;have hp:=h.p;unfold yG;rw [aqy h,al];have e:atY (((r.bl.length:Nat):Int)-1)=((r.bl.length-1:Nat):Int):=by(try unfold atY);rw [IntKind.wrap_i64];omega
 simp only [show¬ ((r.bl.length:Nat):Int)=0 by omega,atG,atI,e,bI (show r.bl.length-1<r.bl.length by omega),aL,atN]
 rfl
def aqA{n:Nat}{a:Int}{r:Row}(h:Bo n a r):Kt n r a=some (n1 r):=by
 have ab:=h.l;have hb:=h.b;have hp:=h.p;unfold Kt
 have key:∀m i K N S,r.bl.length<m+i→i≤r.bl.length→Ek n a r m K N S (i:Int)=some (if i=r.bl.length then⟨K,N,S⟩else n1 r):=by
  intro m;induction m with
  |zero=>intro i K N S Z aa;omega
  |succ m aH=>
   intro i K N S Z aa;simp only [Ek,Sa,R_,Ks,atO,atN];by_cases hi:i<r.bl.length
   ·simp only [hi,bI hi,atF,aL,atH,h.s i hi,bv (show i≤4611686018427387904 by omega)]
    rw [aH (i+1) _ _ _ (by omega) (by omega),if_neg (show¬ i=r.bl.length by omega)]
    by_cases e:i+1=r.bl.length
    ·rw [if_pos e];unfold n1;rw [←e,Nat.add_sub_cancel]
    ·rw [if_neg e]
   ·obtain rfl:i=r.bl.length:=by omega
    simp only [Nat.lt_irrefl,atG,atI,atU]
 have:=key n 0 0 0 [] (by omega) (by omega)
 rw [if_neg (by omega)]at this
 exact this
section
variable {n:Nat} {s:aB} {a:Int} (ab:s.Rows.length≤1000) (hn:2000≤n) (h:∀i,i<s.Rows.length→Bo n a (s.Rows.getD i default)) (aW:s.cl≤a) (ha:a≤s.b9)
include ab hn h aW ha
theorem aqB(aw:v7 n s=some true):v_ n s a=some (fr s.Rows,0):=by
 have key:∀m i acc,s.Rows.length<m+i→i≤s.Rows.length→acc.length≤i→v' n a s m (i:Int) acc=some (acc++fr (s.Rows.drop i),0):=by
  intro m;induction m with
  |zero=>intro i acc Z aa;omega
  |succ m aH=>
   intro i acc Z aa aj;simp only [v',HH,atO];by_cases hi:i<s.Rows.length
   ·simp only [hi,bI hi,atN,atF,atH,aL];rw [aqz (h i hi),al,e8 s.Rows i default hi,fr];by_cases k:(n1 (s.Rows.getD i default)).Kind=0
    ·simp only [k,atF,atJ,atI,yH,bv (show i≤4611686018427387904 by omega),atU]
     exact aH (i+1) _ (by omega) (by omega) (by omega)
    ·simp only [k,atG,atK,atH,atQ,yH,bv (show i≤4611686018427387904 by omega),lg (show(acc.length+1)*48≤140737488355328 by omega),aL,atV]
     rw [aH (i+1) _ (by omega) (by omega) (by rw [atP,atQ];omega)]
     simp
   ·obtain rfl:i=s.Rows.length:=by omega
    simp only [Nat.lt_irrefl,atG,atI,HG,gu s.Rows _ hi,fr,List.append_nil]
 unfold v_;rw [aw,al]
 have ai:yF n s a=some 0:=by
  unfold yF;simp only [show¬ a<s.cl by omega,show¬ s.b9<a by omega,atG,atI]
 simp only [atJ,atI,ai,al,atF];exact key n 0 [] (by omega) (by omega) (by simp)
theorem aqC(aw:zR n s=some true):Ku n s a=some (fr s.Rows,0):=by
 have key:∀m i acc,s.Rows.length<m+i→i≤s.Rows.length→acc.length≤i→Af n a s m acc (i:Int)=some (acc++fr (s.Rows.drop i)):=by
  intro m;induction m with
  |zero=>intro i acc Z aa;omega
  |succ m aH=>
   intro i acc Z aa aj;simp only [Af,Sc,atO];by_cases hi:i<s.Rows.length
   ·simp only [hi,bI hi,atN,atF,atH,aL];rw [aqA (h i hi),al,e8 s.Rows i default hi,fr];by_cases k:(n1 (s.Rows.getD i default)).Kind=0
    ·simp only [k,atF,atJ,atI,El,bv (show i≤4611686018427387904 by omega),atU]
     exact aH (i+1) _ (by omega) (by omega) (by omega)
    ·simp only [k,atG,atK,atH,atQ,El,bv (show i≤4611686018427387904 by omega),lg (show(acc.length+1)*48≤140737488355328 by omega),aL,atV]
     rw [aH (i+1) _ (by omega) (by omega) (by rw [atP,atQ];omega)]
     simp
   ·obtain rfl:i=s.Rows.length:=by omega
    simp only [Nat.lt_irrefl,atG,atI,Sb,gu s.Rows _ hi,fr,List.append_nil]
 unfold Ku Sd;rw [aw,al];simp only [show¬ a<s.cl by omega,show¬ s.b9<a by omega,atG,atI,atJ]
 rw [show Af n a s n [] 0=_ from key n 0 [] (by omega) (by omega) (by simp),al]
 rfl
end
def adq{n:Nat}{s:aB}(hs:lh s=true)(aw:∀i,i<s.Rows.length→(s.Rows.getD i default).bl.length<n∧(s.Rows.getD i default).bl.length≤1000000000)(i:Nat)(hi:i<s.Rows.length):Bo n s.b9 (s.Rows.getD i default):=by
 unfold lh at hs;rw [Bool.and_eq_true,ig]at hs;have Z:=hs.2 i hi;rw [Bool.and_eq_true]at Z;have aa:=Z.2;unfold pu at aa;rw [Bool.and_eq_true,ig]at aa;obtain⟨aj,aC⟩:=aa;refine⟨(aw i hi).1,(aw i hi).2,?_,λk hk=>?_⟩
 ·by_cases e:(s.Rows.getD i default).bl.length=0
  ·rw [e]at aj;simp at aj
  ·omega
 ·have aT:=aC k hk;unfold tc at aT;simp only [Bool.and_eq_true,Bool.not_eq_true',decide_eq_false_iff_not]at aT;have:=aT.1.1.2
  omega
def Bp:List atW→Prop
 |[]=>True
 |k::l=>(∀j∈l,Op.bytesLess k j=true)∧Bp l
def adr:∀l:List atW,(∀i,i+1<l.length→Op.bytesLess (l.getD i []) (l.getD (i+1) [])=true)→Bp l
 |[],_=>trivial
 |k::l,h=>by
  have aH:=adr l λi hi=>by have:=h (i+1) (by simpa using hi);simpa using this
  refine⟨λj hj=>?_,aH⟩
  cases l with
  |nil=>simp at hj
  |cons ak l=>
   have h0:Op.bytesLess k ak=true:=by simpa using h 0 (by simp)
   rcases List.mem_cons.1 hj with rfl|hj
   ·exact h0
   ·exact acy _ _ _ h0 (aH.1 j hj)
def ads:∀(l:List atW) (i:Nat),Bp l→i+1<l.length→Op.bytesLess (l.getD i []) (l.getD (i+1) [])=true
 |[],i,_,h=>by simp at h
 |k::l,0,⟨Z,_⟩,h=>by
  cases l with
  |nil=>simp at h
  |cons ak l=>simpa using Z ak (by simp)
 |k::l,i+1,⟨_,aa⟩,h=>by
  have:=ads l i aa (by simpa using h)
  simpa using this
def US:∀l:List Row,(∀p∈fr l,p.Key∈l.map (·.Key))
 |[],p,h=>by simp [fr]at h
 |r::l,p,h=>by
  unfold fr at h;by_cases k:(n1 r).Kind=0
  ·rw [if_pos k]at h;have:=US l p h
   simp only [List.map_cons,List.mem_cons];exact Or.inr this
  ·rw [if_neg k]at h;rcases List.mem_cons.1 h with rfl|h
   ·simp
   ·have:=US l p h
    simp only [List.map_cons,List.mem_cons];exact Or.inr this
def adt:∀l:List Row,Bp (l.map (·.Key))→Bp ((fr l).map (·.Key))
 |[],_=>trivial
 |r::l,h=>by
  obtain⟨Z,aa⟩:=h;have aH:=adt l aa;unfold fr;by_cases k:(n1 r).Kind=0
  ·rw [if_pos k];exact aH
  ·rw [if_neg k];refine⟨λj hj=>?_,aH⟩
   obtain⟨p,hp,rfl⟩:=List.mem_map.1 hj;exact Z _ (US l p hp)
def FV:∀(l:List Row) (p:bn),p∈fr l→∃r∈l,p=⟨r.Key,n1 r⟩∧(n1 r).Kind≠0
 |[],p,h=>by simp [fr]at h
 |r::l,p,h=>by
  unfold fr at h;by_cases k:(n1 r).Kind=0
  ·rw [if_pos k]at h;obtain⟨x,hx,e⟩:=FV l p h;exact⟨x,by simp [hx],e⟩
  ·rw [if_neg k]at h;rcases List.mem_cons.1 h with rfl|h
   ·exact⟨r,by simp,rfl,k⟩
   ·obtain⟨x,hx,e⟩:=FV l p h;exact⟨x,by simp [hx],e⟩
def adu{s:aB}(hs:lh s=true)(hb:∀i,i<s.Rows.length→(s.Rows.getD i default).bl.length≤1000000000)(i:Nat)(hi:i<s.Rows.length):ju (s.Rows.getD i default).Key=true∧jb (n1 (s.Rows.getD i default))=true:=by
 have h0:=adq (n:=1000000001) hs (λi hi=>⟨by have:=hb i hi;omega,hb i hi⟩) i hi
 unfold lh at hs;rw [Bool.and_eq_true,ig]at hs;have Z:=hs.2 i hi;simp only [Bool.and_eq_true]at Z;refine⟨Z.1.1,?_⟩
 have aa:=Z.2;unfold pu at aa;rw [Bool.and_eq_true,ig]at aa;have hp:=h0.p;have aT:=aa.2 ((s.Rows.getD i default).bl.length-1) (by omega)
 unfold tc at aT;simp only [Bool.and_eq_true]at aT;exact aT.1.2
def UT{α:Type}[Inhabited α]{l:List α}{x:α}(h:x∈l):∃i,i<l.length∧l.getD i default=x:=by
 obtain⟨i,hi,e⟩:=List.mem_iff_getElem.1 h;exact⟨i,hi,by rw [List.getD_eq_getElem?_getD,List.getElem?_eq_getElem hi];exact e⟩
def Mv{α:Type}[Inhabited α](l:List α)(f:α→atW)(i:Nat)(hi:i<l.length):(l.map f).getD i []=f (l.getD i default):=by
 simp only [List.getD_eq_getElem?_getD,List.getElem?_map,List.getElem?_eq_getElem hi,Option.map_some,Option.getD_some]
def u2:∀l:List Row,(fr l).length≤l.length
 |[]=>Nat.le_refl _
 |r::l=>by
  have:=u2 l
  unfold fr;split
  ·simp only [atL];omega
  ·simp only [atL];omega
def aqD{s:aB}(hs:lh s=true)(ab:s.Rows.length≤1000000)(hb:∀i,i<s.Rows.length→(s.Rows.getD i default).bl.length≤1000000000):mb (fr s.Rows)=true:=by
 have hlen:=u2 s.Rows
 have aqE:Bp (s.Rows.map (·.Key)):=by
  refine adr _ λi hi=>?_
  rw [List.length_map]at hi;have h0:=hs;unfold lh at h0;rw [Bool.and_eq_true,ig]at h0;have Z:=h0.2 (i+1) hi;simp only [Bool.and_eq_true]at Z;have aa:=Z.1.2;rw [Uo i (by omega),show decide (0<((i+1:Nat):Int))=true from decide_eq_true (by omega),atJ,Bool.false_or]at aa
  rw [Mv s.Rows (·.Key) i (by omega),Mv s.Rows (·.Key) (i+1) hi]
  exact aa
 have aqF:=adt _ aqE
 have UU:∀i,i<(fr s.Rows).length→ju ((fr s.Rows).getD i default).Key=true∧jb ((fr s.Rows).getD i default).bA=true∧((fr s.Rows).getD i default).bA.Kind≠0:=λi hi=>by
  have hm:(fr s.Rows).getD i default∈fr s.Rows:=by
   rw [List.getD_eq_getElem?_getD,List.getElem?_eq_getElem hi];exact List.getElem_mem hi
  obtain⟨r,ai,e,hk⟩:=FV _ _ hm;obtain⟨j,hj,rfl⟩:=UT ai;obtain⟨a,b⟩:=adu hs hb j hj;rw [e];exact⟨a,b,hk⟩
 unfold mb xt;rw [Bool.and_eq_true,ig,ig];refine⟨λi hi=>?_,λi hi=>by rw [decide_eq_false (UU i hi).2.2];rfl⟩
 rw [(UU i hi).1,(UU i hi).2.1];cases i with
 |zero=>rfl
 |succ i=>
  have:=ads _ i aqF (by rw [List.length_map];exact hi)
  rw [Mv (fr s.Rows) (λx=>x.Key) i (by omega),Mv (fr s.Rows) (λx=>x.Key) (i+1) hi]at this
  rw [Uo i (by omega),this]
  simp
def adv{α:Type}:∀(l:List α),l.length=4→∃a b c d,l=[a,b,c,d]
 |[a,b,c,d],_=>⟨a,b,c,d,rfl⟩
 |[],h=>by simp at h
 |[_],h=>by simp at h
 |[_,_],h=>by simp at h
 |[_,_,_],h=>by simp at h
 |_::_::_::_::_::_,h=>by simp at h
section
variable {H:Type} {enc:TypeId×Value→H} {W:World}
theorem UV:Tryz.prog.cellsOf 165=4:=by kernel_rfl
theorem pz:Tryz.prog.cellsOf 3=1:=by kernel_rfl
theorem qH:Tryz.prog.cellsOf 2=1:=by kernel_rfl
theorem pA:Tryz.prog.cellsOf 9=1:=by kernel_rfl
theorem aqG:Tryz.prog.cellsOf 163=1:=by kernel_rfl
theorem adw:∀l:List Expr,(∀i,i<l.length→mH (l.getD i default))→AZ l
 |[],h=>trivial
 |x::l,h=>⟨h 0 (by simp),adw l λi hi=>by have:=h (i+1) (by simpa using hi);simpa using this⟩
theorem adx:∀(fuel:Nat) (cs:List Value) (x:DataW H×List MemPlace),DataW.trod enc Tryz.prog W 0 (λ_=>true) true fuel 165 cs=some x→∃e:Expr,mH e∧gg W cs (b2 e).cells:=by
 intro fuel;induction fuel using Nat.strongRecOn with
 |_ fuel aH=>
  intro cs x h;obtain⟨xs,n,hn,_,ab,hf,aW⟩:=DataW.trod_struct Tryz.underlying165 h;rw [UV]at ab;obtain⟨c0,c1,c2,c3,rfl⟩:=adv cs ab;obtain⟨fG,dz,ew,i',rfl⟩:=adv xs hf;have h0:DataW.trod enc Tryz.prog W 0 (λ_=>true) true n 3 (List.take (Tryz.prog.cellsOf 3) [c0,c1,c2,c3])=some fG:=aW 0 _ rfl
  have Z:DataW.trod enc Tryz.prog W 0 (λ_=>true) true n 2 (List.take (Tryz.prog.cellsOf 2) [c1,c2,c3])=some dz:=aW 1 _ rfl
  have aa:DataW.trod enc Tryz.prog W 0 (λ_=>true) true n 9 (List.take (Tryz.prog.cellsOf 9) [c2,c3])=some ew:=aW 2 _ rfl
  have aj:DataW.trod enc Tryz.prog W 0 (λ_=>true) true n 163 (List.take (Tryz.prog.cellsOf 163) [c3])=some i':=aW 3 _ rfl
  rw [pz]at h0;rw [qH]at Z;rw [pA]at aa;rw [aqG]at aj;obtain⟨Op,_,dG⟩:=iX (k:=.i64) Tryz.underlying3 h0;obtain⟨N,aR,r1⟩:=iX (k:=.i64) Tryz.underlying2 Z;obtain⟨S,FW,r2⟩:=o3 Tryz.underlying9 aa;obtain⟨A,aN,cE,r3⟩:=l5 (encA:=b2) (ok:=mH) Tryz.underlying163 UV (by omega) aj (λm cs' gd hm hx=>aH m (by omega) cs' gd hx)
  refine⟨⟨Op,N,S,A⟩,⟨aR.2,FW,aN,adw A cE⟩,?_⟩
  have:=((dG.app r1).app r2).app r3
  exact this.Hb (CB ⟨Op,N,S,A⟩)
end
def aqH{α:Type}(l:List α)(h:l.length=13):∃a b c d e f g i j k m n o,l=[a,b,c,d,e,f,g,i,j,k,m,n,o]:=by
 match l,h with
 |[a,b,c,d,e,f,g,i,j,k,m,n,o],_=>exact⟨a,b,c,d,e,f,g,i,j,k,m,n,o,rfl⟩
def aqI{α:Type}(l:List α)(h:l.length=7):∃a b c d e f g,l=[a,b,c,d,e,f,g]:=by
 match l,h with
 |[a,b,c,d,e,f,g],_=>exact⟨a,b,c,d,e,f,g,rfl⟩
def ady{α:Type}(l:List α)(h:l.length=3):∃a b c,l=[a,b,c]:=by
 match l,h with
 |[a,b,c],_=>exact⟨a,b,c,rfl⟩
def adz{α:Type}(l:List α)(h:l.length=2):∃a b,l=[a,b]:=by
 match l,h with
 |[a,b],_=>exact⟨a,b,rfl⟩
section
variable {H:Type} {enc:TypeId×Value→H} {W:World}
theorem Mw:Tryz.prog.cellsOf 167=13:=by kernel_rfl
theorem adA:Tryz.prog.cellsOf 109=2:=by kernel_rfl
theorem adB:Tryz.prog.cellsOf 52=3:=by kernel_rfl
theorem adC:Tryz.prog.cellsOf 50=1:=by kernel_rfl
theorem aqJ:Tryz.prog.cellsOf 49=1:=by kernel_rfl
theorem Mx:∀l:List Stmt,(∀i,i<l.length→rA (l.getD i default))→rB l
 |[],h=>trivial
 |x::l,h=>⟨h 0 (by simp),Mx l λi hi=>by have:=h (i+1) (by simpa using hi);simpa using this⟩
theorem aqK:∀(fuel:Nat) (cs:List Value) (x:DataW H×List MemPlace),DataW.trod enc Tryz.prog W 0 (λ_=>true) true fuel 167 cs=some x→∃s:Stmt,rA s∧gg W cs (bT s).cells:=by
 intro fuel;induction fuel using Nat.strongRecOn with
 |_ fuel aH=>
  intro cs x h;obtain⟨xs,n,hn,_,ab,hf,aW⟩:=DataW.trod_struct Tryz.underlying167 h;rw [Mw]at ab;obtain⟨c0,c1,c2,c3,c4,c5,lS,ll,pB,c9,mC,Bq,c12,rfl⟩:=aqH cs ab;obtain⟨fG,dz,ew,i',fp,kI,p9,rfl⟩:=aqI xs hf;have h0:DataW.trod enc Tryz.prog W 0 (λ_=>true) true n 3 (List.take (Tryz.prog.cellsOf 3) [c0,c1,c2,c3,c4,c5,lS,ll,pB,c9,mC,Bq,c12])=some fG:=aW 0 _ rfl
  have Z:DataW.trod enc Tryz.prog W 0 (λ_=>true) true n 9 (List.take (Tryz.prog.cellsOf 9) [c1,c2,c3,c4,c5,lS,ll,pB,c9,mC,Bq,c12])=some dz:=aW 1 _ rfl
  have aa:DataW.trod enc Tryz.prog W 0 (λ_=>true) true n 3 (List.take (Tryz.prog.cellsOf 3) [c2,c3,c4,c5,lS,ll,pB,c9,mC,Bq,c12])=some ew:=aW 2 _ rfl
  have aj:DataW.trod enc Tryz.prog W 0 (λ_=>true) true n 165 (List.take (Tryz.prog.cellsOf 165) [c3,c4,c5,lS,ll,pB,c9,mC,Bq,c12])=some i':=aW 3 _ rfl
  have aC:DataW.trod enc Tryz.prog W 0 (λ_=>true) true n 165 (List.take (Tryz.prog.cellsOf 165) [ll,pB,c9,mC,Bq,c12])=some fp:=aW 4 _ rfl
  have aT:DataW.trod enc Tryz.prog W 0 (λ_=>true) true n 50 (List.take (Tryz.prog.cellsOf 50) [Bq,c12])=some kI:=aW 5 _ rfl
  have bQ:DataW.trod enc Tryz.prog W 0 (λ_=>true) true n 50 (List.take (Tryz.prog.cellsOf 50) [c12])=some p9:=aW 6 _ rfl
  rw [pz]at h0 aa;rw [pA]at Z;rw [UV]at aj aC;rw [adC]at aT bQ;obtain⟨Op,_,dG⟩:=iX (k:=.i64) Tryz.underlying3 h0;obtain⟨Nm,aR,r1⟩:=o3 Tryz.underlying9 Z;obtain⟨adD,cT,r2⟩:=iX (k:=.i64) Tryz.underlying3 aa;obtain⟨A,aN,r3⟩:=adx n _ _ aj;obtain⟨B,cL,bj⟩:=adx n _ _ aC;obtain⟨an,atf,UW,bZ⟩:=l5 (encA:=bT) (ok:=rA) Tryz.underlying50 Mw (by omega) aT (λm cs' gd hm hx=>aH m (by omega) cs' gd hx)
  obtain⟨UX,atg,UY,bO⟩:=l5 (encA:=bT) (ok:=rA) Tryz.underlying50 Mw (by omega) bQ (λm cs' gd hm hx=>aH m (by omega) cs' gd hx)
  refine⟨⟨Op,Nm,adD,A,B,an,UX⟩,⟨cT,aR,aN,cL,Mx an UW,Mx UX UY⟩,?_⟩
  have:=(((((dG.app r1).app r2).app (r3.Hb (OL A))).app (bj.Hb (OL B))).app bZ).app bO
  exact this.Hb (XV ⟨Op,Nm,adD,A,B,an,UX⟩)
theorem aqL(fuel:Nat)(cs:List Value)(x:DataW H×List MemPlace)(h:DataW.trod enc Tryz.prog W 0 (λ_=>true) true fuel 109 cs=some x):∃p:Param,p.Name.length≤9223372036854775807∧gg W cs (ea p).cells:=by
 obtain⟨xs,n,hn,_,ab,hf,aW⟩:=DataW.trod_struct Tryz.underlying109 h;rw [adA]at ab;obtain⟨c0,c1,rfl⟩:=adz cs ab;obtain⟨fG,dz,rfl⟩:=adz xs hf;have h0:DataW.trod enc Tryz.prog W 0 (λ_=>true) true n 9 (List.take (Tryz.prog.cellsOf 9) [c0,c1])=some fG:=aW 0 _ rfl
 have Z:DataW.trod enc Tryz.prog W 0 (λ_=>true) true n 3 (List.take (Tryz.prog.cellsOf 3) [c1])=some dz:=aW 1 _ rfl
 rw [pA]at h0;rw [pz]at Z;obtain⟨Nm,aR,dG⟩:=o3 Tryz.underlying9 h0;obtain⟨aqM,_,r1⟩:=iX (k:=.i64) Tryz.underlying3 Z;exact⟨⟨Nm,aqM⟩,aR,dG.app r1⟩
theorem aqN(fuel:Nat)(cs:List Value)(x:DataW H×List MemPlace)(h:DataW.trod enc Tryz.prog W 0 (λ_=>true) true fuel 52 cs=some x):∃p:bc,qv p∧gg W cs (eb p).cells:=by
 obtain⟨xs,n,hn,_,ab,hf,aW⟩:=DataW.trod_struct Tryz.underlying52 h;rw [adB]at ab;obtain⟨c0,c1,c2,rfl⟩:=ady cs ab;obtain⟨fG,dz,ew,rfl⟩:=ady xs hf;have h0:DataW.trod enc Tryz.prog W 0 (λ_=>true) true n 9 (List.take (Tryz.prog.cellsOf 9) [c0,c1,c2])=some fG:=aW 0 _ rfl
 have Z:DataW.trod enc Tryz.prog W 0 (λ_=>true) true n 49 (List.take (Tryz.prog.cellsOf 49) [c1,c2])=some dz:=aW 1 _ rfl
 have aa:DataW.trod enc Tryz.prog W 0 (λ_=>true) true n 50 (List.take (Tryz.prog.cellsOf 50) [c2])=some ew:=aW 2 _ rfl
 rw [pA]at h0;rw [aqJ]at Z;rw [adC]at aa;obtain⟨Nm,aR,dG⟩:=o3 Tryz.underlying9 h0;obtain⟨aqO,kA,UW,r1⟩:=l5 (encA:=ea) (ok:=λp:Param=>p.Name.length≤9223372036854775807) Tryz.underlying49 adA (by omega) Z (λm cs' gd hm hx=>aqL m cs' gd hx)
 obtain⟨an,cL,UY,r2⟩:=l5 (encA:=bT) (ok:=rA) Tryz.underlying50 Mw (by omega) aa (λm cs' gd hm hx=>aqK m cs' gd hx)
 exact⟨⟨Nm,aqO,an⟩,⟨aR,kA,UW,Mx an UY⟩,(dG.app r1).app r2⟩
end
def xH{α:Type}(l:List α)(h:l.length=2):∃a0 aZ,l=[a0,aZ]:=by
 match l,h with
 |[a0,aZ],_=>exact⟨a0,aZ,rfl⟩
def qI{α:Type}(l:List α)(h:l.length=3):∃a0 aZ a2,l=[a0,aZ,a2]:=by
 match l,h with
 |[a0,aZ,a2],_=>exact⟨a0,aZ,a2,rfl⟩
def aqP{α:Type}(l:List α)(h:l.length=4):∃a0 aZ a2 a3,l=[a0,aZ,a2,a3]:=by
 match l,h with
 |[a0,aZ,a2,a3],_=>exact⟨a0,aZ,a2,a3,rfl⟩
def UZ{α:Type}(l:List α)(h:l.length=5):∃a0 aZ a2 a3 a4,l=[a0,aZ,a2,a3,a4]:=by
 match l,h with
 |[a0,aZ,a2,a3,a4],_=>exact⟨a0,aZ,a2,a3,a4,rfl⟩
def aqQ{α:Type}(l:List α)(h:l.length=6):∃a0 aZ a2 a3 a4 a5,l=[a0,aZ,a2,a3,a4,a5]:=by
 match l,h with
 |[a0,aZ,a2,a3,a4,a5],_=>exact⟨a0,aZ,a2,a3,a4,a5,rfl⟩
def adE{α:Type}(l:List α)(h:l.length=8):∃a0 aZ a2 a3 a4 a5 qu xI,l=[a0,aZ,a2,a3,a4,a5,qu,xI]:=by
 match l,h with
 |[a0,aZ,a2,a3,a4,a5,qu,xI],_=>exact⟨a0,aZ,a2,a3,a4,a5,qu,xI,rfl⟩
def aqR{α:Type}(l:List α)(h:l.length=11):∃a0 aZ a2 a3 a4 a5 qu xI U0 a9 U1,l=[a0,aZ,a2,a3,a4,a5,qu,xI,U0,a9,U1]:=by
 match l,h with
 |[a0,aZ,a2,a3,a4,a5,qu,xI,U0,a9,U1],_=>exact⟨a0,aZ,a2,a3,a4,a5,qu,xI,U0,a9,U1,rfl⟩
section
variable {H:Type} {enc:TypeId×Value→H} {W:World}
theorem adF:Tryz.prog.cellsOf 4=1:=by kernel_rfl
theorem aqS:Tryz.prog.cellsOf 22=1:=by kernel_rfl
theorem adG:Tryz.prog.cellsOf 24=3:=by kernel_rfl
theorem aqT:Tryz.prog.cellsOf 25=1:=by kernel_rfl
theorem aqU:Tryz.prog.cellsOf 26=1:=by kernel_rfl
theorem aqV:Tryz.prog.cellsOf 27=1:=by kernel_rfl
theorem adH:Tryz.prog.cellsOf 29=2:=by kernel_rfl
theorem aqW:Tryz.prog.cellsOf 30=1:=by kernel_rfl
theorem aqX:Tryz.prog.cellsOf 31=1:=by kernel_rfl
theorem aqY:Tryz.prog.cellsOf 32=1:=by kernel_rfl
theorem aqZ:Tryz.prog.cellsOf 34=11:=by kernel_rfl
theorem adI:Tryz.prog.cellsOf 54=1:=by kernel_rfl
theorem adJ:Tryz.prog.cellsOf 55=1:=by kernel_rfl
theorem adK:Tryz.prog.cellsOf 57=3:=by kernel_rfl
theorem adL:Tryz.prog.cellsOf 59=8:=by kernel_rfl
theorem adM:Tryz.prog.cellsOf 61=5:=by kernel_rfl
theorem My:Tryz.prog.cellsOf 63=3:=by kernel_rfl
theorem adN:Tryz.prog.cellsOf 65=4:=by kernel_rfl
theorem aq0:Tryz.prog.cellsOf 66=1:=by kernel_rfl
theorem adO:Tryz.prog.cellsOf 68=2:=by kernel_rfl
theorem aq1:Tryz.prog.cellsOf 99=1:=by kernel_rfl
theorem adP:Tryz.prog.cellsOf 101=3:=by kernel_rfl
theorem adQ:Tryz.prog.cellsOf 103=3:=by kernel_rfl
theorem adR:Tryz.prog.cellsOf 105=5:=by kernel_rfl
theorem adS:Tryz.prog.cellsOf 107=2:=by kernel_rfl
structure xJ(x:bp):Prop where
 ath:e5 x.Kind
 adT:e5 x.N
 ati:x.S.length≤9223372036854775807
theorem U2(fuel:Nat)(cs:List Value)(x:DataW H×List MemPlace)(h:DataW.trod enc Tryz.prog W 0 (λ_=>true) true fuel 63 cs=some x):∃p:bp,xJ p∧gg W cs (dY p).cells:=by
 obtain⟨xs,n,hn,_,ab,hf,aW⟩:=DataW.trod_struct Tryz.underlying63 h;rw [My]at ab;obtain⟨c0,c1,c2,rfl⟩:=qI cs ab;obtain⟨fG,dz,ew,rfl⟩:=qI xs hf;have h0:DataW.trod enc Tryz.prog W 0 (λ_=>true) true n 3 (List.take (Tryz.prog.cellsOf 3) [c0,c1,c2])=some fG:=aW 0 _ rfl
 rw [pz]at h0;obtain⟨v0,fl,dG⟩:=iX (k:=.i64) Tryz.underlying3 h0;have Z:DataW.trod enc Tryz.prog W 0 (λ_=>true) true n 2 (List.take (Tryz.prog.cellsOf 2) [c1,c2])=some dz:=aW 1 _ rfl
 rw [qH]at Z;obtain⟨v1,c_,r1⟩:=iX (k:=.i64) Tryz.underlying2 Z;have aa:DataW.trod enc Tryz.prog W 0 (λ_=>true) true n 9 (List.take (Tryz.prog.cellsOf 9) [c2])=some ew:=aW 2 _ rfl
 rw [pA]at aa;obtain⟨v2,ak,r2⟩:=o3 Tryz.underlying9 aa;exact⟨⟨v0,v1,v2⟩,⟨⟨fl.1,fl.2⟩,⟨c_.1,c_.2⟩,ak⟩,((dG.app r1).app r2)⟩
structure U3(x:Version):Prop where
 atj:e5 x.ck
 aq2:xJ x.bA
theorem aq3(fuel:Nat)(cs:List Value)(x:DataW H×List MemPlace)(h:DataW.trod enc Tryz.prog W 0 (λ_=>true) true fuel 65 cs=some x):∃p:Version,U3 p∧gg W cs (hW p).cells:=by
 obtain⟨xs,n,hn,_,ab,hf,aW⟩:=DataW.trod_struct Tryz.underlying65 h;rw [adN]at ab;obtain⟨c0,c1,c2,c3,rfl⟩:=aqP cs ab;obtain⟨fG,dz,rfl⟩:=xH xs hf;have h0:DataW.trod enc Tryz.prog W 0 (λ_=>true) true n 2 (List.take (Tryz.prog.cellsOf 2) [c0,c1,c2,c3])=some fG:=aW 0 _ rfl
 rw [qH]at h0;obtain⟨v0,fl,dG⟩:=iX (k:=.i64) Tryz.underlying2 h0;have Z:DataW.trod enc Tryz.prog W 0 (λ_=>true) true n 63 (List.take (Tryz.prog.cellsOf 63) [c1,c2,c3])=some dz:=aW 1 _ rfl
 rw [My]at Z;obtain⟨v1,c_,r1⟩:=U2 n _ _ Z;exact⟨⟨v0,v1⟩,⟨⟨fl.1,fl.2⟩,c_⟩,(dG.app r1)⟩
structure U4(x:Row):Prop where
 aq4:x.Key.length≤9223372036854775807
 aq5:x.bl.length≤9223372036854775807∧∀i,i<x.bl.length→U3 (x.bl.getD i default)
theorem aq6(fuel:Nat)(cs:List Value)(x:DataW H×List MemPlace)(h:DataW.trod enc Tryz.prog W 0 (λ_=>true) true fuel 68 cs=some x):∃p:Row,U4 p∧gg W cs (cH p).cells:=by
 obtain⟨xs,n,hn,_,ab,hf,aW⟩:=DataW.trod_struct Tryz.underlying68 h;rw [adO]at ab;obtain⟨c0,c1,rfl⟩:=xH cs ab;obtain⟨fG,dz,rfl⟩:=xH xs hf;have h0:DataW.trod enc Tryz.prog W 0 (λ_=>true) true n 9 (List.take (Tryz.prog.cellsOf 9) [c0,c1])=some fG:=aW 0 _ rfl
 rw [pA]at h0;obtain⟨v0,fl,dG⟩:=o3 Tryz.underlying9 h0;have Z:DataW.trod enc Tryz.prog W 0 (λ_=>true) true n 66 (List.take (Tryz.prog.cellsOf 66) [c1])=some dz:=aW 1 _ rfl
 rw [aq0]at Z;obtain⟨v1,c_,g1,r1⟩:=l5 (encA:=hW) (ok:=U3) Tryz.underlying66 adN (by omega) Z (λm cs' gd hm hx=>aq3 m cs' gd hx)
 exact⟨⟨v0,v1⟩,⟨fl,⟨c_,g1⟩⟩,(dG.app r1)⟩
structure U5(x:aB):Prop where
 atk:e5 x.cl
 atl:e5 x.b9
 aq7:x.Rows.length≤9223372036854775807∧∀i,i<x.Rows.length→U4 (x.Rows.getD i default)
theorem aq8(fuel:Nat)(cs:List Value)(x:DataW H×List MemPlace)(h:DataW.trod enc Tryz.prog W 0 (λ_=>true) true fuel 24 cs=some x):∃p:aB,U5 p∧gg W cs (ahu p).cells:=by
 obtain⟨xs,n,hn,_,ab,hf,aW⟩:=DataW.trod_struct Tryz.underlying24 h;rw [adG]at ab;obtain⟨c0,c1,c2,rfl⟩:=qI cs ab;obtain⟨fG,dz,ew,rfl⟩:=qI xs hf;have h0:DataW.trod enc Tryz.prog W 0 (λ_=>true) true n 2 (List.take (Tryz.prog.cellsOf 2) [c0,c1,c2])=some fG:=aW 0 _ rfl
 rw [qH]at h0;obtain⟨v0,fl,dG⟩:=iX (k:=.i64) Tryz.underlying2 h0;have Z:DataW.trod enc Tryz.prog W 0 (λ_=>true) true n 2 (List.take (Tryz.prog.cellsOf 2) [c1,c2])=some dz:=aW 1 _ rfl
 rw [qH]at Z;obtain⟨v1,c_,r1⟩:=iX (k:=.i64) Tryz.underlying2 Z;have aa:DataW.trod enc Tryz.prog W 0 (λ_=>true) true n 22 (List.take (Tryz.prog.cellsOf 22) [c2])=some ew:=aW 2 _ rfl
 rw [aqS]at aa;obtain⟨v2,ak,g2,r2⟩:=l5 (encA:=cH) (ok:=U4) Tryz.underlying22 adO (by omega) aa (λm cs' gd hm hx=>aq6 m cs' gd hx)
 exact⟨⟨v0,v1,v2⟩,⟨⟨fl.1,fl.2⟩,⟨c_.1,c_.2⟩,⟨ak,g2⟩⟩,((dG.app r1).app r2)⟩
structure U6(x:Outcome):Prop where
 atm:e5 x.Status
 atn:e5 x.Code
 aq9:x.Out.length≤9223372036854775807∧∀i,i<x.Out.length→xJ (x.Out.getD i default)
theorem aq'(fuel:Nat)(cs:List Value)(x:DataW H×List MemPlace)(h:DataW.trod enc Tryz.prog W 0 (λ_=>true) true fuel 103 cs=some x):∃p:Outcome,U6 p∧gg W cs (ahw p).cells:=by
 obtain⟨xs,n,hn,_,ab,hf,aW⟩:=DataW.trod_struct Tryz.underlying103 h;rw [adQ]at ab;obtain⟨c0,c1,c2,rfl⟩:=qI cs ab;obtain⟨fG,dz,ew,rfl⟩:=qI xs hf;have h0:DataW.trod enc Tryz.prog W 0 (λ_=>true) true n 3 (List.take (Tryz.prog.cellsOf 3) [c0,c1,c2])=some fG:=aW 0 _ rfl
 rw [pz]at h0;obtain⟨v0,fl,dG⟩:=iX (k:=.i64) Tryz.underlying3 h0;have Z:DataW.trod enc Tryz.prog W 0 (λ_=>true) true n 3 (List.take (Tryz.prog.cellsOf 3) [c1,c2])=some dz:=aW 1 _ rfl
 rw [pz]at Z;obtain⟨v1,c_,r1⟩:=iX (k:=.i64) Tryz.underlying3 Z;have aa:DataW.trod enc Tryz.prog W 0 (λ_=>true) true n 54 (List.take (Tryz.prog.cellsOf 54) [c2])=some ew:=aW 2 _ rfl
 rw [adI]at aa;obtain⟨v2,ak,g2,r2⟩:=l5 (encA:=dY) (ok:=xJ) Tryz.underlying54 My (by omega) aa (λm cs' gd hm hx=>U2 m cs' gd hx)
 exact⟨⟨v0,v1,v2⟩,⟨⟨fl.1,fl.2⟩,⟨c_.1,c_.2⟩,⟨ak,g2⟩⟩,((dG.app r1).app r2)⟩
structure U7(x:eS):Prop where
 adU:e5 x.Client
 aq_:e5 x.Seq
 ara:U6 x.Outcome
theorem arb(fuel:Nat)(cs:List Value)(x:DataW H×List MemPlace)(h:DataW.trod enc Tryz.prog W 0 (λ_=>true) true fuel 105 cs=some x):∃p:eS,U7 p∧gg W cs (ik p).cells:=by
 obtain⟨xs,n,hn,_,ab,hf,aW⟩:=DataW.trod_struct Tryz.underlying105 h;rw [adR]at ab;obtain⟨c0,c1,c2,c3,c4,rfl⟩:=UZ cs ab;obtain⟨fG,dz,ew,rfl⟩:=qI xs hf;have h0:DataW.trod enc Tryz.prog W 0 (λ_=>true) true n 3 (List.take (Tryz.prog.cellsOf 3) [c0,c1,c2,c3,c4])=some fG:=aW 0 _ rfl
 rw [pz]at h0;obtain⟨v0,fl,dG⟩:=iX (k:=.i64) Tryz.underlying3 h0;have Z:DataW.trod enc Tryz.prog W 0 (λ_=>true) true n 2 (List.take (Tryz.prog.cellsOf 2) [c1,c2,c3,c4])=some dz:=aW 1 _ rfl
 rw [qH]at Z;obtain⟨v1,c_,r1⟩:=iX (k:=.i64) Tryz.underlying2 Z;have aa:DataW.trod enc Tryz.prog W 0 (λ_=>true) true n 103 (List.take (Tryz.prog.cellsOf 103) [c2,c3,c4])=some ew:=aW 2 _ rfl
 rw [adQ]at aa;obtain⟨v2,ak,r2⟩:=aq' n _ _ aa;exact⟨⟨v0,v1,v2⟩,⟨⟨fl.1,fl.2⟩,⟨c_.1,c_.2⟩,ak⟩,((dG.app r1).app r2)⟩
structure Mz(x:bM):Prop where
 adU:e5 x.Client
 ato:e5 x.Next
 arc:x.bK.length≤9223372036854775807∧∀i,i<x.bK.length→U7 (x.bK.getD i default)
theorem ard(fuel:Nat)(cs:List Value)(x:DataW H×List MemPlace)(h:DataW.trod enc Tryz.prog W 0 (λ_=>true) true fuel 101 cs=some x):∃p:bM,Mz p∧gg W cs (dq p).cells:=by
 obtain⟨xs,n,hn,_,ab,hf,aW⟩:=DataW.trod_struct Tryz.underlying101 h;rw [adP]at ab;obtain⟨c0,c1,c2,rfl⟩:=qI cs ab;obtain⟨fG,dz,ew,rfl⟩:=qI xs hf;have h0:DataW.trod enc Tryz.prog W 0 (λ_=>true) true n 3 (List.take (Tryz.prog.cellsOf 3) [c0,c1,c2])=some fG:=aW 0 _ rfl
 rw [pz]at h0;obtain⟨v0,fl,dG⟩:=iX (k:=.i64) Tryz.underlying3 h0;have Z:DataW.trod enc Tryz.prog W 0 (λ_=>true) true n 2 (List.take (Tryz.prog.cellsOf 2) [c1,c2])=some dz:=aW 1 _ rfl
 rw [qH]at Z;obtain⟨v1,c_,r1⟩:=iX (k:=.i64) Tryz.underlying2 Z;have aa:DataW.trod enc Tryz.prog W 0 (λ_=>true) true n 99 (List.take (Tryz.prog.cellsOf 99) [c2])=some ew:=aW 2 _ rfl
 rw [aq1]at aa;obtain⟨v2,ak,g2,r2⟩:=l5 (encA:=ik) (ok:=U7) Tryz.underlying99 adR (by omega) aa (λm cs' gd hm hx=>arb m cs' gd hx)
 exact⟨⟨v0,v1,v2⟩,⟨⟨fl.1,fl.2⟩,⟨c_.1,c_.2⟩,⟨ak,g2⟩⟩,((dG.app r1).app r2)⟩
structure U8(x:Part):Prop where
 are:e5 x.Id
 atp:x.ec.length≤9223372036854775807
 arf:e5 x.Node
 arh:e5 x.fC
 atq:x.gQ.length≤9223372036854775807
theorem ari(fuel:Nat)(cs:List Value)(x:DataW H×List MemPlace)(h:DataW.trod enc Tryz.prog W 0 (λ_=>true) true fuel 61 cs=some x):∃p:Part,U8 p∧gg W cs (cV p).cells:=by
 obtain⟨xs,n,hn,_,ab,hf,aW⟩:=DataW.trod_struct Tryz.underlying61 h;rw [adM]at ab;obtain⟨c0,c1,c2,c3,c4,rfl⟩:=UZ cs ab;obtain⟨fG,dz,ew,i',fp,rfl⟩:=UZ xs hf;have h0:DataW.trod enc Tryz.prog W 0 (λ_=>true) true n 3 (List.take (Tryz.prog.cellsOf 3) [c0,c1,c2,c3,c4])=some fG:=aW 0 _ rfl
 rw [pz]at h0;obtain⟨v0,fl,dG⟩:=iX (k:=.i64) Tryz.underlying3 h0;have Z:DataW.trod enc Tryz.prog W 0 (λ_=>true) true n 9 (List.take (Tryz.prog.cellsOf 9) [c1,c2,c3,c4])=some dz:=aW 1 _ rfl
 rw [pA]at Z;obtain⟨v1,c_,r1⟩:=o3 Tryz.underlying9 Z;have aa:DataW.trod enc Tryz.prog W 0 (λ_=>true) true n 3 (List.take (Tryz.prog.cellsOf 3) [c2,c3,c4])=some ew:=aW 2 _ rfl
 rw [pz]at aa;obtain⟨v2,ak,r2⟩:=iX (k:=.i64) Tryz.underlying3 aa;have aj:DataW.trod enc Tryz.prog W 0 (λ_=>true) true n 3 (List.take (Tryz.prog.cellsOf 3) [c3,c4])=some i':=aW 3 _ rfl
 rw [pz]at aj;obtain⟨v3,eC,r3⟩:=iX (k:=.i64) Tryz.underlying3 aj;have aC:DataW.trod enc Tryz.prog W 0 (λ_=>true) true n 9 (List.take (Tryz.prog.cellsOf 9) [c4])=some fp:=aW 4 _ rfl
 rw [pA]at aC;obtain⟨v4,d_,bj⟩:=o3 Tryz.underlying9 aC;exact⟨⟨v0,v1,v2,v3,v4⟩,⟨⟨fl.1,fl.2⟩,c_,⟨ak.1,ak.2⟩,⟨eC.1,eC.2⟩,d_⟩,((((dG.app r1).app r2).app r3).app bj)⟩
structure U9(x:cb):Prop where
 arj:e5 x.Version
 ark:x.aE.length≤9223372036854775807∧∀i,i<x.aE.length→U8 (x.aE.getD i default)
theorem arl(fuel:Nat)(cs:List Value)(x:DataW H×List MemPlace)(h:DataW.trod enc Tryz.prog W 0 (λ_=>true) true fuel 29 cs=some x):∃p:cb,U9 p∧gg W cs (ahx p).cells:=by
 obtain⟨xs,n,hn,_,ab,hf,aW⟩:=DataW.trod_struct Tryz.underlying29 h;rw [adH]at ab;obtain⟨c0,c1,rfl⟩:=xH cs ab;obtain⟨fG,dz,rfl⟩:=xH xs hf;have h0:DataW.trod enc Tryz.prog W 0 (λ_=>true) true n 2 (List.take (Tryz.prog.cellsOf 2) [c0,c1])=some fG:=aW 0 _ rfl
 rw [qH]at h0;obtain⟨v0,fl,dG⟩:=iX (k:=.i64) Tryz.underlying2 h0;have Z:DataW.trod enc Tryz.prog W 0 (λ_=>true) true n 27 (List.take (Tryz.prog.cellsOf 27) [c1])=some dz:=aW 1 _ rfl
 rw [aqV]at Z;obtain⟨v1,c_,g1,r1⟩:=l5 (encA:=cV) (ok:=U8) Tryz.underlying27 adM (by omega) Z (λm cs' gd hm hx=>ari m cs' gd hx)
 exact⟨⟨v0,v1⟩,⟨⟨fl.1,fl.2⟩,⟨c_,g1⟩⟩,(dG.app r1)⟩
structure MA(x:bi):Prop where
 aq4:x.Key.length≤9223372036854775807
 arm:e5 x.Count
theorem arn(fuel:Nat)(cs:List Value)(x:DataW H×List MemPlace)(h:DataW.trod enc Tryz.prog W 0 (λ_=>true) true fuel 107 cs=some x):∃p:bi,MA p∧gg W cs (dP p).cells:=by
 obtain⟨xs,n,hn,_,ab,hf,aW⟩:=DataW.trod_struct Tryz.underlying107 h;rw [adS]at ab;obtain⟨c0,c1,rfl⟩:=xH cs ab;obtain⟨fG,dz,rfl⟩:=xH xs hf;have h0:DataW.trod enc Tryz.prog W 0 (λ_=>true) true n 9 (List.take (Tryz.prog.cellsOf 9) [c0,c1])=some fG:=aW 0 _ rfl
 rw [pA]at h0;obtain⟨v0,fl,dG⟩:=o3 Tryz.underlying9 h0;have Z:DataW.trod enc Tryz.prog W 0 (λ_=>true) true n 2 (List.take (Tryz.prog.cellsOf 2) [c1])=some dz:=aW 1 _ rfl
 rw [qH]at Z;obtain⟨v1,c_,r1⟩:=iX (k:=.i64) Tryz.underlying2 Z;exact⟨⟨v0,v1⟩,⟨fl,⟨c_.1,c_.2⟩⟩,(dG.app r1)⟩
structure adV(x:fg):Prop where
 atr:True
 ats:x.Reads.length≤9223372036854775807∧∀i,i<x.Reads.length→(x.Reads.getD i default).length≤9223372036854775807
 att:x.cA.length≤9223372036854775807∧∀i,i<x.cA.length→(x.cA.getD i default).length≤9223372036854775807
theorem aro(fuel:Nat)(cs:List Value)(x:DataW H×List MemPlace)(h:DataW.trod enc Tryz.prog W 0 (λ_=>true) true fuel 57 cs=some x):∃p:fg,adV p∧gg W cs (ahy p).cells:=by
 obtain⟨xs,n,hn,_,ab,hf,aW⟩:=DataW.trod_struct Tryz.underlying57 h;rw [adK]at ab;obtain⟨c0,c1,c2,rfl⟩:=qI cs ab;obtain⟨fG,dz,ew,rfl⟩:=qI xs hf;have h0:DataW.trod enc Tryz.prog W 0 (λ_=>true) true n 4 (List.take (Tryz.prog.cellsOf 4) [c0,c1,c2])=some fG:=aW 0 _ rfl
 rw [adF]at h0;obtain⟨v0,dG⟩:=XA Tryz.underlying4 h0;have Z:DataW.trod enc Tryz.prog W 0 (λ_=>true) true n 55 (List.take (Tryz.prog.cellsOf 55) [c1,c2])=some dz:=aW 1 _ rfl
 rw [adJ]at Z;obtain⟨v1,c_,g1,r1⟩:=l5 (encA:=bE) (ok:=λs:atW=>s.length≤9223372036854775807) Tryz.underlying55 pA (by omega) Z (λm cs' gd hm hx=>o3 Tryz.underlying9 hx)
 have aa:DataW.trod enc Tryz.prog W 0 (λ_=>true) true n 55 (List.take (Tryz.prog.cellsOf 55) [c2])=some ew:=aW 2 _ rfl
 rw [adJ]at aa;obtain⟨v2,ak,g2,r2⟩:=l5 (encA:=bE) (ok:=λs:atW=>s.length≤9223372036854775807) Tryz.underlying55 pA (by omega) aa (λm cs' gd hm hx=>o3 Tryz.underlying9 hx)
 exact⟨⟨v0,v1,v2⟩,⟨trivial,⟨c_,g1⟩,⟨ak,g2⟩⟩,((dG.app r1).app r2)⟩
structure MB(x:Request):Prop where
 adU:e5 x.Client
 aq_:e5 x.Seq
 atu:x.bc.length≤9223372036854775807
 fArgs:x.ar.length≤9223372036854775807∧∀i,i<x.ar.length→xJ (x.ar.getD i default)
 atv:True
 atw:adV x.br
theorem arp(fuel:Nat)(cs:List Value)(x:DataW H×List MemPlace)(h:DataW.trod enc Tryz.prog W 0 (λ_=>true) true fuel 59 cs=some x):∃p:Request,MB p∧gg W cs (ep p).cells:=by
 obtain⟨xs,n,hn,_,ab,hf,aW⟩:=DataW.trod_struct Tryz.underlying59 h;rw [adL]at ab;obtain⟨c0,c1,c2,c3,c4,c5,lS,ll,rfl⟩:=adE cs ab;obtain⟨fG,dz,ew,i',fp,kI,rfl⟩:=aqQ xs hf;have h0:DataW.trod enc Tryz.prog W 0 (λ_=>true) true n 3 (List.take (Tryz.prog.cellsOf 3) [c0,c1,c2,c3,c4,c5,lS,ll])=some fG:=aW 0 _ rfl
 rw [pz]at h0;obtain⟨v0,fl,dG⟩:=iX (k:=.i64) Tryz.underlying3 h0;have Z:DataW.trod enc Tryz.prog W 0 (λ_=>true) true n 2 (List.take (Tryz.prog.cellsOf 2) [c1,c2,c3,c4,c5,lS,ll])=some dz:=aW 1 _ rfl
 rw [qH]at Z;obtain⟨v1,c_,r1⟩:=iX (k:=.i64) Tryz.underlying2 Z;have aa:DataW.trod enc Tryz.prog W 0 (λ_=>true) true n 9 (List.take (Tryz.prog.cellsOf 9) [c2,c3,c4,c5,lS,ll])=some ew:=aW 2 _ rfl
 rw [pA]at aa;obtain⟨v2,ak,r2⟩:=o3 Tryz.underlying9 aa;have aj:DataW.trod enc Tryz.prog W 0 (λ_=>true) true n 54 (List.take (Tryz.prog.cellsOf 54) [c3,c4,c5,lS,ll])=some i':=aW 3 _ rfl
 rw [adI]at aj;obtain⟨v3,eC,g3,r3⟩:=l5 (encA:=dY) (ok:=xJ) Tryz.underlying54 My (by omega) aj (λm cs' gd hm hx=>U2 m cs' gd hx)
 have aC:DataW.trod enc Tryz.prog W 0 (λ_=>true) true n 4 (List.take (Tryz.prog.cellsOf 4) [c4,c5,lS,ll])=some fp:=aW 4 _ rfl
 rw [adF]at aC;obtain⟨v4,bj⟩:=XA Tryz.underlying4 aC;have aT:DataW.trod enc Tryz.prog W 0 (λ_=>true) true n 57 (List.take (Tryz.prog.cellsOf 57) [c5,lS,ll])=some kI:=aW 5 _ rfl
 rw [adK]at aT;obtain⟨v5,zT,bZ⟩:=aro n _ _ aT;exact⟨⟨v0,v1,v2,v3,v4,v5⟩,⟨⟨fl.1,fl.2⟩,⟨c_.1,c_.2⟩,ak,⟨eC,g3⟩,trivial,zT⟩,(((((dG.app r1).app r2).app r3).app bj).app bZ)⟩
structure tk(x:b7):Prop where
 arq:e5 x.Pos
 ars:U5 x.aB
 adW:x.cq.length≤9223372036854775807∧∀i,i<x.cq.length→qv (x.cq.getD i default)
 art:x.c6.length≤9223372036854775807∧∀i,i<x.c6.length→Mz (x.c6.getD i default)
 adX:U9 x.Place
 aru:x.bi.length≤9223372036854775807∧∀i,i<x.bi.length→MA (x.bi.getD i default)
 arv:x.Queue.length≤9223372036854775807∧∀i,i<x.Queue.length→MB (x.Queue.getD i default)
 arw:hS x.dA
theorem arx(fuel:Nat)(cs:List Value)(x:DataW H×List MemPlace)(h:DataW.trod enc Tryz.prog W 0 (λ_=>true) true fuel 34 cs=some x):∃p:b7,tk p∧gg W cs (XW p).cells:=by
 obtain⟨xs,n,hn,_,ab,hf,aW⟩:=DataW.trod_struct Tryz.underlying34 h;rw [aqZ]at ab;obtain⟨c0,c1,c2,c3,c4,c5,lS,ll,pB,c9,mC,rfl⟩:=aqR cs ab;obtain⟨fG,dz,ew,i',fp,kI,p9,DD,rfl⟩:=adE xs hf;have h0:DataW.trod enc Tryz.prog W 0 (λ_=>true) true n 2 (List.take (Tryz.prog.cellsOf 2) [c0,c1,c2,c3,c4,c5,lS,ll,pB,c9,mC])=some fG:=aW 0 _ rfl
 rw [qH]at h0;obtain⟨v0,fl,dG⟩:=iX (k:=.i64) Tryz.underlying2 h0;have Z:DataW.trod enc Tryz.prog W 0 (λ_=>true) true n 24 (List.take (Tryz.prog.cellsOf 24) [c1,c2,c3,c4,c5,lS,ll,pB,c9,mC])=some dz:=aW 1 _ rfl
 rw [adG]at Z;obtain⟨v1,c_,r1⟩:=aq8 n _ _ Z;have aa:DataW.trod enc Tryz.prog W 0 (λ_=>true) true n 25 (List.take (Tryz.prog.cellsOf 25) [c4,c5,lS,ll,pB,c9,mC])=some ew:=aW 2 _ rfl
 rw [aqT]at aa;obtain⟨v2,ak,g2,r2⟩:=l5 (encA:=eb) (ok:=qv) Tryz.underlying25 adB (by omega) aa (λm cs' gd hm hx=>aqN m cs' gd hx)
 have aj:DataW.trod enc Tryz.prog W 0 (λ_=>true) true n 26 (List.take (Tryz.prog.cellsOf 26) [c5,lS,ll,pB,c9,mC])=some i':=aW 3 _ rfl
 rw [aqU]at aj;obtain⟨v3,eC,g3,r3⟩:=l5 (encA:=dq) (ok:=Mz) Tryz.underlying26 adP (by omega) aj (λm cs' gd hm hx=>ard m cs' gd hx)
 have aC:DataW.trod enc Tryz.prog W 0 (λ_=>true) true n 29 (List.take (Tryz.prog.cellsOf 29) [lS,ll,pB,c9,mC])=some fp:=aW 4 _ rfl
 rw [adH]at aC;obtain⟨v4,d_,bj⟩:=arl n _ _ aC;have aT:DataW.trod enc Tryz.prog W 0 (λ_=>true) true n 30 (List.take (Tryz.prog.cellsOf 30) [pB,c9,mC])=some kI:=aW 5 _ rfl
 rw [aqW]at aT;obtain⟨v5,zT,g5,bZ⟩:=l5 (encA:=dP) (ok:=MA) Tryz.underlying30 adS (by omega) aT (λm cs' gd hm hx=>arn m cs' gd hx)
 have bQ:DataW.trod enc Tryz.prog W 0 (λ_=>true) true n 31 (List.take (Tryz.prog.cellsOf 31) [c9,mC])=some p9:=aW 6 _ rfl
 rw [aqX]at bQ;obtain⟨v6,re,g6,bO⟩:=l5 (encA:=ep) (ok:=MB) Tryz.underlying31 adL (by omega) bQ (λm cs' gd hm hx=>arp m cs' gd hx)
 have cK:DataW.trod enc Tryz.prog W 0 (λ_=>true) true n 32 (List.take (Tryz.prog.cellsOf 32) [mC])=some DD:=aW 7 _ rfl
 rw [aqY]at cK;obtain⟨bz,adY,cS⟩:=iX (k:=.u64) Tryz.underlying32 cK;exact⟨⟨v0,v1,v2,v3,v4,v5,v6,bz⟩,⟨⟨fl.1,fl.2⟩,c_,⟨ak,g2⟩,⟨eC,g3⟩,d_,⟨zT,g5⟩,⟨re,g6⟩,⟨adY.1,Int.lt_of_le_of_lt adY.2 (by decide)⟩⟩,(((((((dG.app r1).app r2).app r3).app bj).app bZ).app bO).app cS)⟩
end
def oL{α:Type}[Inhabited α]{P:α→Prop}{l:List α}(h:∀i,i<l.length→P (l.getD i default))(h0:P default)(i:Nat):P (l.getD i default):=by
 by_cases hi:i<l.length
 ·exact h i hi
 ·rw [List.getD_eq_getElem?_getD,List.getElem?_eq_none (by omega)];exact h0
def n2{α:Type}[Inhabited α]{P:α→Prop}{l:List α}(h:∀i,i<l.length→P (l.getD i default))(x:α)(hx:x∈l):P x:=by
 obtain⟨i,hi,e⟩:=UT hx;rw [←e];exact h i hi
def xG.ch{r:b7}(h:xG r)(hi:tk r){n:Nat}(hn:3000000≤n):tg n r where
 st:=⟨by have:=h.u1;omega,λi=>oL (P:=Mc n) (λk hk=>by
  have Z:=h.rs k hk;unfold xF at Z;simp only [Bool.and_eq_true,decide_eq_true_eq,ig]at Z;obtain⟨⟨aa,aj⟩,aC⟩:=Z;exact⟨by omega,by omega,λj=>oL (P:=λx:Version=>x.bA.S.length≤1000) (λm hm=>by have:=aC m hm;omega) (by show([]:atW).length≤1000;simp) j⟩) ((UN (n:=n) (by omega)).st.row 0) i⟩
 Bj:=by have:=h.pl;omega
 lk:=λi=>oL (P:=nZ) (λk hk=>by
  obtain⟨Z,aa,aj,aC⟩:=h.b6 k hk;have aT:=LR (r.cq.getD k default).Body;exact⟨hi.adW.2 k hk,by omega,by omega,by omega⟩) ac6 i
 uY:=by have:=h.lf;omega
 oJ:=λi=>oL (P:=qE n) (λk hk=>by
  obtain⟨Z,aa⟩:=h.oo k hk
  exact⟨by omega,λj=>oL (P:=λx:eS=>xu n x.Outcome) (λm hm=>by
   obtain⟨aj,aC⟩:=aa m hm;exact⟨by omega,λq=>oL (P:=λx:bp=>x.S.length≤1000) (λm hm=>by have:=aC m hm;omega) (by show([]:atW).length≤1000;simp) q⟩) ((Ml (n:=n) (by omega) (l:=[]) (λx hx=>by cases hx) 0).out 0) j⟩) (Ml (n:=n) (by omega) (l:=[]) (λx hx=>by cases hx) 0) i
 pl:=by have:=h.Mu.pl;omega
 Bk:=λi=>oL (P:=rT) (λk hk=>by obtain⟨a,b⟩:=h.Mu.b6 k hk;exact⟨by omega,by omega⟩) ((UN (n:=n) (by omega)).Bk 0) i
 aF:=by have:=h.Mu.ab;omega
 kv:=λi=>oL (P:=λx:bi=>x.Key.length≤1000) (λk hk=>by have:=h.Mu.hs k hk;omega) (by show([]:atW).length≤1000;simp) i
 py:=by have:=h.adp;omega
 uZ:=λi=>oL (P:=rQ n) (λk hk=>by
  obtain⟨Z,aa,aj,f1,f2,f3,f4⟩:=h.aqw k hk
  exact⟨by omega,by omega,λj=>oL (P:=λx:bp=>x.S.length≤1000) (λm hm=>by have:=aj m hm;omega) (by show([]:atW).length≤1000;simp) j,by omega,by omega,
   λj=>oL (P:=λx:atW=>x.length≤1000) (λm hm=>by have:=f3 m hm;omega) (by show([]:atW).length≤1000;simp) j,
   λj=>oL (P:=λx:atW=>x.length≤1000) (λm hm=>by have:=f4 m hm;omega) (by show([]:atW).length≤1000;simp) j⟩) (adf (by omega)) i
def U'{k:atW}(h:ju k=true):k.length≤24:=by
 unfold ju at h;simp only [Bool.and_eq_true,decide_eq_true_eq]at h;exact h.1.2
def adZ{k:atW}(h:nh k=true):k.length≤24:=by
 unfold nh at h;simp only [Bool.and_eq_true,decide_eq_true_eq]at h;exact h.2
def ad0{l:List bp}(h:ps l=true)(hi:∀i,i<l.length→xJ (l.getD i default)):∀v∈l,qB v:=by
 unfold ps at h;rw [ig]at h;refine n2 λi ab=>?_
 have Z:=h i ab;rw [Bool.and_eq_true]at Z;exact⟨Z.1,(hi i ab).adT⟩
def ary{o:Outcome}(h:uR o=true)(hi:U6 o):pw o:=by
 unfold uR at h;by_cases hs:o.Status=1
 ·simp only [hs,atF,atH,Bool.and_eq_true,decide_eq_true_eq]at h;obtain⟨⟨Z,aa⟩,aj⟩:=h;exact⟨by omega,by omega,aa,ad0 aj hi.aq9.2⟩
 ·simp only [hs,atG,atI,Bool.and_eq_true,decide_eq_true_eq]at h;obtain⟨⟨⟨Z,aa⟩,aj⟩,aC⟩:=h;have aT:o.Out=[]:=List.length_eq_zero_iff.1 aC;exact⟨by omega,by omega,by rw [aT];simp,by rw [aT];exact λv aw=>by cases aw⟩
def arz{s:bM}(h:xw s=true)(hi:Mz s):qG s:=by
 unfold xw at h;simp only [Bool.and_eq_true,Bool.not_eq_true',decide_eq_true_eq,ig]at h;obtain⟨⟨Z,aa⟩,aj⟩:=h;obtain⟨aZ,a2,a3,a4⟩:=Us Z;have hk:=FO ⟨a3,a4⟩
 have aC:∀i,i<s.bK.length→((s.bK.getD i default).Client=s.Client∧(s.bK.getD i default).Seq=s.Next-(s.bK.length:Int)+(i:Int))∧uR (s.bK.getD i default).Outcome=true:=λi ab=>by
  have:=aj i ab
  unfold Bc at this;simp only [Bool.and_eq_true,decide_eq_true_eq]at this;exact this
 refine⟨⟨aZ,a2⟩,⟨a3,a4⟩,?_,by rw [List.length_map];omega,?_⟩
 ·refine List.ext_getElem (by simp [uV]) λi g1 g2=>?_
  have aT:=aC i g1;rw [List.getD_eq_getElem?_getD,List.getElem?_eq_getElem g1,Option.getD_some]at aT;simp only [uV,List.getElem_map,List.getElem_zipIdx,Nat.zero_add];rw [wr (x:=kp s.Next-(i:Int)) (by omega) (by omega),wr (x:=s.Next-(kp s.Next-(i:Int))) (by omega) (by omega)]
  generalize s.bK[i]=x at aT
  obtain⟨c,q,o⟩:=x;obtain⟨⟨e1,e2⟩,_⟩:=aT;simp only at e1 e2
  subst e1;rw [e2,aa,show s.Next-kp s.Next+(i:Int)=s.Next-(kp s.Next-(i:Int))by omega]
 ·intro o av;obtain⟨x,hx,rfl⟩:=List.mem_map.1 av;exact n2 (P:=λx:eS=>pw x.Outcome) (λi ab=>ary (aC i ab).2 (hi.arc.2 i ab).ara) x hx
def arA{p:cb}(h:ni p=true)(hi:U9 p):p.aE.length≤16∧∀x∈p.aE,qF x:=by
 unfold ni at h;simp only [Bool.and_eq_true,Bool.not_eq_true',Bool.or_eq_false_iff,decide_eq_false_iff_not,Bool.not_eq_false',decide_eq_true_eq,ig]at h;obtain⟨⟨⟨⟨⟨Z,aa⟩,aj⟩,aC⟩,aT⟩,bQ⟩:=h;refine⟨by omega,n2 λi ab=>?_⟩
 have cK:=bQ i ab;have hx:=hi.ark.2 i ab;unfold uQ rS at cK;simp only [Bool.and_eq_true]at cK;obtain⟨di,⟨_,el⟩,_⟩:=cK;refine⟨hx.are,?_,hx.arf,hx.arh,?_⟩
 ·cases i with
  |zero=>rw [aT];simp
  |succ i=>
   rw [show decide (0<((i+1:Nat):Int))=true from decide_eq_true (by omega),atJ,Bool.false_or,Bool.and_eq_true]at di
   exact adZ di.1
 ·by_cases hd:(p.aE.getD i default).fC=0
  ·simp only [hd,atF,atH,decide_eq_true_eq]at el;rw [el];simp
  ·simp only [hd,atG,atI,Bool.and_eq_true]at el;exact adZ el.1.1.2
def arB{l:List bi}(h:rO l=true)(hi:∀i,i<l.length→MA (l.getD i default)):l.length≤32∧∀x∈l,x.Key.length≤24∧e5 x.Count:=by
 unfold rO at h;simp only [Bool.and_eq_true,decide_eq_true_eq,ig]at h;obtain⟨Z,aa⟩:=h;exact⟨by omega,n2 (P:=λx:bi=>x.Key.length≤24∧e5 x.Count) λi ab=>⟨U' (Z i ab).1.1.1,(hi i ab).arm⟩⟩
def ad1{l:jZ}(h:qD l=true):∀v∈l,v.length≤24:=by
 unfold qD at h;rw [ig]at h
 exact n2 (P:=λv:atW=>v.length≤24) λi ab=>by
  have:=h i ab
  rw [Bool.and_eq_true]at this;exact U' this.1
def arC{s:atW}(h:gv s=true):s.length≤16:=by obtain⟨_,_,_,_,_,_,h⟩:=LE h;exact h
def arD{
 r:Request} (h:pt r=0) (hi:MB r):nX r∧te r=true:=by
 have h0:=h;unfold pt at h;cases Z:((decide (r.Client<1)||decide (32<r.Client))||decide (r.Seq<1))||decide (1099511627776<r.Seq)
 ·cases aa:gv r.bc
  ·rw [Z,aa]at h;simp at h
  ·cases aj:decide (6<r.ar.length)
   ·cases aC:ps r.ar
    ·rw [Z,aa,aj,aC]at h;simp at h
    ·cases aT:((!rP r.br||r.br.ee)||(!r.eN&&decide (0<r.br.Reads.length+r.br.cA.length)))
     ·simp only [Bool.or_eq_false_iff,decide_eq_false_iff_not]at Z aj aT;obtain⟨⟨⟨cY,jj⟩,Fk⟩,LC⟩:=Z;obtain⟨⟨c1,c2⟩,c3⟩:=aT;rw [Bool.not_eq_false']at c1;unfold rP at c1;rw [c2,atI]at c1;simp only [Bool.and_eq_true,decide_eq_true_eq]at c1;obtain⟨⟨d1,d2⟩,d3,d4⟩:=c1;refine⟨⟨⟨by omega,by omega⟩,⟨by omega,by omega⟩,arC aa,⟨by omega,ad0 aC hi.fArgs.2⟩,?_,c2⟩,?_⟩
      ·unfold FP;cases hd:r.eN
       ·rw [hd]at c3;simp only [atK,Bool.true_and,decide_eq_false_iff_not]at c3;rw [if_neg (by simp)]
        rw [List.length_eq_zero_iff.1 (show r.br.Reads.length=0 by omega),List.length_eq_zero_iff.1 (show r.br.cA.length=0 by omega)]
       ·rw [if_pos rfl];exact⟨⟨d2,ad1 d1⟩,d4,ad1 d3⟩
      ·unfold te;rw [h0,decide_eq_true (show r.Client≤32 by omega),decide_eq_true (show r.Seq≤1099511627776 by omega)];rfl
     ·rw [Z,aa,aj,aC,aT]at h;simp at h
   ·rw [Z,aa,aj]at h;simp at h
 ·rw [Z]at h;simp at h
def arE{s:aB}(hs:lh s=true)(hi:U5 s)(hb:∀i,i<s.Rows.length→(s.Rows.getD i default).bl.length≤1000000000):∀p∈fr s.Rows,rV p:=by
 intro p hp;obtain⟨r,ai,e,_⟩:=FV _ _ hp;obtain⟨j,hj,rfl⟩:=UT ai;obtain⟨a,b⟩:=adu hs hb j hj;rw [e];refine⟨U' a,b,?_⟩
 have Z:=(hi.aq7.2 j hj).aq5.2;exact oL (P:=λv:Version=>e5 v.bA.N) (λk hk=>(Z k hk).aq2.adT) (by show e5 (0:Int);exact⟨by omega,by omega⟩) _
def arF{r:b7}(hs:hT r=true)(hi:tk r)(gp:r.aB.Rows.length≤1000000)(hb:∀i,i<r.aB.Rows.length→(r.aB.Rows.getD i default).bl.length≤1000000000)(FW:r.c6.length≤32):th (oK r (fr r.aB.Rows)):=by
 unfold hT at hs;simp only [Bool.and_eq_true,decide_eq_true_eq]at hs;obtain⟨⟨⟨⟨⟨⟨⟨⟨Z,aa⟩,aj⟩,aC⟩,aT⟩,bQ⟩,cK⟩,di⟩,el⟩:=hs;have oa:=u2 r.aB.Rows;refine⟨hi.arq,⟨⟨by show(fr r.aB.Rows).length≤_;omega,arE aj hi.ars hb⟩,aqD aj gp hb⟩,?_,⟨⟨FW,?_⟩,bQ⟩,⟨⟨hi.adX.arj,arA cK hi.adX⟩,cK⟩,arB di hi.aru.2,?_,hi.arw⟩
 ·unfold tf at aT;simp only [Bool.and_eq_true,decide_eq_true_eq,ig]at aT;obtain⟨gF,arG⟩:=aT;refine⟨by show(r.cq.map gU).length≤16;rw [List.length_map];exact arG,λs hs=>?_⟩
  obtain⟨p,hp,rfl⟩:=List.mem_map.1 (show s∈r.cq.map gU from hs)
  refine n2 (P:=λp:bc=>(gU p).length≤16384) (λi ab=>?_) p hp
  have:=(gF i ab).1
  simp only [Bool.not_eq_true',Bool.or_eq_false_iff,decide_eq_false_iff_not]at this;omega
 ·have gF:=bQ;unfold nV at gF;simp only [Bool.and_eq_true,ig]at gF;exact n2 (P:=qG) λi ab=>arz (gF i ab).1 (hi.art.2 i ab)
 ·have gF:=el;unfold xC at gF;simp only [Bool.and_eq_true,decide_eq_true_eq,ig]at gF;exact⟨gF.2,n2 (P:=λq:Request=>nX q∧te q=true) λi ab=>arD (gF.1 i ab) (hi.arv.2 i ab)⟩
def U_{α:Type}{E:α→atW}{k:Nat}:∀{l:List α},(∀v∈l,(E v).length≤k)→(iL E l).length≤k*l.length
 |[],_=>by simp [iL]
 |v::l,h=>by
  have Z:=h v (by simp)
  have aa:=U_ (E:=E) (l:=l) λw hw=>h w (by simp [hw])
  rw [A7,atP,atL,Nat.mul_add,Nat.mul_one];omega
def r7{α:Type}{E:α→atW}{k:Nat}(m:Nat){l:List α}(ab:l.length≤m)(hm:m<18446744073709551616)(hk:∀v∈l,(E v).length≤k):(d9 E l).length≤10+k*m:=by
 have Z:=U_ hk;have aa:=nf (u:=l.length) (by omega)
 have aj:=Nat.mul_le_mul_left k ab;unfold d9;rw [atP];omega
def Va{v:bp}(h:qB v):(bU v).length≤84:=by
 have Z:=td h;have aa:=ach h.2 (by omega)
 omega
def u3{s:atW}{k:Nat}(h:s.length≤k)(hk:k≤1000000):(gb s).length≤k+10:=by
 have:=L3 (s:=s) (by omega)
 omega
def arH{o:Outcome}(h:pw o):(rX o).length≤1374:=by
 obtain⟨Z,aa⟩:=adi h;have aZ:=n0 Z;have a2:=n0 aa;have a3:=r7 (E:=bU) (k:=84) 16 h.2.2.1 (by omega) λv aw=>Va (h.2.2.2 v aw)
 unfold rX;simp only [atP];omega
def arI{s:bM}(h:qG s):(lj s).length≤11012:=by
 obtain⟨Z,aa,aj,aC,aT⟩:=h;have aZ:=n0 (z:=s.Client) ⟨by omega,by omega⟩
 have a2:=n0 (z:=s.Next) ⟨by omega,by omega⟩
 have a3:=U_ (E:=rX) (k:=1374) λo av=>arH (aT o av)
 have a4:=FO aa;unfold lj;simp only [atP];omega
def arJ{x:Part}(h:qF x):(rW x).length≤98:=by
 obtain⟨Z,aa,aj,aC,aT⟩:=h;have aZ:=rH Z;have a2:=rH aj;have a3:=rH aC;have a4:=u3 aa (by omega)
 have a5:=u3 aT (by omega)
 unfold rW;simp only [atP];omega
def arK{r:Request}(h:nX r):(jF r).length≤5000:=by
 obtain⟨Z,aa,aj,aC,aT,bQ⟩:=h;have aZ:=n0 Z;have a2:=n0 aa;have a3:=u3 aj (by omega)
 have a4:=r7 (E:=bU) (k:=84) 6 aC.1 (by omega) λv aw=>Va (aC.2 v aw)
 have a5:=UP r.eN
 have qu:(rZ r.eN (r.br.Reads,r.br.cA)).length≤4372:=by
  unfold rZ FP at *;cases hd:r.eN
  ·simp
  ·rw [hd]at aT;obtain⟨⟨c1,c2⟩,c3,c4⟩:=aT;have d1:=r7 (E:=gb) (k:=34) 64 c1 (by omega) λv aw=>u3 (c2 v aw) (by omega)
   have d2:=r7 (E:=gb) (k:=34) 64 c3 (by omega) λv aw=>u3 (c4 v aw) (by omega)
   simp only [atU,atP];simp only at d1 d2
   omega
 unfold jF;simp only [atP];omega
def arL{r:b7}{A:List bn}(hp:th (oK r A))(aN:A.length≤100)(FW:r.c6.length≤10)(ei:r.Queue.length≤64):(kr (oK r A)).length≤800000:=by
 have cY:(mK r.Pos).length≤10:=rH hp.pos
 have jj:=r7 (E:=li) (k:=118) 100 aN (by omega) λp h=>by
  obtain⟨c1,c2⟩:=hp.lk.1.2 p h;have d1:=u3 c1 (by omega)
  have d2:=Va c2;unfold li;rw [atP];omega
 have Fk:=r7 (E:=gb) (k:=16394) 16 hp.src.1 (by omega) λs h=>u3 (hp.src.2 s h) (by omega)
 have LC:=r7 (E:=lj) (k:=11012) 10 FW (by omega) λs h=>arI (hp.oJ.1.2 s h)
 have atx:=r7 (E:=rW) (k:=98) 16 hp.xD.1.2.1 (by omega) λs h=>arJ (hp.xD.1.2.2 s h)
 have aty:=r7 (E:=nY) (k:=44) 32 hp.aF.1 (by omega) λx h=>by
  obtain⟨c1,c2⟩:=hp.aF.2 x h;have d1:=u3 c1 (by omega)
  have d2:=rH c2;unfold nY;rw [atP];omega
 have atz:=r7 (E:=jF) (k:=5000) 64 ei (by omega) λq h=>arK (hp.py.2 q h).1
 have atA:=n0 hp.UL;have atB:=rH hp.xD.1.1;unfold kr oI;simp only [atP];simp only [oK]at *;omega
abbrev kR(r:b7):Bl:=oK r (fr r.aB.Rows)
section
variable {n:Nat} (hn:3000000≤n) (aR:n≤1000000000) {r:b7} (aW:xG r) (hi:tk r)
include hn aR aW hi
theorem FX(hs:hT r=true):th (kR r)∧(kr (kR r)).length≤800000:=by
 have hsh:=aW.ch hi hn;have Br:=aW.u1;have hp:=arF hs hi (by omega) (λi ab=>by have:=(hsh.st.row i).FJ;omega) (by have:=aW.lf;omega)
 exact⟨hp,arL hp (by have:=u2 r.aB.Rows;omega) (by have:=aW.lf;omega) (by have:=aW.adp;omega)⟩
theorem ad2(hs:hT r=true):(∀i,i<r.aB.Rows.length→Bo n r.Pos (r.aB.Rows.getD i default))∧r.aB.cl≤r.Pos∧r.Pos≤r.aB.b9:=by
 have hsh:=aW.ch hi hn;unfold hT at hs;simp only [Bool.and_eq_true,decide_eq_true_eq]at hs;obtain⟨⟨⟨⟨⟨⟨⟨⟨Z,aa⟩,aj⟩,aC⟩,aT⟩,bQ⟩,cK⟩,di⟩,el⟩:=hs;have Bs:=adq (n:=n) aj (λi ab=>by have:=(hsh.st.row i).FJ;exact⟨this,by omega⟩)
 rw [aC]at Bs;refine⟨Bs,?_⟩
 unfold lh at aj;simp only [Bool.and_eq_true,Bool.not_eq_true',Bool.or_eq_false_iff,decide_eq_false_iff_not]at aj;obtain⟨⟨⟨aZ,a2⟩,a3⟩,_⟩:=aj;omega
theorem arM(hs:hT r=true):sE n r=some (kr (kR r)):=by
 have hsh:=aW.ch hi hn;have Br:=aW.u1;have oa:=aW.pl;obtain⟨hp,ab⟩:=FX hn aR aW hi hs;obtain⟨Bs,Vb,Vc⟩:=ad2 hn aR aW hi hs;have l4:=hs;unfold hT xC at l4;simp only [Bool.and_eq_true,decide_eq_true_eq,ig]at l4;obtain⟨⟨⟨⟨⟨⟨⟨⟨Z,aa⟩,aj⟩,aC⟩,aT⟩,bQ⟩,cK⟩,di⟩,el,gF⟩:=l4
 exact adl hn aR hp ab (n2 λi _=>hsh.lk i) (by omega) (aqB (by omega) (by omega) Bs Vb Vc (by rw [Uu (by omega) aR hsh.st,aj]))
  (by rw [Ma (by omega) aR hsh.uY hsh.oJ,bQ]) (n2 (P:=λq:Request=>ot n q=some 0) λi ab=>by rw [L' (by omega) aR (hsh.uZ i),el i ab])
def encA(r:b7):atW×Int:=bif !hT r then([],1)else bif decide (16384<(((kr (kR r)).length:Nat):Int)) then([],2) else(kr (kR r),0)
end
def arN(A:List bn)(a:Int):(je A a).Rows.length=A.length:=by unfold je;simp
def MC{A:List bn}{a:Int}{i:Nat}(hi:i<A.length):(je A a).Rows.getD i default=⟨(A.getD i default).Key,[⟨a,(A.getD i default).bA⟩]⟩:=by
 unfold je;simp only [List.getD_eq_getElem?_getD,List.getElem?_map,List.getElem?_eq_getElem hi,Option.map_some,Option.getD_some]
def arO{A:List bn}{a:Int}(h:mb A=true)(h0:0≤a)(Z:a≤1099511627776)(ab:A.length≤1000000000):lh (je A a)=true:=by
 unfold mb xt at h;simp only [Bool.and_eq_true,ig]at h;obtain⟨aa,aj⟩:=h;unfold lh;rw [Bool.and_eq_true,ig,arN];refine⟨?_,λi hi=>?_⟩
 ·show(!((decide (a<0)||decide (a<a))||decide (1099511627776<a)))=true
  rw [decide_eq_false (show¬ a<0 by omega),decide_eq_false (show¬ a<a by omega),decide_eq_false (show¬ 1099511627776<a by omega)];rfl
 ·obtain⟨⟨aZ,a2⟩,a3⟩:=aa i hi;have a4:=aj i hi;rw [Bool.and_eq_true,Bool.and_eq_true];refine⟨⟨by rw [MC hi];exact aZ,?_⟩,?_⟩
  ·cases i with
   |zero=>simp
   |succ i=>
    rw [Uo i (by omega)]at a3 ⊢
    rw [MC (show i<A.length by omega),MC hi]
    exact a3
  ·rw [MC hi];show pu ⟨(A.getD i default).Key,[⟨a,(A.getD i default).bA⟩]⟩ a a=true
   generalize A.getD i default=p at a2 a4
   unfold pu;rw [Bool.and_eq_true,ig];refine⟨?_,λk hk=>?_⟩
   ·show(!(false||decide (p.bA.Kind=0)))=true
    rw [Bool.false_or];exact a4
   ·obtain rfl:k=0:=by
     have:k<1:=hk
     omega
    have e:tc ⟨p.Key,[⟨a,p.bA⟩]⟩ a a 0=(((!decide (a<a) && !decide (a<a))&&jb p.bA)&&true):=by
     unfold tc;rw [show decide (0<((0:Nat):Int))=false from decide_eq_false (by omega),Bool.false_and];rfl
    rw [e,a2,decide_eq_false (atS a)];rfl
abbrev oM(r:b7):b7:=⟨r.Pos,je (fr r.aB.Rows) r.Pos,r.cq,r.c6,r.Place,r.bi,r.Queue,r.dA⟩
def arP{l:List Row}{p:bn}(h:p∈fr l):p.bA.Kind≠0:=by
 obtain⟨r,_,e,k⟩:=FV _ _ h;rw [e];exact k
def Vd{r:b7}(hs:hT r=true)(hp:th (kR r))(ab:(fr r.aB.Rows).length≤1000000000):hT (oM r)=true:=by
 unfold hT at hs ⊢;simp only [Bool.and_eq_true,decide_eq_true_eq]at hs ⊢;obtain⟨⟨⟨⟨⟨⟨⟨⟨Z,aa⟩,aj⟩,aC⟩,aT⟩,bQ⟩,cK⟩,di⟩,el⟩:=hs;exact⟨⟨⟨⟨⟨⟨⟨⟨Z,aa⟩,arO hp.lk.2 Z aa ab⟩,rfl⟩,aT⟩,bQ⟩,cK⟩,di⟩,el⟩
def Ve{n:Nat}(hn:2000≤n){r:b7}(h:tg n r)(hp:th (kR r))(ab:(fr r.aB.Rows).length<n):tg n (oM r):=
 ⟨ap4 hn ab hp.lk.1.2 r.Pos,h.Bj,h.lk,h.uY,h.oJ,h.pl,h.Bk,h.aF,h.kv,h.py,h.uZ⟩
def arQ{n:Nat}(hn:3000000≤n)(l:List bc)(ab:l.length≤1000)(h:∀p∈l,nZ p)(hs:∀p∈l,gU p≠[]∧(gU p).length≤16384):zA n (l.map gU)=some (l,true):=by
 have key:∀(m i:Nat),l.length<i+m→i≤l.length→zz n (l.map gU) m (i:Int) (l.take i)=some (l,true):=by
  intro m;induction m with
  |zero=>intro i Z aa;omega
  |succ m aH=>
   intro i Z aa;have ad3:(l.map gU).length=l.length:=List.length_map ..;by_cases hi:i<l.length
   ·have hx:=Mb (l:=l) hi;have g1:=h _ hx;obtain⟨g2,g3⟩:=hs _ hx
    have g4:(l.map gU).getD i default=gU (l.getD i default):=by
     simp only [List.getD_eq_getElem?_getD,List.getElem?_map,List.getElem?_eq_getElem hi,Option.map_some,Option.getD_some]
    have aw:mB (l.getD i default)=0:=by
     by_cases e:mB (l.getD i default)=0
     ·exact e
     ·exact absurd (show gU (l.getD i default)=[]by unfold gU;rw [if_neg e]) g2
    have g5:gU (l.getD i default)=kP (l.getD i default):=by unfold gU;rw [if_pos aw]
    have e1:DR n (gU (l.getD i default))=some (l.getD i default,0,0):=by
     rw [g5];exact anT g1.i aw hn g1.f g1.b (by rw [←g5];exact g3)
    have gm:room ((l.take i).length+1) 64=true:=lg (by rw [List.length_take];omega)
    simp only [zz,Jk,atO,ad3,hi,atF,atH,bI hi,aL,atN,g4,e1,al,atQ,gm,bv (show i≤4611686018427387904 by omega),atT,atJ,atK,atI,UI g1 hn]
    have:=aH (i+1) (by omega) (by omega)
    rw [show l.take (i+1)=l.take i++[l.getD i default]by rw [List.take_add,e8 l i default hi,List.take_succ_cons,List.take_zero]]at this
    exact this
   ·obtain rfl:i=l.length:=by omega
    simp only [zz,Jk,QO,ad3,atS,atG,atI,List.take_length]
 unfold zA;exact key n 0 (by omega) (by omega)
section
variable {n:Nat} (hn:3000000≤n) (aR:n≤1000000000) {r:b7} (aW:xG r) (hi:tk r)
include hn aR aW hi
theorem arR(hs:hT r=true):zA n (r.cq.map gU)=some (r.cq,true):=by
 have hsh:=aW.ch hi hn;have oa:=aW.pl;refine arQ hn _ (by omega) (n2 λi _=>hsh.lk i) (n2 (P:=λp:bc=>gU p≠[]∧(gU p).length≤16384) λi ab=>?_)
 unfold hT tf at hs;simp only [Bool.and_eq_true,decide_eq_true_eq,ig]at hs;have:=(hs.1.1.1.1.2.1 i ab).1
 simp only [Bool.not_eq_true',Bool.or_eq_false_iff,decide_eq_false_iff_not]at this;exact⟨this.1,by omega⟩
theorem ad4(hs:hT r=true):DS n (kr (kR r))=some (oM r,0):=by
 have hsh:=aW.ch hi hn;have Br:=aW.u1;have ru:=u2 r.aB.Rows;obtain⟨hp,ab⟩:=FX hn aR aW hi hs;have ol:=Vd hs hp (by omega)
 have Bt:=Ve (n:=n) (by omega) hsh hp (by omega)
 have arS:zA n (kR r).2.2.1=some (r.cq,true):=arR hn aR aW hi hs;have l4:=hs;unfold hT at l4;simp only [Bool.and_eq_true,decide_eq_true_eq]at l4;obtain⟨⟨⟨⟨⟨⟨⟨⟨Z,aa⟩,aj⟩,aC⟩,aT⟩,bQ⟩,cK⟩,di⟩,el⟩:=l4
 have hd:Ms (kr (kR r)) = .ok (kR r,[]):=by
  have:=apM.rt (kR r) [] hp
  rwa [List.append_nil]at this
 have ai:=ap2 hn aR (s:=kr (kR r)) (by omega)
 rw [hd]at ai;simp only at ai
 have e1:bo (kr (kR r)) []=(((kr (kR r)).length:Nat):Int):=(ap6 (List.nil_suffix)).2 rfl
 have arT:zC n (kR r).2.1 (kR r).1=some (je (fr r.aB.Rows) r.Pos,0):=by
  show zC n (fr r.aB.Rows) r.Pos=_
  rw [ao6 (l:=fr r.aB.Rows) (by omega) aR (by omega) (Uw hp.lk.1.2)]
  unfold Bd;rw [show mb (fr r.aB.Rows)=true from hp.lk.2,decide_eq_false (show¬ r.Pos<0 by omega),decide_eq_false (show¬ 1099511627776<r.Pos by omega)];rfl
 unfold DS;rw [ai,al];simp only [atF,atJ,atI,dt,e1];rw [decide_eq_false (show¬ (kR r).1<0 from show¬ r.Pos<0 by omega),decide_eq_false (show¬ 1099511627776<(kR r).1 from show¬ 1099511627776<r.Pos by omega)]
 simp only [Bool.or_self,atI];rw [arS,al];simp only [atJ,atI];rw [arT,al];simp only [atF,atJ,atI];refine(congrArg (λx=>Option.bind x _) (UK hn aR Bt)).trans ?_
 rw [ol];rfl
end
def Bu(r:b7):b7×Int:=bif !hT r then(ade,1) else(oM r,0)
section
variable {n:Nat} (hn:3000000≤n) (aR:n≤1000000000) {r:b7} (aW:xG r) (hi:tk r)
include hn aR aW hi
theorem arU:As n r=some (Bu r):=by
 have hsh:=aW.ch hi hn;unfold As Bu;rw [UK hn aR hsh,al];cases hs:hT r
 ·rfl
 ·simp only [atJ,atI];rw [arM hn aR aW hi hs,al,ad4 hn aR aW hi hs];rfl
theorem arV(hs:hT r=true):Eu n (fr r.aB.Rows) r.Pos=some (je (fr r.aB.Rows) r.Pos,0):=by
 have hsh:=aW.ch hi hn;have Br:=aW.u1;have ru:=u2 r.aB.Rows;obtain⟨hp,ab⟩:=FX hn aR aW hi hs;have l4:=hs;unfold hT at l4;simp only [Bool.and_eq_true,decide_eq_true_eq]at l4;obtain⟨⟨⟨⟨⟨⟨⟨⟨Z,aa⟩,aj⟩,aC⟩,aT⟩,bQ⟩,cK⟩,di⟩,el⟩:=l4;rw [ao7 (l:=fr r.aB.Rows) (by omega) aR (by omega) (Uw hp.lk.1.2)]
 unfold Bd;rw [show mb (fr r.aB.Rows)=true from hp.lk.2,decide_eq_false (show¬ r.Pos<0 by omega),decide_eq_false (show¬ 1099511627776<r.Pos by omega)];rfl
theorem arW:K0 n r=some (Bu r):=by
 have hsh:=aW.ch hi hn;have Br:=aW.u1;unfold K0 Bu;rw [apB hn aR hsh,al];cases hs:hT r
 ·rfl
 ·obtain⟨Bs,Vb,Vc⟩:=ad2 hn aR aW hi hs
  have aj:lh r.aB=true:=by
   unfold hT at hs;simp only [Bool.and_eq_true,decide_eq_true_eq]at hs;exact hs.1.1.1.1.1.1.2
  simp only [atJ,atI];rw [aqC (by omega) (by omega) Bs Vb Vc (by rw [acO (by omega) aR hsh.st,aj]),al]
  rw [arV hn aR aW hi hs,al]
theorem arX(hs:hT r=true):sE n (oM r)=some (kr (kR r)):=by
 have hsh:=aW.ch hi hn;have Br:=aW.u1;have oa:=aW.pl;have ru:=u2 r.aB.Rows;obtain⟨hp,ab⟩:=FX hn aR aW hi hs;have ol:=Vd hs hp (by omega)
 have Bt:=Ve (n:=n) (by omega) hsh hp (by omega)
 have aj:lh (oM r).aB=true:=by
  unfold hT at ol;simp only [Bool.and_eq_true,decide_eq_true_eq]at ol;exact ol.1.1.1.1.1.1.2
 have l4:=hs;unfold hT xC at l4;simp only [Bool.and_eq_true,decide_eq_true_eq,ig]at l4;obtain⟨⟨⟨⟨⟨⟨⟨⟨Z,aa⟩,_⟩,aC⟩,aT⟩,bQ⟩,cK⟩,di⟩,el,gF⟩:=l4
 exact adl (r:=oM r) (A:=fr r.aB.Rows) hn aR hp ab (n2 λi _=>hsh.lk i) (by show r.cq.length≤1000;omega)
  (aqb (by omega) (by omega) (by omega) (λi ab=>arP (Mb ab)) (by rw [show je (fr r.aB.Rows) r.Pos=(oM r).aB from rfl,Uu (by omega) aR Bt.st,aj]))
  (by show sD n r.c6=some true;rw [Ma (by omega) aR hsh.uY hsh.oJ,bQ]) (n2 (P:=λq:Request=>ot n q=some 0) λi ab=>by rw [L' (by omega) aR (hsh.uZ i),el i ab])
theorem arY(hs:hT r=true):tg n (oM r)∧rh n (oM r)=some true∧As n (oM r)=some (oM r,0):=by
 have hsh:=aW.ch hi hn;have Br:=aW.u1;have ru:=u2 r.aB.Rows;obtain⟨hp,ab⟩:=FX hn aR aW hi hs;have ol:=Vd hs hp (by omega)
 have Bt:=Ve (n:=n) (by omega) hsh hp (by omega)
 have e1:rh n (oM r)=some true:=by rw [UK hn aR Bt,ol]
 refine⟨Bt,e1,?_⟩
 unfold As;rw [e1,al];simp only [atJ,atI];rw [arX hn aR aW hi hs,al,ad4 hn aR aW hi hs];rfl
end
def arZ{n:Nat}(hn:3000000≤n)(aR:n≤1000000000){r:b7}(aW:xG r)(hi:tk r):tg n (Bu r).1:=by
 unfold Bu;cases hs:hT r
 ·exact UN (by omega)
 ·exact(arY hn aR aW hi hs).1
def ar0(r:b7)(hi:tk r):SF 10000000 r=some true:=by
 unfold SF
 (try rw [FT])
 rcases aqx (n:=10000000) (by omega) r hi.adW.2 with h|⟨aW,h⟩
 ·rw [h,al];simp only [atK,atH];rw [adg];rfl
 ·rw [h,al];simp only [atJ,atI];rw [arU (by omega) (by omega) aW hi,arW (by omega) (by omega) aW hi]
  simp only [al];rw [apL (by omega) (by omega) (arZ (by omega) (by omega) aW hi)]
  simp only [al,atF,atH,adg]
end Go.Ab.Y

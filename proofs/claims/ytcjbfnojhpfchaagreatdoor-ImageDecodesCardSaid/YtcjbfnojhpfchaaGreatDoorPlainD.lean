/- The plain law: what the functions compute answers as the statement says. -/
import Derived.Test.YtcjbfnojhpfchaaGreatDoorPlainC
set_option linter.all false
namespace Go.Ab.Y
open Go Go.Ab Go.Proofs
def pI:eB Outcome:=eX (λp=>⟨p.1,p.2.1,p.2.2⟩) (dF (jm 0 9999) λ_=>dF (jm 0 9999) λ_=>gX 16 i8)
def Vc(o:Outcome):arY:=l2 o.Status++(l2 o.Code++jl ci o.Out)
def MK(o:Outcome):Prop:=(0≤o.Status∧o.Status≤9999)∧(0≤o.Code∧o.Code≤9999)∧o.Out.length≤16∧∀v∈o.Out,ve v
def n99:ej (jm 0 9999) l2 (λz=>0≤z∧z≤9999):=F9 (by omega) (by omega)
def Vd:ej (jm 1 32) l2 (λz=>1≤z∧z≤32):=F9 (by omega) (by omega)
def ML:ej (jm 1 1099511627776) l2 (λz=>1≤z∧z≤1099511627776):=F9 (by omega) (by omega)
def Gq(k:Nat)(hk:k<18446744073709551616):ej (gX k i8) (jl ci) (λl=>l.length≤k∧∀v∈l,ve v):=n3.vd _ hk (λv _=>aoE v)
def Gr:ej pI Vc MK:=
 (n99.dep λ_ _=>n99.dep λ_ _=>Gq 16 (by omega)).map (λp=>(⟨p.1,p.2.1,p.2.2⟩:Outcome)) (λo:Outcome=>(o.Status,o.Code,o.Out)) MK Vc
  (λb h=>⟨rfl,⟨h.1,h.2.1,h.2.2⟩,rfl⟩) (λa h=>⟨rfl,⟨h.1,h.2.1,h.2.2⟩⟩)
def x5(c nx k:Int)(l:List Outcome):List dS:=(l.zipIdx 0).map λp=>⟨c,ar0 (nx-ar0 (k-(p.2:Int))),p.1⟩
def MM(c nx k:Int)(l:List Outcome):(x5 c nx k l).map (·.Outcome)=l:=by
 unfold x5;rw [List.map_map];exact rK l 0
def Ve{nx:Int}(h:1≤nx∧nx≤1099511627776):0≤l3 nx∧l3 nx≤8∧l3 nx≤nx-1:=by
 unfold l3;rw [wr (x:=nx-1) (by omega) (by omega)]
 by_cases ek:nx-1<8
 ·rw [decide_eq_true ek,arJ];omega
 ·rw [decide_eq_false ek,arK];omega
def oU:eB bH:=eX (λp=>⟨p.1,p.2.1,x5 p.1 p.2.1 (l3 p.2.1) p.2.2⟩) (dF (jm 1 32) λ_=>dF (jm 1 1099511627776) λnx=>fV pI (l3 nx).toNat)
def Bu(s:bH):arY:=l2 s.Client++(l2 s.Next++ti Vc (s.cK.map (·.Outcome)))
def x6(s:bH):Prop:=(1≤s.Client∧s.Client≤32)∧(1≤s.Next∧s.Next≤1099511627776)∧s.cK=x5 s.Client s.Next (l3 s.Next) (s.cK.map (·.Outcome))∧(s.cK.map (·.Outcome)).length=(l3 s.Next).toNat∧∀o∈s.cK.map (·.Outcome),MK o
def x7:ej oU Bu x6:=
 (Vd.dep λ_ _=>ML.dep λnx _=>Gr.rep (l3 nx).toNat).map (λp=>(⟨p.1,p.2.1,x5 p.1 p.2.1 (l3 p.2.1) p.2.2⟩:bH)) (λs:bH=>(s.Client,s.Next,s.cK.map (·.Outcome))) x6 Bu
  (λb h=>⟨by simp only;rw [←h.2.2.1],⟨h.1,h.2.1,h.2.2.2.1,h.2.2.2.2⟩,rfl⟩) (λa h=>⟨by simp only [MM],⟨h.1,h.2.1,by simp only [MM],by simp only [MM];exact h.2.2.1,by simp only [MM];exact h.2.2.2⟩⟩)
def pJ:eB (List bH):=jP n5 5 (gX 32 oU)
def apj:ej (gX 32 oU) (jl Bu) (λl=>l.length≤32∧∀v∈l,x6 v):=x7.vd _ (by omega) (λv _=>by unfold Bu l2;simp [rD])
def x8:ej pJ (jl Bu) (λl=>(l.length≤32∧∀v∈l,x6 v)∧n5 l=true):=apj.chk _ _ (by omega)
def adi{n:Nat}(hn:2000≤n){o:Outcome}(h:MK o):Bq n o:=
 ⟨by have:=h.2.2.1;omega,λi=>oT (P:=λv:bk=>v.S.length≤1000) (λx hx=>by have:=Va (h.2.2.2 x hx);omega) (by show([]:arY).length≤1000;simp) i⟩
def apk{n:Nat}(hn:2000≤n){s:bH}(h:x6 s):rG n s:=by
 have hk:=Ve h.2.1;have ae:s.cK.length=(l3 s.Next).toNat:=by have:=h.2.2.2.1;simpa using this
 refine⟨by omega,λi=>oT (P:=λr:dS=>Bq n r.Outcome) (λx hx=>adi hn (h.2.2.2.2 _ (List.mem_map_of_mem hx))) ?_ i⟩
 refine adi hn ?_;refine⟨by show(0:Int)≤0∧(0:Int)≤9999;omega,by show(0:Int)≤0∧(0:Int)≤9999;omega,by show([]:List bk).length≤16;simp,λv ax=>by cases ax⟩
def MN{n:Nat}(hn:2000≤n){l:List bH}(h:∀s∈l,x6 s)(i:Nat):rG n (l.getD i default):=by
 refine oT (P:=rG n) (λx hx=>apk hn (h x hx)) ⟨by show([]:List dS).length<n;simp;omega,λi=>⟨?_,λi=>?_⟩⟩ i
 ·show((([]:List dS).getD i default).Outcome).Out.length<n
  show([]:List bk).length<n
  simp;omega
 ·show((((([]:List dS).getD _ default).Outcome).Out).getD i default).S.length≤1000
  show([]:arY).length≤1000
  simp
section
variable {n:Nat} (hn:2000≤n) (aY:n≤1000000000) {s:arY} (hs:s.length<n)
theorem adj{lo hi a e:Int}(he:e≠0):sB n lo hi ⟨s,a,e⟩=some (0,a,e):=by
 unfold sB;simp only [dh he,arJ]
include hn aY hs
theorem MO{lo hi:Int}(h0:0≤lo)(Z:hi≤9223372036854775807){t:arY}(aA:t <:+ s):sB n lo hi ⟨s,aT s t,0⟩=some (match jm lo hi t with|.ok (v,bq)=>(v,aT s bq,0)|.error e=>(0,aT s t,e)):=by
 unfold sB jm jP;simp only [arH,arL,arK];rw [Bo aA (by omega) (by omega),an]
 cases h:gK t with
 |error e=>
  have he:¬ e=0:=ir.bZ _ _ h;rw [b9];simp only [he,arI,arK,zy,arM,arJ]
 |ok r=>
  obtain⟨u,bq⟩:=r;have hu:=(ir.eN _ _ _ h).2;unfold jk at hu;rw [cR];simp only [arH,arJ];by_cases hb:lo≤u∧u≤hi
  ·simp only [show¬ u<lo by omega,show¬ hi<u by omega,hb.1,hb.2,arH,arI,arK,Bool.and_self,arW,zy,arL,wr (x:=u) (by omega) (by omega)]
  ·have:(bif (decide (u<lo))then true else(decide (hi<u)))=true:=by
    rw [dJ,←Bool.decide_or];exact decide_eq_true (by omega)
   have ab:(decide (lo≤u)&&decide (u≤hi))=false:=by
    rw [←Bool.decide_and];exact decide_eq_false hb
   simp only [this,arJ,ab,Bool.false_eq_true,arX,zy,show¬ (5:Int)=0 by omega,arI,arM]
theorem apl{t:arY}(aA:t <:+ s):match pI t with|.ok (o,bq)=>Dp n ⟨s,aT s t,0⟩=some (o,aT s bq,0)|.error e=>kp e (Dp n ⟨s,aT s t,0⟩):=by
 unfold Dp pI eX dF;rw [MO hn aY hs (by omega) (by omega) aA,an]
 cases g1:jm 0 9999 t with
 |error e=>
  have he:=n99.bZ _ _ g1;simp only [adj he,an];rw [show(!decide (e=0))=true from dh he]
  exact⟨_,_,rfl⟩
 |ok r=>
  obtain⟨dk,t1⟩:=r;have gr:=eH n99 g1 aA;simp only
  rw [MO hn aY hs (by omega) (by omega) gr,an]
  cases g2:jm 0 9999 t1 with
  |error e=>
   have he:=n99.bZ _ _ g2;simp only
   rw [show(!decide (e=0))=true from dh he]
   exact⟨_,_,rfl⟩
  |ok r=>
   obtain⟨ec,t2⟩:=r;have gh:=eH n99 g2 gr;simp only [arH,arL,arK];rw [show(16:Int)=((16:Nat):Int)from rfl,vg gh (by omega) (by omega) (by omega),an]
   unfold gX;obtain⟨lF,rfl⟩:∃k,n=k+1:=⟨n-1,by omega⟩
   cases h:gW 16 t2 with
   |error e=>
    have he:=k9 h;rw [lE h,b9];simp only [uq,zz,arU,arI,arK,Do];exact⟨_,_,rfl⟩
   |ok r=>
    obtain⟨u,bq⟩:=r;obtain⟨Z,ab,aq⟩:=kL h;have dd:bq <:+ s:=List.IsSuffix.trans ⟨gF u,Z.symm⟩ gh;have hu:=dd.length_le;rw [lD h,cR];generalize aT s t=A
    have cO:=rJ (L:=λm i t acc=>uq (lF+1) ((u:Int),aT s bq,0) ⟨s,A,0⟩ (dk,aT s t1,0) (ec,aT s t2,0) m (aT s t) 0 acc (i:Int)) (f:=λ_ v=>v) (D:=i8) (u:=u) (s:=s) (fin:=λacc t=>some (⟨dk,ec,acc⟩,aT s t,0)) (bad:=λe x=>kp e x) (λx v t hx=>n3.hZ hx) (by
     intro m i t acc hm hi ha aA;simp only [uq,zz,arQ,hi,arH,arJ];rw [U4 aA (by omega) (by omega),an]
     have fI:room (acc.length+1) 32=true:=i_ (by omega)
     cases g3:i8 t with
     |error e=>
      have he:¬ e=0:=n3.bZ _ _ g3;rw [b9];simp only [arS,fI,a6];obtain⟨m,rfl⟩:∃j,m=j+1:=⟨m-1,by omega⟩
      simp only [uq,zz,he,arI,dV,Bool.and_false,arK,Do];exact⟨_,_,rfl⟩
     |ok r=>
      obtain⟨v,t3⟩:=r;rw [cR];simp only [arS,fI,a6];rw [bx (by omega)]) (by
     intro m t acc ha aA;simp only [uq,zz,arU,arI,arK,Do]) u (lF+1) 0 bq [] (by omega) (by omega) rfl dd
    cases ai:fV i8 u bq with
    |error e=>rw [ai]at cO;simp only [ai]at cO ⊢;exact cO
    |ok r=>
     obtain⟨l,jR⟩:=r;rw [ai]at cO;simp only [List.nil_append,rK,ai]at cO ⊢;exact cO
theorem apm{t:arY}(aA:t <:+ s):match oU t with|.ok (o,bq)=>Dr n ⟨s,aT s t,0⟩=some (o,aT s bq,0)|.error e=>kp e (Dr n ⟨s,aT s t,0⟩):=by
 unfold Dr oU eX dF;rw [MO hn aY hs (by omega) (by omega) aA,an]
 cases g1:jm 1 32 t with
 |error e=>
  have he:=Vd.bZ _ _ g1;simp only [adj he,an];rw [show(!decide (e=0))=true from dh he]
  exact⟨_,_,rfl⟩
 |ok r=>
  obtain⟨dk,t1⟩:=r;have gr:=eH Vd g1 aA;simp only
  rw [MO hn aY hs (by omega) (by omega) gr,an]
  cases g2:jm 1 1099511627776 t1 with
  |error e=>
   have he:=ML.bZ _ _ g2;simp only
   rw [show(!decide (e=0))=true from dh he]
   exact⟨_,_,rfl⟩
  |ok r=>
   obtain⟨ec,t2⟩:=r;have gh:=eH ML g2 gr;have mw:=(ML.eN _ _ _ g2).2;have hk:=Ve mw;simp only [arH,arL,arK];rw [show C_ n ec=some (l3 ec)from rfl,an]
   obtain⟨u,hu⟩:=Int.eq_ofNat_of_zero_le hk.1
   (rw [hu];simp only [arP])
   generalize aT s t=A
   have cO:=rJ (L:=λm i t acc=>wU n (u:Int) ⟨s,A,0⟩ (dk,aT s t1,0) (ec,aT s t2,0) m (aT s t) 0 acc (i:Int)) (f:=λi v=>(⟨dk,ar0 (ec-ar0 ((u:Int)-(i:Int))),v⟩:dS)) (D:=pI) (u:=u) (s:=s) (fin:=λacc t=>some (⟨dk,ec,acc⟩,aT s t,0)) (bad:=λe x=>kp e x) (λx v t hx=>Gr.hZ hx) (by
    intro m i t acc hm hi ha aA;have aw:=apl hn aY hs aA;simp only [wU,Dq,arQ,hi,arH,arJ];have fI:room (acc.length+1) 56=true:=i_ (by omega)
    cases g3:pI t with
    |error e=>
     have he:¬ e=0:=Gr.bZ _ _ g3;rw [g3]at aw;obtain⟨v,a,aw⟩:=aw;rw [aw,an];simp only [arS,fI,a6];obtain⟨m,rfl⟩:∃j,m=j+1:=⟨m-1,by omega⟩
     simp only [wU,Dq,he,arI,dV,Bool.and_false,arK,I3];exact⟨_,_,rfl⟩
    |ok r=>
     obtain⟨v,t3⟩:=r;rw [g3]at aw;simp only at aw ⊢
     rw [aw,an];simp only [arS,fI,a6];rw [bx (by omega)]) (by
    intro m t acc ha aA;simp only [wU,Dq,arU,arI,arK,I3]) u n 0 t2 [] (by omega) (by omega) rfl gh
   cases ai:fV pI u t2 with
   |error e=>rw [ai]at cO;simp only [ai]at cO ⊢;exact cO
   |ok r=>
    obtain⟨l,jR⟩:=r;rw [ai]at cO;simp only [List.nil_append,ai]at cO ⊢;simp only [x5,hu];exact cO
theorem apn{t:arY}(aA:t <:+ s):I4 n s (aT s t)=some (res [] s (pJ t)):=by
 unfold I4 pJ jP gX;rw [show(32:Int)=((32:Nat):Int)from rfl,vg aA (by omega) (by omega) (by omega),an]
 cases h:gW 32 t with
 |error e=>rw [lE h,b9];simp only [dh (k9 h),arJ,b9]
 |ok r=>
  obtain⟨u,bq⟩:=r;obtain⟨Z,ab,aq⟩:=kL h;have dd:bq <:+ s:=List.IsSuffix.trans ⟨gF u,Z.symm⟩ aA;have hu:=dd.length_le;rw [lD h,cR];simp only [arH,arL,arK]
  have cO:=rJ (L:=λm i t acc=>wV n ((u:Int),aT s bq,0) s m (aT s t) 0 acc (i:Int)) (f:=λ_ v=>v) (D:=oU) (u:=u) (s:=s) (fin:=λacc t=>Ds n s (aT s t) 0 acc) (bad:=λe x=>x=some ([],0,e)) (λx v t hx=>x7.hZ hx) (by
   intro m i t acc hm hi ha aA;have aw:=apm hn aY hs aA;simp only [wV,Dt,arQ,hi,arH,arJ];have fI:room (acc.length+1) 40=true:=i_ (by omega)
   cases g3:oU t with
   |error e=>
    have he:¬ e=0:=x7.bZ _ _ g3;rw [g3]at aw;obtain⟨v,a,aw⟩:=aw;rw [aw,an];simp only [arS,fI,a6];obtain⟨m,rfl⟩:∃j,m=j+1:=⟨m-1,by omega⟩
    simp only [wV,Dt,he,arI,dV,Bool.and_false,arK,Ds,arM,arJ]
   |ok r=>
    obtain⟨v,t3⟩:=r;rw [g3]at aw;simp only at aw ⊢
    rw [aw,an];simp only [arS,fI,a6];rw [bx (by omega)]) (by
   intro m t acc ha aA;simp only [wV,Dt,arU,arI,arK]) u n 0 bq [] (by omega) (by omega) rfl dd
  cases ai:fV oU u bq with
  |error e=>rw [ai]at cO;simp only [ai]at cO ⊢;exact cO
  |ok r=>
   obtain⟨l,jR⟩:=r;rw [ai]at cO;simp only [List.nil_append,rK,ai]at cO ⊢;refine cO.trans ?_;obtain⟨g1,g2,g3⟩:=(x7.rep u).eN _ _ _ ai;simp only [Ds,arH,arL,arK];rw [ac8 hn aY (by omega) (MN hn g3),an]
   cases n5 l<;>rfl
theorem MP{hi:Int}(Z:hi≤9223372036854775807){t:arY}(aA:t <:+ s):xf n s (aT s t) hi=some (res 0 s (jm 0 hi t)):=by
 unfold xf jm jP;rw [tj aA (by omega) (by omega),an]
 cases h:gK t with
 |error e=>rw [b9];simp only [dh (ir.bZ _ _ h),arJ,b9]
 |ok r=>
  obtain⟨u,bq⟩:=r;have hu:=(ir.eN _ _ _ h).2;unfold jk at hu;rw [cR];simp only [arH,arL,arK,hu.1,Bool.true_and];by_cases hb:u≤hi
  ·simp only [show¬ hi<u by omega,hb,arH,arI,arK,arW,wr (x:=u) (by omega) (by omega),cR]
  ·simp only [show hi<u by omega,hb,arH,arI,arJ];rfl
theorem apo{t:arY}(aA:t <:+ s):KW n s (aT s t)=some (res ⟨0,0,[]⟩ s (pI t)):=by
 unfold KW pI eX dF;rw [MP hn aY hs (by omega) aA,an]
 cases g1:jm 0 9999 t with
 |error e=>rw [b9];simp only [dh (n99.bZ _ _ g1),arJ,b9]
 |ok r=>
  obtain⟨dk,t1⟩:=r;have gr:=eH n99 g1 aA;rw [cR];simp only [arH,arL,arK];rw [MP hn aY hs (by omega) gr,an]
  cases g2:jm 0 9999 t1 with
  |error e=>rw [b9];simp only [dh (n99.bZ _ _ g2),arJ,b9]
  |ok r=>
   obtain⟨ec,t2⟩:=r;have gh:=eH n99 g2 gr;rw [cR];simp only [arH,arL,arK];rw [show(16:Int)=((16:Nat):Int)from rfl,tk gh (by omega) (by omega) (by omega),an]
   unfold gX;cases h:gW 16 t2 with
   |error e=>rw [lE h,b9];simp only [dh (k9 h),arJ,b9]
   |ok r=>
    obtain⟨u,bq⟩:=r;obtain⟨Z,ab,aq⟩:=kL h;have dd:bq <:+ s:=List.IsSuffix.trans ⟨gF u,Z.symm⟩ gh;have hu:=dd.length_le;rw [lD h,cR];simp only [arH,arL,arK];rw [show xg n s ((u:Int),aT s bq,0) (dk,aT s t1,0) (ec,aT s t2,0) n [] (aT s bq) 0=_ from tl (L:=λm i t acc=>xg n s ((u:Int),aT s bq,0) (dk,aT s t1,0) (ec,aT s t2,0) m acc (aT s t) (i:Int)) (D:=i8) (u:=u) (s:=s) (fin:=λacc t=>some (⟨dk,ec,acc⟩,aT s t,0)) (bad:=λe=>some (⟨0,0,[]⟩,0,e)) (λx v t hx=>n3.hZ hx) ?_ ?_ (by omega) dd]
    ·cases ai:fV i8 u bq with
     |error e=>rfl
     |ok r=>rfl
    ·intro m i t acc hi ha aA;simp only [xg,KV,arQ,hi,arH,arJ];rw [U5 aA (by omega) (by omega),an]
     cases aN:i8 t with
     |error e=>rw [b9];simp only [dh (n3.bZ _ _ aN),arJ]
     |ok r=>
      obtain⟨x,t1⟩:=r;rw [cR];simp only [arH,arL,arK,arS];rw [i_ (by omega),a6,bx (by omega)]
    ·intro m t acc ha aA;simp only [xg,KV,arU,arI,arK,SF]
omit hn aY hs in
theorem adk{lo hi:Int}(h0:0≤lo)(t:arY):jm lo hi t=match jm 0 hi t with|.ok (v,bq)=>if v<lo then .error 5 else .ok (v,bq)|.error e=>.error e:=by
 unfold jm jP;cases h:gK t with
 |error e=>rfl
 |ok r=>
  obtain⟨u,bq⟩:=r;have hu:=(ir.eN _ _ _ h).2;unfold jk at hu;simp only [hu.1,arH,Bool.true_and];by_cases Z:u≤hi
  ·by_cases ab:lo≤u
   ·simp only [Z,ab,arH,Bool.and_self,arW,show¬ u<lo by omega,arX]
   ·simp [Z,ab,show u<lo by omega]
  ·simp [Z]
theorem apq{t:arY}(aA:t <:+ s):KY n s (aT s t)=some (res ⟨0,0,[]⟩ s (oU t)):=by
 unfold KY oU eX dF;rw [MP hn aY hs (by omega) aA,an,adk (lo:=1) (hi:=32) (by omega)]
 have lF:ej (jm 0 32) l2 (λz=>0≤z∧z≤32):=F9 (by omega) (by omega)
 have Vf:ej (jm 0 1099511627776) l2 (λz=>0≤z∧z≤1099511627776):=F9 (by omega) (by omega)
 cases g1:jm 0 32 t with
 |error e=>
  have he:¬ e=0:=lF.bZ _ _ g1;rw [b9];simp only [he,arI,arK,Ay,arM,arJ,b9]
 |ok r=>
  obtain⟨dk,t1⟩:=r;have gr:=eH lF g1 aA;rw [cR];simp only [arH,arJ];by_cases hx:dk<1
  ·simp only [hx,arH,arJ,arW,Ay,show¬ (5:Int)=0 by omega,arI,arM,b9]
  ·simp only [hx,arI,arK,arX,Ay,arH,arL];rw [MP hn aY hs (by omega) gr,an,adk (lo:=1) (hi:=1099511627776) (by omega)]
   cases g2:jm 0 1099511627776 t1 with
   |error e=>
    have he:¬ e=0:=Vf.bZ _ _ g2;rw [b9];simp only [he,arI,arK,Ax,arM,arJ,b9]
   |ok r=>
    obtain⟨ec,t2⟩:=r;have gh:=eH Vf g2 gr;have mw:=(Vf.eN _ _ _ g2).2;rw [cR];simp only [arH,arJ];by_cases hx:ec<1
    ·simp only [hx,arH,arJ,arW,Ax,show¬ (5:Int)=0 by omega,arI,arM,b9]
    ·simp only [hx,arI,arK,arX,Ax,arH,arL];have hk:=Ve (nx:=ec) (by omega)
     rw [show Ea n ec=some (l3 ec)from rfl,an]
     obtain⟨u,hu⟩:=Int.eq_ofNat_of_zero_le hk.1
     (rw [hu];simp only [arP])
     have cO:=acR (L:=λm i t acc=>Aw n s (ec,aT s t2,0) (u:Int) (dk,aT s t1,0) m acc (aT s t) (i:Int)) (f:=λi v=>(⟨dk,ar0 (ec-ar0 ((u:Int)-(i:Int))),v⟩:dS)) (D:=pI) (u:=u) (s:=s) (fin:=λacc t=>some (⟨dk,ec,acc⟩,aT s t,0)) (bad:=λe=>some (⟨0,0,[]⟩,0,e)) (λx v t hx=>Gr.hZ hx) (by
      intro m i t acc hi ha aA;simp only [Aw,KX,arQ,hi,arH,arJ];rw [apo hn aY hs aA,an];cases aN:pI t with
      |error e=>rw [b9];simp only [dh (Gr.bZ _ _ aN),arJ]
      |ok r=>
       obtain⟨x,t1⟩:=r;rw [cR];simp only [arH,arL,arK,arS];rw [i_ (by omega),a6,bx (by omega)]) (by
      intro m t acc ha aA;simp only [Aw,KX,arU,arI,arK,SG]) u n 0 t2 [] (by omega) (by omega) rfl gh
     refine Eq.trans cO ?_;cases ai:fV pI u t2 with
     |error e=>simp only [ai,b9]
     |ok r=>
      obtain⟨l,jR⟩:=r;simp only [ai,List.nil_append,cR,x5,hu]
theorem adl{t:arY}(aA:t <:+ s):K1 n s (aT s t)=some (res [] s (pJ t)):=by
 unfold K1 pJ jP gX;rw [show(32:Int)=((32:Nat):Int)from rfl,tk aA (by omega) (by omega) (by omega),an]
 cases h:gW 32 t with
 |error e=>rw [lE h,b9];simp only [dh (k9 h),arJ,b9]
 |ok r=>
  obtain⟨u,bq⟩:=r;obtain⟨Z,ab,aq⟩:=kL h;have dd:bq <:+ s:=List.IsSuffix.trans ⟨gF u,Z.symm⟩ aA;have hu:=dd.length_le;rw [lD h,cR];simp only [arH,arL,arK];rw [show xh n s ((u:Int),aT s bq,0) n (aT s bq) 0 []=_ from tl (L:=λm i t acc=>xh n s ((u:Int),aT s bq,0) m (aT s t) (i:Int) acc) (D:=oU) (u:=u) (s:=s) (fin:=λacc t=>KZ n (aT s t) acc) (bad:=λe=>some ([],0,e)) (λx v t hx=>x7.hZ hx) ?_ ?_ (by omega) dd]
  ·cases ai:fV oU u bq with
   |error e=>rfl
   |ok r=>
    obtain⟨l,jR⟩:=r;obtain⟨g1,g2,g3⟩:=(x7.rep u).eN _ _ _ ai;simp only [KZ];rw [ac9 hn aY (by omega) (MN hn g3),an]
    cases n5 l<;>rfl
  ·intro m i t acc hi ha aA;simp only [xh,K0,arQ,hi,arH,arJ];rw [apq hn aY hs aA,an];cases aN:oU t with
   |error e=>rw [b9];simp only [dh (x7.bZ _ _ aN),arJ]
   |ok r=>
    obtain⟨x,t1⟩:=r;rw [cR];simp only [arH,arL,arK,arS];rw [i_ (by omega),a6,bx (by omega)]
  ·intro m t acc ha aA;simp only [xh,K0,arU,arI,arK]
end
abbrev kq:=List arY
def qE:eB kq:=gX 64 (eG 24)
def adm(s:arY):iq s≠[]:=by unfold iq;simp [rD]
def pK:ej qE (jl iq) (λl=>l.length≤64∧∀v∈l,v.length≤24):=jQ.vd _ (by omega) (λv _=>adm v)
def MQ(b:Bool):eB (kq×kq):=if b then dF qE λ_=>qE else UZ ([],[])
def adn(b:Bool)(p:kq×kq):arY:=if b then jl iq p.1++jl iq p.2 else[]
def Vg(b:Bool)(p:kq×kq):Prop:=if b then(p.1.length≤64∧∀v∈p.1,v.length≤24)∧(p.2.length≤64∧∀v∈p.2,v.length≤24)else p=([],[])
def apr:∀b,ej (MQ b) (adn b) (Vg b)
 |true=>pK.dep λ_ _=>pK
 |false=>acJ ([],[])
abbrev ado:=Int×Int×arY×List bk×Bool×(kq×kq)
def MR:eB ado:=dF gK λ_=>dF gK λ_=>dF (eG 16) λ_=>dF (gX 6 i8) λ_=>dF pC λb=>MQ b
def jn(p:ado):Request:=⟨p.1,p.2.1,p.2.2.1,p.2.2.2.1,p.2.2.2.2.1,⟨false,p.2.2.2.2.2.1,p.2.2.2.2.2.2⟩⟩
def rL(r:Request):Prop:=jk r.Client∧jk r.Seq∧r.a_.length≤16∧(r.au.length≤6∧∀v∈r.au,ve v)∧Vg r.ff (r.bD.Reads,r.bD.dw)∧r.bD.eg=false
def Bv(r:Request):arY:=l2 r.Client++(l2 r.Seq++(iq r.a_++(jl ci r.au++(UY r.ff++adn r.ff (r.bD.Reads,r.bD.dw)))))
def x9:ej (eG 16) iq (λs=>s.length≤16):=Bn 16 (by omega)
def aps:ej (eX jn MR) Bv rL:=
 (ir.dep λ_ _=>ir.dep λ_ _=>x9.dep λ_ _=>(Gq 6 (by omega)).dep λ_ _=>F8.dep λb _=>apr b).map jn (λr=>(r.Client,r.Seq,r.a_,r.au,r.ff,(r.bD.Reads,r.bD.dw))) rL Bv
  (λr h=>⟨by obtain⟨a,b,c,d,e,f,g,i⟩:=r;have:f=false:=h.2.2.2.2.2;subst this;rfl,⟨h.1,h.2.1,h.2.2.1,h.2.2.2.1,trivial,h.2.2.2.2.1⟩,rfl⟩) (λa h=>⟨rfl,⟨h.1,h.2.1,h.2.2.1,h.2.2.2.1,h.2.2.2.2.2,rfl⟩⟩)
def vp(r:Request):Bool:=(decide (r.Client≤32)&&decide (r.Seq≤1099511627776))&&decide (pF r=0)
def pL:eB Request:=jP vp 5 (eX jn MR)
def Gs:ej pL Bv (λr=>rL r∧vp r=true):=aps.chk _ _ (by omega)
def mO:eB (List Request):=gX 64 pL
def x':ej mO (jl Bv) (λl=>l.length≤64∧∀v∈l,rL v∧vp v=true):=Gs.vd _ (by omega) (λv _=>by unfold Bv l2;simp [rD])
def qF:eB (List bz):=gX 32 (eX (λp=>⟨p.1,p.2⟩) (dF (eG 24) λ_=>gG))
def Gt(h:bz):arY:=iq h.Key++qA h.Count
def MS:ej (eX (λp=>(⟨p.1,p.2⟩:bz)) (dF (eG 24) λ_=>gG)) Gt (λh=>h.Key.length≤24∧lC h.Count):=
 (jQ.dep λ_ _=>ht).map (λp=>(⟨p.1,p.2⟩:bz)) (λh:bz=>(h.Key,h.Count)) _ Gt (λb h=>⟨rfl,⟨h.1,h.2⟩,rfl⟩) (λa h=>⟨rfl,⟨h.1,h.2⟩⟩)
def MT:ej qF (jl Gt) (λl=>l.length≤32∧∀h∈l,h.Key.length≤24∧lC h.Count):=MS.vd _ (by omega) (λv _=>by unfold Gt iq;simp [rD])
def Bw:ej (eG 16384) iq (λs=>s.length≤16384):=Bn 16384 (by omega)
def x_:eB kq:=gX 16 (eG 16384)
def MU:ej x_ (jl iq) (λl=>l.length≤16∧∀s∈l,s.length≤16384):=Bw.vd _ (by omega) (λv _=>adm v)
def Bx{n:Nat}(hn:2000≤n){r:Request}(h:rL r):qC n r:=by
 have bn:=h.2.2.2.2.1
 have hk:(r.bD.Reads.length≤64∧∀v∈r.bD.Reads,v.length≤24)∧(r.bD.dw.length≤64∧∀v∈r.bD.dw,v.length≤24):=by
  unfold Vg at bn;cases hd:r.ff
  ·rw [hd]at bn;simp only [Bool.false_eq_true,arX,Prod.mk.injEq]at bn;rw [bn.1,bn.2];simp
  ·rw [hd]at bn;exact bn
 have hd:∀l:kq,(∀v∈l,v.length≤24)→∀i,(l.getD i default).length≤1000:=λl ae i=>oT (P:=λv:arY=>v.length≤1000) (λx hx=>by have:=ae x hx;omega) (by show([]:arY).length≤1000;simp) i
 exact⟨by have:=h.2.2.1;omega,by have:=h.2.2.2.1.1;omega,λi=>oT (P:=λv:bk=>v.S.length≤1000) (λx hx=>by have:=Va (h.2.2.2.1.2 x hx);omega) (by show([]:arY).length≤1000;simp) i,by have:=hk.1.1;omega,by have:=hk.2.1;omega,hd _ hk.1.2,hd _ hk.2.2⟩
abbrev ya:Request:=⟨0,0,[],[],false,⟨false,[],[]⟩⟩
section
variable {n:Nat} (hn:2000≤n) (aY:n≤1000000000) {s:arY} (hs:s.length<n)
theorem Vh{a e:Int}(he:e≠0):wS n ⟨s,a,e⟩=some (0,a,e):=by unfold wS;simp only [dh he,arJ]
theorem MV{k a e:Int}(he:e≠0):wQ n k ⟨s,a,e⟩=some (0,a,e):=by unfold wQ;simp only [dh he,arJ]
theorem apt{a e:Int}(he:e≠0):zr n ⟨s,a,e⟩=some (false,a,e):=by unfold zr;simp only [dh he,arJ]
theorem MW{k a e:Int}(he:e≠0):wR n k ⟨s,a,e⟩=some ([],a,e):=by unfold wR;simp only [dh he,arJ]
theorem apu{a e:Int}(he:e≠0):zu n ⟨s,a,e⟩=some (⟨0,0,[]⟩,a,e):=by unfold zu;simp only [dh he,arJ]
include hn aY hs
theorem adp{t:arY}(aA:t <:+ s):wS n ⟨s,aT s t,0⟩=some (res 0 s (gK t)):=by
 unfold wS qf;simp only [arH,arL,arK];rw [Bo aA (by omega) (by omega),an,an]
theorem adq{k:Nat}(hk:k≤1000){t:arY}(aA:t <:+ s):wQ n (k:Int) ⟨s,aT s t,0⟩=some (res 0 s (pD k t)):=by
 unfold wQ qf;simp only [arH,arL,arK];rw [vg aA (by omega) (by omega) (by omega),an,an]
theorem apv{t:arY}(aA:t <:+ s):zr n ⟨s,aT s t,0⟩=some (res false s (pC t)):=by
 unfold zr qf;simp only [arH,arL,arK];rw [aoR aA (by omega),an,an]
theorem adr{k:Nat}(hk:k≤1000){t:arY}(aA:t <:+ s):wR n (k:Int) ⟨s,aT s t,0⟩=some (res [] s (eG k t)):=by
 unfold wR qf;simp only [arH,arL,arK];rw [Ga aA (by omega) (by omega) (by omega),an,an]
theorem apw{t:arY}(aA:t <:+ s):zu n ⟨s,aT s t,0⟩=some (res ⟨0,0,[]⟩ s (i8 t)):=by
 unfold zu qf;simp only [arH,arL,arK];rw [U4 aA (by omega) (by omega),an,an]
theorem Vi{u:Nat}(hu:u<n){b c:Int}{B:h4}(eR:B.s=s):∀(k m i:Nat) (a e:Int) (acc:kq),e≠0→i+k=u→k<m→acc.length=i→kp e (sy n ((u:Int),b,c) B m a e acc (i:Int)):=by
 intro k;induction k with
 |zero=>
  intro m i a e acc he hi hm ha;obtain⟨m,rfl⟩:∃j,m=j+1:=⟨m-1,by omega⟩
  obtain rfl:i=u:=by omega
  simp only [sy,zt,arU,arI,arK,IZ];exact⟨_,_,rfl⟩
 |succ k aR=>
  intro m i a e acc he hi hm ha;obtain⟨m,rfl⟩:∃j,m=j+1:=⟨m-1,by omega⟩
  simp only [sy,zt,arQ,show i<u by omega,arH,arJ,MW he,an,arS]
  rw [i_ (by omega),a6,bx (by omega)]
  exact aR m (i+1) a e _ he (by omega) (by omega) (by simp [ha])
theorem ads{t:arY}(aA:t <:+ s):match qE t with|.ok (l,bq)=>uo n ⟨s,aT s t,0⟩=some (l,aT s bq,0)|.error e=>kp e (uo n ⟨s,aT s t,0⟩):=by
 unfold uo qE gX;rw [show(64:Int)=((64:Nat):Int)from rfl,adq hn aY hs (by omega) aA,an]
 generalize aT s t=A
 cases h:gW 64 t with
 |error e=>
  rw [lE h,b9];exact Vi hn aY hs (u:=0) (by omega) (B:=⟨s,A,0⟩) rfl 0 n 0 0 e [] (k9 h) rfl (by omega) rfl
 |ok r=>
  obtain⟨u,bq⟩:=r;obtain⟨Z,ab,aq⟩:=kL h;have dd:bq <:+ s:=List.IsSuffix.trans ⟨gF u,Z.symm⟩ aA;have hu:=dd.length_le;rw [lD h,cR]
  have cO:=rJ (L:=λm i t acc=>sy n ((u:Int),aT s bq,0) ⟨s,A,0⟩ m (aT s t) 0 acc (i:Int)) (f:=λ_ v=>v) (D:=eG 24) (u:=u) (s:=s) (fin:=λacc t=>some (acc,aT s t,0)) (bad:=λe x=>kp e x) (λx v t hx=>jQ.hZ hx) (by
   intro m i t acc hm hi ha aA;simp only [sy,zt,arQ,hi,arH,arJ];rw [show(24:Int)=((24:Nat):Int)from rfl,adr hn aY hs (by omega) aA,an]
   have fI:room (acc.length+1) 16=true:=i_ (by omega)
   cases g3:eG 24 t with
   |error e=>
    have he:=jQ.bZ _ _ g3;rw [b9];simp only [arS,fI,a6];rw [bx (by omega)]
    exact Vi hn aY hs (by omega) (B:=⟨s,A,0⟩) rfl (u-(i+1)) m (i+1) _ e _ he (by omega) (by omega) (by simp [ha])
   |ok r=>
    obtain⟨v,t3⟩:=r;rw [cR];simp only [arS,fI,a6];rw [bx (by omega)]) (by
   intro m t acc ha aA;simp only [sy,zt,arU,arI,arK,IZ]) u n 0 bq [] (by omega) (by omega) rfl dd
  cases ai:fV (eG 24) u bq with
  |error e=>rw [ai]at cO;simp only [ai]at cO ⊢;exact cO
  |ok r=>
   obtain⟨l,jR⟩:=r;rw [ai]at cO;simp only [List.nil_append,rK,ai]at cO ⊢;exact cO
theorem apx{a e:Int}(he:e≠0):kp e (uo n ⟨s,a,e⟩):=by
 unfold uo;rw [MV he,an];exact Vi hn aY hs (u:=0) (by omega) (B:=⟨s,a,e⟩) rfl 0 n 0 a e [] he rfl (by omega) rfl
theorem apy{r1 r2:Int×Int×Int}{r3:arY×Int×Int}{a e:Int}{l:List bk}(he:e≠0):zv n r1 r2 s r3 a e l=some (ya,0,e):=by
 unfold zv;rw [apt he,an];simp only [arK,sz,dh he,arJ]
theorem Gu{u:Nat}(hu:u<n){b c:Int}{r1 r2:Int×Int×Int}{r3:arY×Int×Int}:∀(k m i:Nat) (a e:Int) (acc:List bk),e≠0→i+k=u→k<m→acc.length=i→sA n r1 r2 ((u:Int),b,c) s r3 m a e acc (i:Int)=some (ya,0,e):=by
 intro k;induction k with
 |zero=>
  intro m i a e acc he hi hm ha;obtain⟨m,rfl⟩:∃j,m=j+1:=⟨m-1,by omega⟩
  obtain rfl:i=u:=by omega
  simp only [sA,zw,arU,arI,arK];exact apy hn aY hs he
 |succ k aR=>
  intro m i a e acc he hi hm ha;obtain⟨m,rfl⟩:∃j,m=j+1:=⟨m-1,by omega⟩
  simp only [sA,zw,arQ,show i<u by omega,arH,arJ,apu he,an,arS]
  rw [i_ (by omega),a6,bx (by omega)]
  exact aR m (i+1) a e _ he (by omega) (by omega) (by simp [ha])
theorem adt{r1 r2:Int×Int×Int}{r3:arY×Int×Int}{l:List bk}{r24:Bool×Int×Int}{t:arY}{ks ws:kq}(Z:jk r1.1)(ab:jk r2.1)(ao:qC n (jn (r1.1,r2.1,r3.1,l,r24.1,(ks,ws)))):
 sz n r1 r2 s r3 l r24 (aT s t) 0 ks ws=some (res ya s (if vp (jn (r1.1,r2.1,r3.1,l,r24.1,(ks,ws)))then .ok (jn (r1.1,r2.1,r3.1,l,r24.1,(ks,ws)),t)else .error 5)):=by
 unfold sz vp;unfold jk at Z ab;simp only [arH,arL,arK];by_cases hb:r1.1≤32∧r2.1≤1099511627776
 ·simp only [show¬ 32<r1.1 by omega,show¬ 1099511627776<r2.1 by omega,arI,arK,wr (x:=r1.1) (by omega) (by omega),wr (x:=r2.1) (by omega) (by omega)]
  rw [show ug n ⟨r1.1,r2.1,r3.1,l,r24.1,⟨false,ks,ws⟩⟩=some (pF (jn (r1.1,r2.1,r3.1,l,r24.1,(ks,ws))))from acY hn aY ao,an]
  rw [show decide ((jn (r1.1,r2.1,r3.1,l,r24.1,(ks,ws))).Client≤32)=true from decide_eq_true hb.1,show decide ((jn (r1.1,r2.1,r3.1,l,r24.1,(ks,ws))).Seq≤1099511627776)=true from decide_eq_true hb.2]
  by_cases ax:pF (jn (r1.1,r2.1,r3.1,l,r24.1,(ks,ws)))=0
  ·simp only [ax,arH,arL,arK,Bool.and_self,arW];rfl
  ·simp only [ax,arI,arM,arJ,Bool.and_false,Bool.false_eq_true,arX];rfl
 ·have aq:(bif (decide (32<r1.1))then true else(decide (1099511627776<r2.1)))=true:=by
   rw [dJ,←Bool.decide_or];exact decide_eq_true (by omega)
  have aN:(decide ((jn (r1.1,r2.1,r3.1,l,r24.1,(ks,ws))).Client≤32)&&decide ((jn (r1.1,r2.1,r3.1,l,r24.1,(ks,ws))).Seq≤1099511627776))=false:=by
   rw [←Bool.decide_and];exact decide_eq_false hb
  simp only [aq,aN,arJ,Bool.false_and,Bool.false_eq_true,arX];rfl
theorem apz{t:arY}(aA:t <:+ s):I0 n s (aT s t)=some (res ya s (pL t)):=by
 unfold I0 pL jP eX MR dF;rw [adp hn aY hs aA,an];cases g1:gK t with
 |error e=>
  have he:=ir.bZ _ _ g1;rw [b9];simp only [Vh he,MW he,MV he,an];exact Gu hn aY hs (u:=0) (by omega) 0 n 0 _ e [] he rfl (by omega) rfl
 |ok r=>
  obtain⟨dk,t1⟩:=r;have gr:=eH ir g1 aA;have qU:=(ir.eN _ _ _ g1).2;rw [cR];simp only
  rw [adp hn aY hs gr,an];cases g2:gK t1 with
  |error e=>
   have he:=ir.bZ _ _ g2;rw [b9];simp only [Vh he,MW he,MV he,an];exact Gu hn aY hs (u:=0) (by omega) 0 n 0 _ e [] he rfl (by omega) rfl
  |ok r=>
   obtain⟨ec,t2⟩:=r;have gh:=eH ir g2 gr;have mw:=(ir.eN _ _ _ g2).2;rw [cR];simp only
   rw [show(16:Int)=((16:Nat):Int)from rfl,adr hn aY hs (by omega) gh,an]
   cases g3:eG 16 t2 with
   |error e=>
    have he:=x9.bZ _ _ g3;rw [b9];simp only [Vh he,MW he,MV he,an];exact Gu hn aY hs (u:=0) (by omega) 0 n 0 _ e [] he rfl (by omega) rfl
   |ok r=>
    obtain⟨il,t3⟩:=r;have mp:=eH x9 g3 gh;have Gv:=(x9.eN _ _ _ g3).2;rw [cR];simp only
    rw [show(6:Int)=((6:Nat):Int)from rfl,adq hn aY hs (by omega) mp,an]
    unfold gX;cases h:gW 6 t3 with
    |error e=>
     have he:=k9 h;rw [lE h,b9];exact Gu hn aY hs (u:=0) (by omega) 0 n 0 _ e [] he rfl (by omega) rfl
    |ok r=>
     obtain⟨u,bq⟩:=r;obtain⟨Z,ab,aq⟩:=kL h;have dd:bq <:+ s:=List.IsSuffix.trans ⟨gF u,Z.symm⟩ mp;have hu:=dd.length_le;rw [lD h,cR]
     have cO:=rJ (L:=λm i t acc=>sA n (dk,aT s t1,0) (ec,aT s t2,0) ((u:Int),aT s bq,0) s (il,aT s t3,0) m (aT s t) 0 acc (i:Int)) (f:=λ_ v=>v) (D:=i8) (u:=u) (s:=s) (fin:=λacc t=>zv n (dk,aT s t1,0) (ec,aT s t2,0) s (il,aT s t3,0) (aT s t) 0 acc) (bad:=λe x=>x=some (ya,0,e)) (λx v t hx=>n3.hZ hx) (by
      intro m i t acc hm hi ha aA;simp only [sA,zw,arQ,hi,arH,arJ];rw [apw hn aY hs aA,an];have fI:room (acc.length+1) 32=true:=i_ (by omega)
      cases g3:i8 t with
      |error e=>
       have he:=n3.bZ _ _ g3;rw [b9];simp only [arS,fI,a6];rw [bx (by omega)]
       exact Gu hn aY hs (by omega) (u-(i+1)) m (i+1) _ e _ he (by omega) (by omega) (by simp [ha])
      |ok r=>
       obtain⟨v,t3⟩:=r;rw [cR];simp only [arS,fI,a6];rw [bx (by omega)]) (by
      intro m t acc ha aA;simp only [sA,zw,arU,arI,arK]) u n 0 bq [] (by omega) (by omega) rfl dd
     cases ai:fV i8 u bq with
     |error e=>rw [ai]at cO;simp only [ai]at cO ⊢;exact cO
     |ok r=>
      obtain⟨l,t4⟩:=r;obtain⟨aD,bm,bM⟩:=(n3.rep u).eN _ _ _ ai;have ne:t4 <:+ s:=eH (n3.rep u) ai dd;rw [ai]at cO;simp only [List.nil_append,rK,ai]at cO ⊢;refine cO.trans ?_;unfold zv;rw [apv hn aY hs ne,an];cases g5:pC t4 with
      |error e=>
       have he:=F8.bZ _ _ g5;rw [b9];simp only [arK,sz,dh he,arJ,b9]
      |ok r=>
       obtain⟨b,t5⟩:=r;have qG:=eH F8 g5 ne;rw [cR];cases b with
       |false=>
        simp only [arK];have ao:rL (jn (dk,ec,il,l,false,([],[]))):=⟨qU,mw,Gv,⟨by show l.length≤6;omega,bM⟩,rfl,rfl⟩
        exact adt hn aY hs (r1:=(dk,aT s t1,0)) (r2:=(ec,aT s t2,0)) (r3:=(il,aT s t3,0)) (l:=l) (r24:=(false,aT s t5,0)) (t:=t5) (ks:=[]) (ws:=[]) qU mw (Bx hn ao)
       |true=>
        have hk:=ads hn aY hs qG;simp only [arJ,MQ,arW,dF];cases g6:qE t5 with
        |error e=>
         have he:=pK.bZ _ _ g6;rw [g6]at hk;obtain⟨v,a,hk⟩:=hk;rw [hk,an];obtain⟨mY,dH,lk⟩:=apx hn aY hs (a:=a) he;simp only [lk,an,sz,dh he,arJ,b9]
        |ok r=>
         obtain⟨ks,t6⟩:=r;have tu:=eH pK g6 qG;have Vj:=(pK.eN _ _ _ g6).2;rw [g6]at hk;simp only at hk ⊢
         rw [hk,an];have hk:=ads hn aY hs tu;simp only
         cases g7:qE t6 with
         |error e=>
          have he:=pK.bZ _ _ g7;rw [g7]at hk;obtain⟨v,a,hk⟩:=hk;rw [hk,an];simp only [sz,dh he,arJ,b9]
         |ok r=>
          obtain⟨ws,t7⟩:=r;have Vk:=(pK.eN _ _ _ g7).2;rw [g7]at hk;simp only at hk ⊢
          rw [hk,an];simp only
          have ao:rL (jn (dk,ec,il,l,true,(ks,ws))):=⟨qU,mw,Gv,⟨by show l.length≤6;omega,bM⟩,⟨Vj,Vk⟩,rfl⟩
          exact adt hn aY hs (r1:=(dk,aT s t1,0)) (r2:=(ec,aT s t2,0)) (r3:=(il,aT s t3,0)) (l:=l) (r24:=(true,aT s t5,0)) (t:=t7) (ks:=ks) (ws:=ws) qU mw (Bx hn ao)
theorem apA{t:arY}(aA:t <:+ s):I2 n s (aT s t)=some (res [] s (mO t)):=by
 unfold I2 mO gX;rw [show(64:Int)=((64:Nat):Int)from rfl,vg aA (by omega) (by omega) (by omega),an]
 cases h:gW 64 t with
 |error e=>rw [lE h,b9];simp only [dh (k9 h),arJ,b9]
 |ok r=>
  obtain⟨u,bq⟩:=r;obtain⟨Z,ab,aq⟩:=kL h;have dd:bq <:+ s:=List.IsSuffix.trans ⟨gF u,Z.symm⟩ aA;have hu:=dd.length_le;rw [lD h,cR];simp only [arH,arL,arK];rw [show wT n s ((u:Int),aT s bq,0) n [] 0 (aT s bq)=_ from tl (L:=λm i t acc=>wT n s ((u:Int),aT s bq,0) m acc (i:Int) (aT s t)) (D:=pL) (u:=u) (s:=s) (fin:=λacc t=>some (acc,aT s t,0)) (bad:=λe=>some ([],0,e)) (λx v t hx=>Gs.hZ hx) ?_ ?_ (by omega) dd]
  ·cases ai:fV pL u bq with
   |error e=>rfl
   |ok r=>rfl
  ·intro m i t acc hi ha aA;simp only [wT,I1,arQ,hi,arH,arJ];rw [apz hn aY hs aA,an];cases aN:pL t with
   |error e=>rw [b9];simp only [dh (Gs.bZ _ _ aN),arJ]
   |ok r=>
    obtain⟨x,t1⟩:=r;rw [cR];simp only [arH,arL,arK,arS];rw [i_ (by omega),a6,bx (by omega)]
  ·intro m t acc ha aA;simp only [wT,I1,arU,arI,arK,QD]
end
section
variable {n:Nat} (hn:2000≤n) (aY:n≤1000000000) {s:arY} (hs:s.length<n)
include hn aY hs
theorem adu{t:arY}(aA:t <:+ s):match qE t with|.ok (l,bq)=>Av n s (aT s t)=some (l,aT s bq,0)|.error e=>kp e (Av n s (aT s t)):=by
 unfold Av qE gX;rw [show(64:Int)=((64:Nat):Int)from rfl,tk aA (by omega) (by omega) (by omega),an]
 obtain⟨lF,rfl⟩:∃k,n=k+1:=⟨n-1,by omega⟩
 cases h:gW 64 t with
 |error e=>
  rw [lE h,b9];simp only [uH,Au,arU,arI,arK,ED];exact⟨_,_,rfl⟩
 |ok r=>
  obtain⟨u,bq⟩:=r;obtain⟨Z,ab,aq⟩:=kL h;have dd:bq <:+ s:=List.IsSuffix.trans ⟨gF u,Z.symm⟩ aA;have hu:=dd.length_le;rw [lD h,cR]
  have cO:=rJ (L:=λm i t acc=>uH (lF+1) s ((u:Int),aT s bq,0) m (aT s t) (i:Int) 0 acc) (f:=λ_ v=>v) (D:=eG 24) (u:=u) (s:=s) (fin:=λacc t=>some (acc,aT s t,0)) (bad:=λe x=>kp e x) (λx v t hx=>jQ.hZ hx) (by
   intro m i t acc hm hi ha aA;simp only [uH,Au,arQ,hi,arH,arJ];rw [show(24:Int)=((24:Nat):Int)from rfl,vh aA (by omega) (by omega) (by omega),an]
   have fI:room (acc.length+1) 16=true:=i_ (by omega)
   cases g3:eG 24 t with
   |error e=>
    have he:¬ e=0:=jQ.bZ _ _ g3;rw [b9];simp only [arS,fI,a6];obtain⟨m,rfl⟩:∃j,m=j+1:=⟨m-1,by omega⟩
    simp only [uH,Au,he,arI,dV,Bool.and_false,arK,ED];exact⟨_,_,rfl⟩
   |ok r=>
    obtain⟨v,t3⟩:=r;rw [cR];simp only [arS,fI,a6];rw [bx (by omega)]) (by
   intro m t acc ha aA;simp only [uH,Au,arU,arI,arK,ED]) u (lF+1) 0 bq [] (by omega) (by omega) rfl dd
  cases ai:fV (eG 24) u bq with
  |error e=>rw [ai]at cO;simp only [ai]at cO ⊢;exact cO
  |ok r=>
   obtain⟨l,jR⟩:=r;rw [ai]at cO;simp only [List.nil_append,rK,ai]at cO ⊢;exact cO
theorem apB{t:arY}(aA:t <:+ s):match gX 6 i8 t with|.ok (l,bq)=>EC n s (aT s t)=some (l,aT s bq,0)|.error e=>kp e (EC n s (aT s t)):=by
 unfold EC gX;rw [show(6:Int)=((6:Nat):Int)from rfl,tk aA (by omega) (by omega) (by omega),an]
 obtain⟨lF,rfl⟩:∃k,n=k+1:=⟨n-1,by omega⟩
 cases h:gW 6 t with
 |error e=>
  rw [lE h,b9];simp only [uG,As,arU,arI,arK,EB];exact⟨_,_,rfl⟩
 |ok r=>
  obtain⟨u,bq⟩:=r;obtain⟨Z,ab,aq⟩:=kL h;have dd:bq <:+ s:=List.IsSuffix.trans ⟨gF u,Z.symm⟩ aA;have hu:=dd.length_le;rw [lD h,cR]
  have cO:=rJ (L:=λm i t acc=>uG (lF+1) s ((u:Int),aT s bq,0) m (aT s t) (i:Int) 0 acc) (f:=λ_ v=>v) (D:=i8) (u:=u) (s:=s) (fin:=λacc t=>some (acc,aT s t,0)) (bad:=λe x=>kp e x) (λx v t hx=>n3.hZ hx) (by
   intro m i t acc hm hi ha aA;simp only [uG,As,arQ,hi,arH,arJ];rw [U5 aA (by omega) (by omega),an]
   have fI:room (acc.length+1) 32=true:=i_ (by omega)
   cases g3:i8 t with
   |error e=>
    have he:¬ e=0:=n3.bZ _ _ g3;rw [b9];simp only [arS,fI,a6];obtain⟨m,rfl⟩:∃j,m=j+1:=⟨m-1,by omega⟩
    simp only [uG,As,he,arI,dV,Bool.and_false,arK,EB];exact⟨_,_,rfl⟩
   |ok r=>
    obtain⟨v,t3⟩:=r;rw [cR];simp only [arS,fI,a6];rw [bx (by omega)]) (by
   intro m t acc ha aA;simp only [uG,As,arU,arI,arK,EB]) u (lF+1) 0 bq [] (by omega) (by omega) rfl dd
  cases ai:fV i8 u bq with
  |error e=>rw [ai]at cO;simp only [ai]at cO ⊢;exact cO
  |ok r=>
   obtain⟨l,jR⟩:=r;rw [ai]at cO;simp only [List.nil_append,rK,ai]at cO ⊢;exact cO
theorem adv{c q:Int}{p:arY}{l:List bk}{b:Bool}{a3 a5 e3 lh aW:Int}{t:arY}{ks ws:kq}(Z:jk c)(ab:jk q)(ao:qC n (jn (c,q,p,l,b,(ks,ws)))):
 EE n (⟨ar0 (bif (!(bif (decide (c≤32)) then(decide (q≤1099511627776))else false))then 0 else c),ar0 (bif (!(bif (decide (c≤32)) then(decide (q≤1099511627776))else false))then 0 else q),p,[],false,⟨false,[],[]⟩⟩,(bif (decide (c≤32)) then(decide (q≤1099511627776))else false),aW,0) (l,a3,e3) (b,a5,lh) ks ws (aT s t)=some (res ya s (if vp (jn (c,q,p,l,b,(ks,ws)))then .ok (jn (c,q,p,l,b,(ks,ws)),t)else .error 5)):=by
 unfold EE vp;unfold jk at Z ab;by_cases hb:c≤32∧q≤1099511627776
 ·simp only [hb.1,hb.2,arH,arJ,arL,arM,arK,wr (x:=c) (by omega) (by omega),wr (x:=q) (by omega) (by omega)]
  rw [show Al n ⟨c,q,p,l,b,⟨false,ks,ws⟩⟩=some (pF (jn (c,q,p,l,b,(ks,ws))))from acZ hn aY ao,an]
  rw [show decide ((jn (c,q,p,l,b,(ks,ws))).Client≤32)=true from decide_eq_true hb.1,show decide ((jn (c,q,p,l,b,(ks,ws))).Seq≤1099511627776)=true from decide_eq_true hb.2]
  by_cases ax:pF (jn (c,q,p,l,b,(ks,ws)))=0
  ·simp only [ax,arH,arL,arK,Bool.and_self,arW];rfl
  ·simp only [ax,arI,arM,arJ,Bool.and_false,Bool.false_eq_true,arX];rfl
 ·have aq:(bif (decide (c≤32)) then(decide (q≤1099511627776))else false)=false:=by
   rw [dV,←Bool.decide_and];exact decide_eq_false hb
  have aN:(decide ((jn (c,q,p,l,b,(ks,ws))).Client≤32)&&decide ((jn (c,q,p,l,b,(ks,ws))).Seq≤1099511627776))=false:=by
   rw [←Bool.decide_and];exact decide_eq_false hb
  simp only [aq,aN,arJ,arM,arL,arK,an,Bool.false_and,Bool.false_eq_true,arX];rfl
theorem apC{t:arY}(aA:t <:+ s):KS n s (aT s t)=some (res ya s (pL t)):=by
 unfold KS SD pL jP eX MR dF;rw [tj aA (by omega) (by omega),an]
 cases g1:gK t with
 |error e=>
  have he:=ir.bZ _ _ g1;rw [b9];simp only [dh he,arJ,an,b9]
 |ok r=>
  obtain⟨dk,t1⟩:=r;have gr:=eH ir g1 aA;have qU:=(ir.eN _ _ _ g1).2;rw [cR];simp only [arH,arL,arK];rw [tj gr (by omega) (by omega),an]
  cases g2:gK t1 with
  |error e=>
   have he:=ir.bZ _ _ g2;rw [b9];simp only [dh he,arJ,an,b9]
  |ok r=>
   obtain⟨ec,t2⟩:=r;have gh:=eH ir g2 gr;have mw:=(ir.eN _ _ _ g2).2;rw [cR];simp only [arH,arL,arK];rw [show(16:Int)=((16:Nat):Int)from rfl,vh gh (by omega) (by omega) (by omega),an]
   cases g3:eG 16 t2 with
   |error e=>
    have he:=x9.bZ _ _ g3;rw [b9];simp only [dh he,arJ,an,b9]
   |ok r=>
    obtain⟨il,t3⟩:=r;have mp:=eH x9 g3 gh;have Gv:=(x9.eN _ _ _ g3).2;rw [cR];simp only [arH,arL,arK]
    have bJ:(bif (!(bif (decide (dk≤32)) then(decide (ec≤1099511627776))else false))then At n (il,aT s t3,0) (dk,aT s t1,0) (ec,aT s t2,0) 0 0 else At n (il,aT s t3,0) (dk,aT s t1,0) (ec,aT s t2,0) ec dk)=some (⟨ar0 (bif (!(bif (decide (dk≤32)) then(decide (ec≤1099511627776))else false))then 0 else dk),ar0 (bif (!(bif (decide (dk≤32)) then(decide (ec≤1099511627776))else false))then 0 else ec),il,[],false,⟨false,[],[]⟩⟩,(bif (decide (dk≤32)) then(decide (ec≤1099511627776))else false),aT s t3,0):=by
     unfold At;cases (bif (decide (dk≤32)) then(decide (ec≤1099511627776))else false)<;>rfl
    rw [bJ,an];simp only [arH,arL,arK];have ha:=apB hn aY hs mp;cases h:gX 6 i8 t3 with
    |error e=>
     have he:=(Gq 6 (by omega)).bZ _ _ h
     rw [h]at ha;obtain⟨v,a,ha⟩:=ha;rw [ha,an];simp only [dh he,arJ,b9]
    |ok r=>
     obtain⟨l,t4⟩:=r;have ne:t4 <:+ s:=eH (Gq 6 (by omega)) h mp
     have ae:=((Gq 6 (by omega)).eN _ _ _ h).2
     rw [h]at ha;simp only at ha ⊢
     rw [ha,an];simp only [arH,arL,arK];rw [aoS ne (by omega),an]
     cases g5:pC t4 with
     |error e=>
      have he:=F8.bZ _ _ g5;rw [b9];simp only [dh he,arJ,b9]
     |ok r=>
      obtain⟨b,t5⟩:=r;have qG:=eH F8 g5 ne;rw [cR];simp only [arH,arL,arK];cases b with
      |false=>
       have ao:rL (jn (dk,ec,il,l,false,([],[]))):=⟨qU,mw,Gv,ae,rfl,rfl⟩;exact adv hn aY hs qU mw (Bx hn ao)
      |true=>
       have hk:=adu hn aY hs qG;simp only [arJ,MQ,arW,dF];cases g6:qE t5 with
       |error e=>
        have he:=pK.bZ _ _ g6;rw [g6]at hk;obtain⟨v,a,hk⟩:=hk;rw [hk,an];simp only [dh he,arJ,b9]
       |ok r=>
        obtain⟨ks,t6⟩:=r;have tu:=eH pK g6 qG;have Vj:=(pK.eN _ _ _ g6).2;rw [g6]at hk;simp only at hk ⊢
        rw [hk,an];simp only [arH,arL,arK];have hk:=adu hn aY hs tu;cases g7:qE t6 with
        |error e=>
         have he:=pK.bZ _ _ g7;rw [g7]at hk;obtain⟨v,a,hk⟩:=hk;rw [hk,an];simp only [dh he,arJ,b9]
        |ok r=>
         obtain⟨ws,t7⟩:=r;have Vk:=(pK.eN _ _ _ g7).2;rw [g7]at hk;simp only at hk ⊢
         rw [hk,an];simp only [arH,arL,arK];have ao:rL (jn (dk,ec,il,l,true,(ks,ws))):=⟨qU,mw,Gv,ae,⟨Vj,Vk⟩,rfl⟩;exact adv hn aY hs qU mw (Bx hn ao)
theorem adw{t:arY}(aA:t <:+ s):KU n s (aT s t)=some (res [] s (mO t)):=by
 unfold KU mO gX;rw [show(64:Int)=((64:Nat):Int)from rfl,tk aA (by omega) (by omega) (by omega),an]
 cases h:gW 64 t with
 |error e=>rw [lE h,b9];simp only [dh (k9 h),arJ,b9]
 |ok r=>
  obtain⟨u,bq⟩:=r;obtain⟨Z,ab,aq⟩:=kL h;have dd:bq <:+ s:=List.IsSuffix.trans ⟨gF u,Z.symm⟩ aA;have hu:=dd.length_le;rw [lD h,cR];simp only [arH,arL,arK];rw [show xe n s ((u:Int),aT s bq,0) n (aT s bq) 0 []=_ from tl (L:=λm i t acc=>xe n s ((u:Int),aT s bq,0) m (aT s t) (i:Int) acc) (D:=pL) (u:=u) (s:=s) (fin:=λacc t=>some (acc,aT s t,0)) (bad:=λe=>some ([],0,e)) (λx v t hx=>Gs.hZ hx) ?_ ?_ (by omega) dd]
  ·cases ai:fV pL u bq with
   |error e=>rfl
   |ok r=>rfl
  ·intro m i t acc hi ha aA;simp only [xe,KT,arQ,hi,arH,arJ];rw [apC hn aY hs aA,an];cases aN:pL t with
   |error e=>rw [b9];simp only [dh (Gs.bZ _ _ aN),arJ]
   |ok r=>
    obtain⟨x,t1⟩:=r;rw [cR];simp only [arH,arL,arK,arS];rw [i_ (by omega),a6,bx (by omega)]
  ·intro m t acc ha aA;simp only [xe,KT,arU,arI,arK,SE]
theorem adx{t:arY}(aA:t <:+ s):Ln n s (aT s t)=some (res [] s (x_ t)):=by
 unfold Ln x_ gX;rw [show(16:Int)=((16:Nat):Int)from rfl,tk aA (by omega) (by omega) (by omega),an]
 cases h:gW 16 t with
 |error e=>rw [lE h,b9];simp only [dh (k9 h),arJ,b9]
 |ok r=>
  obtain⟨u,bq⟩:=r;obtain⟨Z,ab,aq⟩:=kL h;have dd:bq <:+ s:=List.IsSuffix.trans ⟨gF u,Z.symm⟩ aA;have hu:=dd.length_le;rw [lD h,cR];simp only [arH,arL,arK];rw [show xk n s ((u:Int),aT s bq,0) n (aT s bq) 0 []=_ from tl (L:=λm i t acc=>xk n s ((u:Int),aT s bq,0) m (aT s t) (i:Int) acc) (D:=eG 16384) (u:=u) (s:=s) (fin:=λacc t=>some (acc,aT s t,0)) (bad:=λe=>some ([],0,e)) (λx v t hx=>Bw.hZ hx) ?_ ?_ (by omega) dd]
  ·cases ai:fV (eG 16384) u bq with
   |error e=>rfl
   |ok r=>rfl
  ·intro m i t acc hi ha aA;simp only [xk,Lm,arQ,hi,arH,arJ];rw [show(16384:Int)=((16384:Nat):Int)from rfl,vh aA (by omega) (by omega) (by omega),an]
   cases aN:eG 16384 t with
   |error e=>rw [b9];simp only [dh (Bw.bZ _ _ aN),arJ]
   |ok r=>
    obtain⟨x,t1⟩:=r;rw [cR];simp only [arH,arL,arK,arS];rw [i_ (by omega),a6,bx (by omega)]
  ·intro m t acc ha aA;simp only [xk,Lm,arU,arI,arK,Ta]
theorem ady{t:arY}(aA:t <:+ s):K3 n s (aT s t)=some (res [] s (qF t)):=by
 unfold K3 qF gX;rw [show(32:Int)=((32:Nat):Int)from rfl,tk aA (by omega) (by omega) (by omega),an]
 cases h:gW 32 t with
 |error e=>rw [lE h,b9];simp only [dh (k9 h),arJ,b9]
 |ok r=>
  obtain⟨u,bq⟩:=r;obtain⟨Z,ab,aq⟩:=kL h;have dd:bq <:+ s:=List.IsSuffix.trans ⟨gF u,Z.symm⟩ aA;have hu:=dd.length_le;rw [lD h,cR];simp only [arH,arL,arK];rw [show xi n s ((u:Int),aT s bq,0) n (aT s bq) 0 []=_ from tl (L:=λm i t acc=>xi n s ((u:Int),aT s bq,0) m (aT s t) (i:Int) acc) (D:=eX (λp=>(⟨p.1,p.2⟩:bz)) (dF (eG 24) λ_=>gG)) (u:=u) (s:=s) (fin:=λacc t=>some (acc,aT s t,0)) (bad:=λe=>some ([],0,e)) (λx v t hx=>MS.hZ hx) ?_ ?_ (by omega) dd]
  ·cases ai:fV (eX (λp=>(⟨p.1,p.2⟩:bz)) (dF (eG 24) λ_=>gG)) u bq with
   |error e=>rfl
   |ok r=>rfl
  ·intro m i t acc hi ha aA;simp only [xi,K2,arQ,hi,arH,arJ];rw [show(24:Int)=((24:Nat):Int)from rfl,vh aA (by omega) (by omega) (by omega),an]
   unfold eX dF;cases aN:eG 24 t with
   |error e=>rw [b9];simp only [dh (jQ.bZ _ _ aN),arJ]
   |ok r=>
    obtain⟨k,t1⟩:=r;rw [cR];simp only [arH,arL,arK];rw [vf (eH jQ aN aA) (by omega) (by omega),an]
    cases bn:gG t1 with
    |error e=>rw [b9];simp only [dh (ht.bZ _ _ bn),arJ]
    |ok r=>
     obtain⟨v,t2⟩:=r;rw [cR];simp only [arH,arL,arK,arS];rw [i_ (by omega),a6,bx (by omega)]
  ·intro m t acc ha aA;simp only [xi,K2,arU,arI,arK,SH]
end
structure rM(p:a_):Prop where
 v:nT p=0
 i:Bf p
 w:s9 p≤125000
def apD(t:Token)(nb:Int):bZ ⟨t.Kind,t.Text,t.N,nb⟩=bZ t:=rfl
def apE{t:Token}(h:mm t):mm (bZ t):=by
 obtain⟨Z,ab⟩:=h;refine⟨rfl,?_⟩
 simpa only [bZ]using ab
def apF{n:Nat}(src:arY)(hs:src.length≤2000)(hn:3000000≤n):
 ∃r,zI n src=some r∧EX n src=some r∧(r.2.2=0→rM r.1):=by
 obtain⟨r,Z,ab,aq⟩:=am' (n:=n) src (Or.inl hs) hn;refine⟨r,Z,ab,λh0=>?_⟩
 obtain⟨⟨l,nb,e⟩,t1,t2,t3⟩:=abe (λt=>(t.Kind=5→t.Text∈marks)∧mm (bZ t)) (λs nb g1 g2=>⟨T0 s nb g1 g2,by rw [apD];exact apE (aog s g1 g2).1⟩) (n:=n) src (by omega) (by omega)
 obtain⟨p,arA,e2⟩:=r;simp only at h0
 subst h0;unfold zI DZ Jx at Z;rw [t1]at Z;by_cases he:e=0
 ·subst he;obtain⟨g1,g2,g3⟩:=t3 rfl;simp only at g1 g3
  have hg:kF l:=λt aA=>(g3 t aA).1
  have ax:∀t,t∈l→mm (bZ t):=λt aA=>(g3 t aA).2
  have hlen:=mJ l;have oJ:l.length≤2100:=by omega
  have qT:eM l l.length=hf l:=by unfold eM;rw [List.take_length]
  have apG:=aoy (l:=l) (by omega) hg ax n 0 (by omega)
  have b3:=abD (l:=l) (by omega) hg (i:=0) (n1:=n) (n2:=n) (by omega) (by omega) (by omega)
  simp only [an,arH,arL,arK]at Z;rcases b3 with⟨a,k,e1,e2,kG,fe,jB⟩|⟨k,c,z,a,e1,e2,hc,hk⟩
  ·have e1:ro n ⟨l,0⟩=some (aC.ret a ((k:Nat):Int)):=e1;have am_:=u4 l k l.length fe;obtain⟨k',aD,bm,bM,db⟩:=apG a _ e1;rw [e1]at Z;simp only [an,aC.on,arQ,arH,arJ]at Z;by_cases pc:k<l.length
   ·simp only [pc,arH,arJ,T1 n l k 5 (by omega),an,aC.on,L7,show¬ (5:Int)=0 by omega,arI,arM,arK,qi,Option.some.injEq,Prod.mk.injEq]at Z
    have apH:iD l k 5=5:=if_pos pc;simp only [apH,show¬ (5:Int)=0 by omega,arI,arM,arJ,arK,Option.some.injEq,Prod.mk.injEq]at Z
    exact Z.2.2.elim
   ·have hw:s9 a≤125000:=by omega
    have Cy:a.Name.length+f5 a.Params+dP a.Body≤125000:=hw;simp only [pc,arI,arK,an,arH,arL,arJ,Mj]at Z;rw [Mh (n:=n) a (by omega) (by omega) (by omega) (by omega) (by omega)]at Z
    simp only [an,qi]at Z;by_cases pX:nT a=0
    ·simp only [pX,arH,arL,arK,Mj,Option.some.injEq,Prod.mk.injEq]at Z;obtain⟨rfl,_⟩:=Z;exact⟨pX,bM,hw⟩
    ·simp only [pX,arI,arM,arJ,Option.some.injEq,Prod.mk.injEq]at Z;exact Z.2.2.elim
  ·have e1:ro n ⟨l,0⟩=some (aC.aK (mV l k c) z):=e1;rw [e1]at Z;simp only [an,aC.on,L7,hc,arI,arK,arM,arJ,qi,Option.some.injEq,Prod.mk.injEq]at Z;exact Z.2.2.elim
 ·simp only [he,arI,arM,arJ,an,arK,qi,Option.some.injEq,Prod.mk.injEq]at Z;exact Z.2.2.elim
def nf(p:a_):arY:=if nT p=0 then oO p else[]
structure rN(p:a_):Prop where
 i:Bf p
 n:p.Name.length≤300000
 f:f5 p.Params≤300000
 b:dP p.Body≤300000
def rM.fG{p:a_}(h:rM p):rN p:=by
 have hw:p.Name.length+f5 p.Params+dP p.Body≤125000:=h.w;exact⟨h.i,by omega,by omega,by omega⟩
def adz{n:Nat}{p:a_}(h:rN p)(hn:3000000≤n):uj n p=some (nf p):=by
 have Z:=h.n;have ab:=h.f;have aq:=h.b;unfold nf;by_cases ax:nT p=0
 ·rw [if_pos ax];exact anP p h.i ax hn h.f h.b
 ·rw [if_neg ax];unfold uj;rw [Mh p (by omega) (by omega) (by omega) (by omega) (by omega)]
  simp only [an,ax,arI,arM,arJ]
def adA{n:Nat}{p:a_}(h:rN p)(hn:3000000≤n):xa n p=some (nf p):=by
 have Z:=h.n;have ab:=h.f;have aq:=h.b;unfold nf;by_cases ax:nT p=0
 ·rw [if_pos ax];exact aoa p h.i ax hn h.f h.b
 ·rw [if_neg ax];unfold xa;rw [Ut p (by omega) (by omega) (by omega) (by omega) (by omega) (by omega) (by omega)]
  simp only [an,ax,arI,arM,arJ]
def apI{n:Nat}(hn:3000000≤n)(l:kq)(ae:l.length≤1000)(hs:∀s∈l,s.length≤2000):∃o,JA n l=some o∧Ll n l=some o∧o.1.length≤l.length∧(∀p∈o.1,rM p)∧(o.2=true→o.1.map nf=l):=by
 have key:∀(m i:Nat) (acc:List a_),l.length<i+m→i≤l.length→acc.length=i→(∀p∈acc,rM p)→acc.map nf=l.take i→∃o,zJ n l m (i:Int) acc=some o∧AE n l m acc (i:Int)=some o∧o.1.length≤l.length∧(∀p∈o.1,rM p)∧(o.2=true→o.1.map nf=l):=by
  intro m;induction m with
  |zero=>intro i acc Z ab;omega
  |succ m aR=>
   intro i acc Z ab ha hp hm;by_cases hi:i<l.length
   ·have yi:=U8 hi;obtain⟨r,e1,e2,e3⟩:=apF (n:=n) (l.getD i default) (hs _ yi) hn;have fI:room (acc.length+1) 64=true:=i_ (by omega)
    simp only [zJ,Jz,AE,Lk,arQ,hi,arH,arJ,cm hi,a6,arP,e1,e2,an,arS,fI,bx (show i≤4611686018427387904 by omega),arV]
    by_cases h0:r.2.2=0
    ·have hg:=e3 h0;simp only [h0,arH,arL,arM,arJ,arK,adz hg.fG hn,adA hg.fG hn,an];by_cases hx:nf r.1=l.getD i default
     ·simp only [hx,arH,arL,arK];refine aR (i+1) (acc++[r.1]) (by omega) (by omega) (by simp [ha]) (λp yb=>?_) ?_
      ·rcases List.mem_append.1 yb with h|h
       ·exact hp p h
       ·rw [List.mem_singleton.1 h];exact hg
      ·rw [List.map_append,hm,List.map_cons,List.map_nil,hx,List.take_add,fz l i default hi,List.take_succ_cons,List.take_zero]
     ·simp only [hx,arI,arM,arJ];exact⟨_,rfl,rfl,by simp,λp yb=>(by cases yb),λh=>(by cases h)⟩
    ·simp only [h0,arI,arM,arL,arJ,arK,an];exact⟨_,rfl,rfl,by simp,λp yb=>(by cases yb),λh=>(by cases h)⟩
   ·simp only [zJ,Jz,AE,Lk,Rb,S_,arQ,hi,arI,arK];obtain rfl:i=l.length:=by omega
    rw [List.take_length]at hm;exact⟨_,rfl,rfl,by simp only;omega,hp,λ_=>hm⟩
 exact key n 0 [] (by omega) (by omega) rfl (λp yb=>(by cases yb)) rfl
def Vl(x:be):(⟨x.dI,x.c_,x.Rows⟩:be)=x:=rfl
def Vm(x:cp):(⟨x.Version,x.aV⟩:cp)=x:=rfl
def apJ(x:Request):(⟨x.Client,x.Seq,x.a_,x.au,x.ff,(⟨x.bD.eg,x.bD.Reads,x.bD.dw⟩:eT)⟩:Request)=x:=rfl
def apK(x:dg):(⟨x.Pos,(⟨x.be.dI,x.be.c_,x.be.Rows⟩:be),x.fk,x.fr,(⟨x.Place.Version,x.Place.aV⟩:cp),x.bz,x.Queue,x.fl⟩:dg)=x:=rfl
def yc(l:List a_):Bool:=(allI l.length λi=>!(decide (nf (l.getD i default)=[])||decide (16384<(((nf (l.getD i default)).length:Nat):Int)))&&(!decide (0<(i:Int))||Op.bytesLess (l.getD (pv i) default).Name (l.getD i default).Name))&&decide (l.length≤16)
def MX(l:List Request):Bool:=(allI l.length λi=>decide (pF (l.getD i default)=0))&&decide (l.length≤64)
def pM(r:dg):Bool:=((((((((decide (0≤r.Pos)&&decide (r.Pos≤1099511627776))&&x2 r.be)&&decide (r.be.c_=r.Pos))&&yc r.fk)&&n5 r.fr)&&n4 r.Place)&&vk r.bz)&&MX r.Queue)
structure By(n:Nat)(r:dg):Prop where
 st:Gj n r.be
 Gw:r.fk.length<n
 qH:∀i,rN (r.fk.getD i default)
 Gx:r.fr.length<n
 tv:∀i,rG n (r.fr.getD i default)
 pl:r.Place.aV.length<n
 MY:∀i,tq (r.Place.aV.getD i default)
 aA:r.bz.length<n
 lf:∀i,(r.bz.getD i default).Key.length≤1000
 rO:r.Queue.length<n
 Gy:∀i,qC n (r.Queue.getD i default)
def adB:rN default:=by
 refine⟨⟨by show([]:arY).length≤_;simp,by show([]:List Param).length≤_;simp,λi hi=>by exact absurd hi (by show¬ i<([]:List Param).length;simp),trivial⟩,by show([]:arY).length≤_;simp,by show f5 []≤_;simp [f5],by show dP []≤_;simp [dP]⟩
section
variable {n:Nat} (hn:3000000≤n) (aY:n≤1000000000)
include hn aY
theorem apL{l:List a_}(ae:l.length<n)(h:∀i,rN (l.getD i default)):IJ n l=some (yc l):=by
 unfold IJ yc;rw [iu (L:=zg n l) (chk:=λi=>!(decide (nf (l.getD i default)=[])||decide (16384<(((nf (l.getD i default)).length:Nat):Int)))&&(!decide (0<(i:Int))||Op.bytesLess (l.getD (pv i) default).Name (l.getD i default).Name)) (no:=false) (yes:=true) ae,mo]
 ·simp only [fF];by_cases ao:l.length≤16
  ·simp only [ao,show¬ 16<l.length by omega,arH,arI,arK,Bool.and_true]
  ·simp only [ao,show 16<l.length by omega,arH,arI,arJ,Bool.and_false]
 ·intro m i hi;simp only [zg,II,arQ,hi,arH,arJ,cm hi,a6,an,arP,bx (show i≤4611686018427387904 by omega),adz (h i) hn,mn hi (show l.length≤1000000000 by omega)]
  exact i' (by simp only [dJ,dV,Bool.not_and,Bool.not_or,Bool.not_not,←vi])
 ·intro m;simp only [zg,II,Qn,arU,arI,arK]
theorem apM{l:List a_}(ae:l.length<n)(h:∀i,rN (l.getD i default)):Ky n l=some (yc l):=by
 unfold Ky yc;rw [iu (L:=Aj n l) (chk:=λi=>!(decide (nf (l.getD i default)=[])||decide (16384<(((nf (l.getD i default)).length:Nat):Int)))&&(!decide (0<(i:Int))||Op.bytesLess (l.getD (pv i) default).Name (l.getD i default).Name)) (no:=false) (yes:=decide (l.length≤16)) ae,rE]
 ·intro m i hi;simp only [Aj,Kx,arQ,hi,arH,arJ,cm hi,a6,an,arP,bx (show i≤4611686018427387904 by omega),adA (h i) hn,Bp hi,mn hi (show l.length≤1000000000 by omega),arV]
  exact i' (by simp only [dJ,dV,Bool.not_and,Bool.not_or,Bool.not_not])
 ·intro m;simp only [Aj,Kx,St,arU,arI,arK,lA]
theorem Bz(x y:Int):decide (x<y) = !decide (y≤x):=by
 by_cases h:y≤x
 ·rw [decide_eq_true h,decide_eq_false (by omega)];rfl
 ·rw [decide_eq_false h,decide_eq_true (by omega)];rfl
theorem apN{r:dg}(h:By n r):wM n r=some (pM r):=by
 have e1:wL n r n 0=some (if(allI r.Queue.length λi=>decide (pF (r.Queue.getD i default)=0)) then((n5 r.fr&&n4 r.Place)&&vk r.bz)else false):=by
  refine iu (L:=wL n r) h.rO ?_ ?_
  ·intro m i hi;simp only [wL,IP,arQ,hi,arH,arJ,cm hi,a6,arP,bx (show i≤4611686018427387904 by have:=h.rO;omega)]
   rw [acY (by omega) aY (h.Gy i),an]
   exact i' rfl
  ·intro m;simp only [wL,IP,Qv,arU,arI,arK];rw [ac8 (by omega) aY h.Gx h.tv,ac2 (by omega) aY h.pl h.MY,aoX (by omega) aY h.aA]
   simp only [an,oR,dV];cases n5 r.fr<;>cases n4 r.Place<;>rfl
 unfold wM;rw [e1,ao_ (by omega) aY h.st,apL hn aY h.Gw h.qH]
 simp only [an,oR,dJ,dV,fF];unfold pM MX;rw [show decide (r.Pos<0) = !decide (0≤r.Pos)from Bz hn aY _ _,show decide (1099511627776<r.Pos) = !decide (r.Pos≤1099511627776)from Bz hn aY _ _]
 by_cases ao:r.Queue.length≤64
 ·simp only [ao,show¬ 64<r.Queue.length by omega,arH,arI,Bool.and_true,Bool.or_false,rE]
  cases decide (0≤r.Pos)<;>cases decide (r.Pos≤1099511627776)<;>cases x2 r.be<;>cases decide (r.be.c_=r.Pos)<;>cases yc r.fk<;>cases n5 r.fr<;>cases n4 r.Place<;>cases vk r.bz<;>simp
 ·simp only [ao,show 64<r.Queue.length by omega,arH,arI,Bool.and_false,arV,arJ]
theorem apO{l:List Request}(ae:l.length<n)(h:∀i,qC n (l.getD i default)):KC n l=some (MX l):=by
 unfold KC MX;rw [iu (L:=Am n l) (chk:=λi=>decide (pF (l.getD i default)=0)) (no:=false) (yes:=decide (l.length≤64)) ae,rE]
 ·intro m i hi;simp only [Am,KB,arQ,hi,arH,arJ,cm hi,a6,an,arP,bx (show i≤4611686018427387904 by omega),acZ (show 2000≤n by omega) aY (h i)]
  exact i' rfl
 ·intro m;simp only [Am,KB,Sw,arU,arI,arK,lA]
theorem apP{r:dg}(h:By n r):Ex n r=some (pM r):=by
 unfold Ex pM;rw [apa (by omega) aY h.st,apM hn aY h.Gw h.qH,ac9 (by omega) aY h.Gx h.tv,ac5 (by omega) aY h.pl h.MY,aoY (by omega) aY h.aA h.lf,apO hn aY h.rO h.Gy]
 simp only [an,oR,dV];cases decide (0≤r.Pos)<;>cases decide (r.Pos≤1099511627776)<;>cases x2 r.be<;>cases decide (r.be.c_=r.Pos)<;>cases yc r.fk<;>cases n5 r.fr<;>cases n4 r.Place<;>cases vk r.bz<;>rfl
omit hn aY in
theorem rP{L:Nat→Int→ar2}{len:Nat}{m:Nat}(hm:len<m)(step:∀m i,i<len→L (m+1) (i:Int)=L m ((i+1:Nat):Int))(stop:∀m,L (m+1) (len:Int)=some true):L m 0=some true:=by
 have:=iu (chk:=λ_=>true) (no:=false) (yes:=true) hm (λm i hi=>by rw [step m i hi,if_pos rfl]) stop
 rw [this,mo]
 congr 1
 rw [Gb];exact λ_ _=>rfl
theorem apQ{s:be}(h:Gj n s):JH n s s=some true:=by
 have Z:=h.rows;unfold JH;simp only [arH,arL,arK];refine rP (L:=uB n s s) Z (λm i hi=>?_) (λm=>?_)
 ·have ab:=(h.row i).U_;simp only [uB,JG,arQ,hi,arH,arJ,cm hi,a6,arP,arL,arK]
  have:=ac3 (L:=zO n (uB n s s m) (i:Int) s s) (len:=(s.Rows.getD i default).ce.length) (chk:=λ_=>true) (no:=false) (yes:=uB n s s m ((i+1:Nat):Int)) (m:=n) ab (λapR k hk=>by
   simp only [zO,JF,arQ,arP,hk,arH,arJ,cm hk,a6,Bool.and_self,arL,arK,arW,bx (show k≤4611686018427387904 by omega)]) (λapR=>by
   simp only [zO,JF,Ro,arP,arU,arI,arK,bx (show i≤4611686018427387904 by omega)])
  rw [this,if_pos];rw [Gb];exact λ_ _=>rfl
 ·simp only [uB,JG,Rn,arU,arI,arK]
theorem apS{l:List a_}(ae:l.length<n)(h:∀i,rN (l.getD i default)):JE n l l=some true:=by
 unfold JE;simp only [arH,arL,arK];refine rP (L:=zN n l l) ae (λm i hi=>?_) (λm=>?_)
 ·have Z:=h i;have ab:=Z.f;have aq:=Z.b;have aN:=xI (l.getD i default).Params;simp only [zN,JD,arQ,hi,arH,arJ,cm hi,a6,arP,am9 (n:=n) (l.getD i default) (by omega) (by omega) (by omega) (by omega),an,arL,arK,bx (show i≤4611686018427387904 by omega)]
 ·simp only [zN,JD,Rm,arU,arI,arK]
theorem apT{o:Outcome}(h:Bq n o):D5 n o o=some true:=by
 have Z:=h.out;unfold D5;simp only [arH,arL,arK];refine rP (L:=zT n o o) Z (λm i hi=>?_) (λm=>?_)
 ·simp only [zT,JP,arQ,hi,arH,arJ,cm hi,a6,arP,Bool.and_self,arL,arK,bx (show i≤4611686018427387904 by omega)]
 ·simp only [zT,JP,Ru,arU,arI,arK]
theorem apU{s:bH}(h:rG n s):JR n s.cK s.cK=some true:=by
 have Z:=h.rep;unfold JR;simp only [arH,arL,arK];refine rP (L:=zU n s.cK s.cK) Z (λm i hi=>?_) (λm=>?_)
 ·have:=apT hn aY (h.out i)
  simp only [zU,JQ,Rv,arQ,hi,arH,arJ,cm hi,a6,arP];rw [show D5 n ⟨(s.cK.getD i default).Outcome.Status,(s.cK.getD i default).Outcome.Code,(s.cK.getD i default).Outcome.Out⟩ ⟨(s.cK.getD i default).Outcome.Status,(s.cK.getD i default).Outcome.Code,(s.cK.getD i default).Outcome.Out⟩=some true from this]
  simp only [an,arJ,arL,arK,bx (show i≤4611686018427387904 by omega)]
 ·simp only [zU,JQ,Rw,arU,arI,arK]
theorem apV{l:List bH}(ae:l.length<n)(h:∀i,rG n (l.getD i default)):JT n l l=some true:=by
 unfold JT;simp only [arH,arL,arK];refine rP (L:=zV n l l) ae (λm i hi=>?_) (λm=>?_)
 ·simp only [zV,JS,arQ,hi,arH,arJ,cm hi,a6,arP,apU hn aY (h i),an,arL,arM,arK,Bool.false_or,bx (show i≤4611686018427387904 by omega)]
 ·simp only [zV,JS,Rx,arU,arI,arK]
theorem apW{p:cp}(ae:p.aV.length<n):JJ n p p=some true:=by
 unfold JJ;simp only [arH,arL,arK];refine rP (L:=zP n p p) ae (λm i hi=>?_) (λm=>?_)
 ·simp only [zP,JI,arQ,hi,arH,arJ,cm hi,a6,arP,Bool.and_self,arL,arK,bx (show i≤4611686018427387904 by omega)]
 ·simp only [zP,JI,Rp,arU,arI,arK]
theorem apX{l:List bz}(ae:l.length<n):JL n l l=some true:=by
 unfold JL;simp only [arH,arL,arK];refine rP (L:=zQ n l l) ae (λm i hi=>?_) (λm=>?_)
 ·simp only [zQ,JK,arQ,hi,arH,arJ,cm hi,a6,arP,Bool.and_self,arL,arK,bx (show i≤4611686018427387904 by omega)]
 ·simp only [zQ,JK,Rq,arU,arI,arK]
theorem adC{l:kq}(ae:l.length<n):D4 n l l=some true:=by
 unfold D4;simp only [arH,arL,arK];refine rP (L:=zR n l l) ae (λm i hi=>?_) (λm=>?_)
 ·simp only [zR,JM,arQ,hi,arH,arJ,cm hi,a6,arP,arL,arK,bx (show i≤4611686018427387904 by omega)]
 ·simp only [zR,JM,Rr,arU,arI,arK]
theorem apY{r:Request}(h:qC n r):JO n r r=some true:=by
 have Z:=h.args;unfold JO Rs;rw [adC hn aY h.Gd,adC hn aY h.Ge];simp only [arH,arL,arK,beq_self_eq_true,arM,arJ,an];refine rP (L:=zS n r r) Z (λm i hi=>?_) (λm=>?_)
 ·simp only [zS,JN,arQ,hi,arH,arJ,cm hi,a6,arP,Bool.and_self,arL,arK,bx (show i≤4611686018427387904 by omega)]
 ·simp only [zS,JN,Rt,arU,arI,arK]
theorem adD{r:dg}(h:By n r):zX n r r=some true:=by
 have Z:=h.rO;unfold zX;rw [apQ hn aY h.st,apS hn aY h.Gw h.qH,apV hn aY h.Gx h.tv,apW hn aY h.pl,apX hn aY h.aA];simp only [arH,arL,arM,arK,arJ,an];refine rP (L:=zW n r r) Z (λm i hi=>?_) (λm=>?_)
 ·simp only [zW,JU,arQ,hi,arH,arJ,cm hi,a6,arP,apY hn aY (h.Gy i),an,arL,arK,bx (show i≤4611686018427387904 by omega)]
 ·simp only [zW,JU,Ry,arU,arI,arK]
end
abbrev qI:=Int×List bG×kq×List bH×cp×List bz×List Request×Int
def rQ:eB qI:=dF gG λ_=>dF rI λ_=>dF x_ λ_=>dF pJ λ_=>dF pH λ_=>dF qF λ_=>dF mO λ_=>gK
def vq(p:qI):arY:=qA p.1++(jl rH p.2.1++(jl iq p.2.2.1++(jl Bu p.2.2.2.1++(Vb p.2.2.2.2.1++(jl Gt p.2.2.2.2.2.1++(jl Bv p.2.2.2.2.2.2.1++l2 p.2.2.2.2.2.2.2))))))
structure MZ(p:qI):Prop where
 pos:lC p.1
 qH:(p.2.1.length≤2147483647∧∀v∈p.2.1,vn v)∧pE p.2.1=true
 src:p.2.2.1.length≤16∧∀s∈p.2.2.1,s.length≤16384
 tv:(p.2.2.2.1.length≤32∧∀v∈p.2.2.2.1,x6 v)∧n5 p.2.2.2.1=true
 Vn:(lC p.2.2.2.2.1.Version∧p.2.2.2.2.1.aV.length≤16∧∀v∈p.2.2.2.2.1.aV,vo v)∧n4 p.2.2.2.2.1=true
 aA:p.2.2.2.2.2.1.length≤32∧∀h∈p.2.2.2.2.2.1,h.Key.length≤24∧lC h.Count
 rO:p.2.2.2.2.2.2.1.length≤64∧∀v∈p.2.2.2.2.2.2.1,rL v∧vp v=true
 apZ:jk p.2.2.2.2.2.2.2
def BA:ej rQ vq MZ:=
 (ht.dep λ_ _=>x3.dep λ_ _=>MU.dep λ_ _=>x8.dep λ_ _=>x4.dep λ_ _=>MT.dep λ_ _=>x'.dep λ_ _=>ir).as _ _
  (λv=>⟨λh=>⟨h.pos,h.qH,h.src,h.tv,h.Vn,h.aA,h.rO,h.apZ⟩,λh=>⟨h.1,h.2.1,h.2.2.1,h.2.2.2.1,h.2.2.2.2.1,h.2.2.2.2.2.1,h.2.2.2.2.2.2.1,h.2.2.2.2.2.2.2⟩⟩) (λv _=>rfl)
def ap0{k:Nat}{t:arY}{e:Int}(h:pD k t = .error e):e≠0:=by
 unfold pD eX at h;cases ab:gW k t with
 |error f=>rw [ab]at h;cases h;exact k9 ab
 |ok r=>rw [ab]at h;cases h
def h9{α:Type}(z:α)(s:arY)(a:Int):Except Int (α×arY)→α×Int×Int
 |.ok (v,t)=>(v,aT s t,0)
 |.error e=>(z,a,e)
section
variable {n:Nat} (hn:3000000≤n) (aY:n≤1000000000) {s:arY} (hs:s.length<n)
theorem vr{α:Type}{z:α}{D:eB α}{t:arY}{a:Int}(h0:∀e,D t = .error e→e≠0):(bif (!decide ((res z s (D t)).2.2=0))then some (z,a,(res z s (D t)).2.2)else some ((res z s (D t)).1,(res z s (D t)).2.1,(res z s (D t)).2.2))=some (h9 z s a (D t)):=by
 cases h:D t with
 |error e=>rw [b9];simp only [dh (h0 e h),arJ];rfl
 |ok r=>obtain⟨v,bq⟩:=r;rfl
theorem ap1{a e:Int}(he:e≠0):wX n ⟨s,a,e⟩=some (0,a,e):=by unfold wX;simp only [dh he,arJ]
theorem ap2{a e:Int}(he:e≠0):zo n ⟨s,a,e⟩=some ([],a,e):=by unfold zo;simp only [dh he,arJ]
theorem Gz{p a e:Int}(he:e≠0):wW n p ⟨s,a,e⟩=some (0,a,e):=by unfold wW;simp only [dh he,arJ]
theorem ap3{a e:Int}(he:e≠0):zA n ⟨s,a,e⟩=some ([],a,e):=by unfold zA;simp only [dh he,arJ]
theorem adE{a e:Int}(he:e≠0):zq n ⟨s,a,e⟩=some (⟨0,[]⟩,a,e):=by unfold zq;simp only [dh he,arJ]
theorem ap4{a e:Int}(he:e≠0):zx n ⟨s,a,e⟩=some ([],a,e):=by unfold zx;simp only [dh he,arJ]
theorem adF{a e:Int}(he:e≠0):zB n ⟨s,a,e⟩=some (0,a,e):=by unfold zB;simp only [dh he,arJ]
include hn aY hs
theorem adG{t:arY}(aA:t <:+ s):wX n ⟨s,aT s t,0⟩=some (h9 0 s (aT s t) (gG t)):=by
 unfold wX;simp only [arH,arL,arK];rw [U3 aA (by omega) (by omega),an];exact vr (λe h=>ht.bZ _ _ h)
theorem ap5{t:arY}(aA:t <:+ s):zo n ⟨s,aT s t,0⟩=some (h9 [] s (aT s t) (rI t)):=by
 unfold zo;simp only [arH,arL,arK];rw [ape (by omega) aY hs aA,an];exact vr (λe h=>x3.bZ _ _ h)
theorem adH{k:Nat}(hk:k≤1000){t:arY}(aA:t <:+ s):wW n (k:Int) ⟨s,aT s t,0⟩=some (h9 0 s (aT s t) (pD k t)):=by
 unfold wW QE;simp only [arH,arL,arK];rw [vg aA (by omega) (by omega) (by omega),an,an];exact vr (λe h=>ap0 h)
theorem adI{k:Nat}(hk:k≤20000){t:arY}(aA:t <:+ s):Du n (k:Int) ⟨s,aT s t,0⟩=some (h9 [] s (aT s t) (eG k t)):=by
 unfold Du QF;simp only [arH,arL,arK];rw [Ga aA (by omega) (by omega) (by omega),an,an];exact vr (λe h=>(Bn k (by omega)).bZ _ _ h)
theorem ap6{t:arY}(aA:t <:+ s):zA n ⟨s,aT s t,0⟩=some (h9 [] s (aT s t) (pJ t)):=by
 unfold zA;simp only [arH,arL,arK];rw [apn (by omega) aY hs aA,an];exact vr (λe h=>x8.bZ _ _ h)
theorem ap7{t:arY}(aA:t <:+ s):zq n ⟨s,aT s t,0⟩=some (h9 ⟨0,[]⟩ s (aT s t) (pH t)):=by
 unfold zq;simp only [arH,arL,arK];rw [aph (by omega) aY hs aA,an];exact vr (λe h=>x4.bZ _ _ h)
theorem ap8{t:arY}(aA:t <:+ s):zx n ⟨s,aT s t,0⟩=some (h9 [] s (aT s t) (mO t)):=by
 unfold zx;simp only [arH,arL,arK];rw [apA (by omega) aY hs aA,an];exact vr (λe h=>x'.bZ _ _ h)
theorem ap9{t:arY}(aA:t <:+ s):zB n ⟨s,aT s t,0⟩=some (h9 0 s (aT s t) (gK t)):=by
 unfold zB;simp only [arH,arL,arK];rw [Bo aA (by omega) (by omega),an];exact vr (λe h=>ir.bZ _ _ h)
theorem ap'{b:fs}(hb:b.s=s){r1 r26 r27 r2 v25}{a e:Int}{l:List bz}(he:e≠0):kp e (ur n b r1 r26 r27 r2 v25 a e l):=by
 unfold ur;rw [ap4 he,an,adF he,an];exact⟨_,_,rfl⟩
theorem BB{b:fs}(hb:b.s=s){r1 r26 r27 r2 v25}{a e c:Int}{l:List bz}{m:Nat}(he:e≠0):kp e (rk n b r1 r26 r27 r2 v25 (m+1) a e l c):=by
 have sd:decide (e=0)=false:=decide_eq_false he;simp only [rk,Dw,sd,dV,Bool.and_false,arK];exact ap' hn aY hs hb he
theorem ap_{b:fs}(hb:b.s=s){r1 r2}{a e:Int}{l:kq}(he:e≠0):kp e (ut n b r1 r2 a e l):=by
 unfold ut zj;rw [ap3 he,an,adE he,an,an,Gz he,an];obtain⟨m,rfl⟩:∃j,n=j+1:=⟨n-1,by omega⟩
 exact BB hn aY hs hb he
theorem M0{b:fs}(hb:b.s=s){r1 r2}{a e c:Int}{l:kq}{m:Nat}(he:e≠0):kp e (uu n b r1 r2 (m+1) a e l c):=by
 have sd:decide (e=0)=false:=decide_eq_false he;simp only [uu,Dx,sd,dV,Bool.and_false,arK];exact ap_ hn aY hs hb he
theorem aqa{b:fs}(hb:b.s=s){r1:Int×Int×Int}{r26:List bH×Int×Int}{r27:cp×Int×Int}{r2:List bG×Int×Int}{v25:kq}{l:List bz}{t:arY}(aA:t <:+ s):
 match dF mO (λ_=>gK) t with|.ok (p,bq)=>ur n b r1 r26 r27 r2 v25 (aT s t) 0 l=some (⟨⟨r1.1,⟨0,0,[]⟩,[],r26.1,r27.1,l,p.1,p.2⟩,r2.1,v25⟩,aT s bq,0)|.error e=>kp e (ur n b r1 r26 r27 r2 v25 (aT s t) 0 l):=by
 unfold ur dF;rw [hb,ap8 hn aY hs aA,an];cases g1:mO t with
 |error e=>
  have he:=x'.bZ _ _ g1;simp only [h9];rw [adF he,an];exact⟨_,_,rfl⟩
 |ok r=>
  obtain⟨dk,t1⟩:=r;have gr:=eH x' g1 aA;simp only [h9];rw [ap9 hn aY hs gr,an];cases g2:gK t1 with
  |error e=>exact⟨_,_,rfl⟩
  |ok r=>rfl
theorem aqb{b:fs}(hb:b.s=s){r1:Int×Int×Int}{r26:List bH×Int×Int}{r27:cp×Int×Int}{r2:List bG×Int×Int}{v25:kq}{u:Nat}(hu:u<n){t:arY}(aA:t <:+ s):
 match dF (fV (eX (λp=>(⟨p.1,p.2⟩:bz)) (dF (eG 24) λ_=>gG)) u) (λ_=>dF mO (λ_=>gK)) t with|.ok (p,bq)=>rk n b r1 r26 r27 r2 v25 n (aT s t) 0 [] (u:Int)=some (⟨⟨r1.1,⟨0,0,[]⟩,[],r26.1,r27.1,p.1,p.2.1,p.2.2⟩,r2.1,v25⟩,aT s bq,0)|.error e=>kp e (rk n b r1 r26 r27 r2 v25 n (aT s t) 0 [] (u:Int)):=by
 have cO:=rJ (L:=λm i t acc=>rk n b r1 r26 r27 r2 v25 m (aT s t) 0 acc ((u-i:Nat):Int)) (f:=λ_ v=>v) (D:=eX (λp=>(⟨p.1,p.2⟩:bz)) (dF (eG 24) λ_=>gG)) (u:=u) (s:=s) (fin:=λacc t=>ur n b r1 r26 r27 r2 v25 (aT s t) 0 acc) (bad:=λe x=>kp e x) (λx v t hx=>MS.hZ hx) (by
  intro m i t acc hm hi ha aA;have hc:(0:Int)<((u-i:Nat):Int):=by omega
  simp only [rk,Dw,hc,arH,arJ,Dv,an];rw [hb,show(24:Int)=((24:Nat):Int)from rfl,adI hn aY hs (by omega) aA,an]
  have fI:room (acc.length+1) 24=true:=i_ (by omega)
  obtain⟨m,rfl⟩:∃j,m=j+1:=⟨m-1,by omega⟩
  unfold eX dF;cases g1:eG 24 t with
  |error e=>
   have he:=jQ.bZ _ _ g1;simp only [h9];rw [ap1 he,an];simp only [arS,show(((24:Nat):Int)).toNat=24 from rfl,fI,a6]
   exact BB hn aY hs hb he
  |ok r=>
   obtain⟨dk,t1⟩:=r;have gr:=eH jQ g1 aA;simp only [h9];rw [adG hn aY hs gr,an];cases g2:gG t1 with
   |error e=>
    have he:=ht.bZ _ _ g2;simp only [h9,arS,fI,a6];exact BB hn aY hs hb he
   |ok r=>
    obtain⟨ec,t2⟩:=r;simp only [h9,arS,fI,a6];rw [show ar0 (((u-i:Nat):Int)-1)=((u-(i+1):Nat):Int)by rw [wr]<;>omega]) (by
  intro m t acc ha aA;simp only [rk,Dw,Nat.sub_self,show¬ (0:Int)<((0:Nat):Int)by omega,arI,arK]) u n 0 t [] (by omega) hu rfl aA
 simp only [Nat.sub_zero]at cO;unfold dF;cases ai:fV (eX (λp=>(⟨p.1,p.2⟩:bz)) (dF (eG 24) λ_=>gG)) u t with
 |error e=>unfold dF at ai;rw [ai];unfold dF at cO;rw [ai]at cO;exact cO
 |ok r=>
  obtain⟨l,jR⟩:=r;have Vo:=eH (MS.rep u) ai aA;rw [ai]at cO;unfold dF at ai;rw [ai];simp only [List.nil_append,rK]at cO ⊢;rw [cO];have hj:=aqa hn aY hs hb (r1:=r1) (r26:=r26) (r27:=r27) (r2:=r2) (v25:=v25) (l:=l) Vo;unfold dF at hj;cases g:mO jR with
  |error e=>rw [g]at hj;exact hj
  |ok r=>
   obtain⟨q,t1⟩:=r;rw [g]at hj;simp only at hj ⊢
   cases e6:gK t1 with
   |error e=>rw [e6]at hj;exact hj
   |ok r=>rw [e6]at hj;exact hj
end
def jS{α β:Type}{D:eB α}{k:α→eB β}{t:arY}{e:Int}(h:D t = .error e):dF D k t = .error e:=by unfold dF;rw [h]
def kM{α β:Type}{D:eB α}{k:α→eB β}{t bq:arY}{v:α}(h:D t = .ok (v,bq)):dF D k t=match k v bq with|.ok (w,u)=>.ok ((v,w),u)|.error e=>.error e:=by unfold dF;rw [h];rfl
def adJ{t:arY}:qF t=match gW 32 t with|.ok (u,t)=>fV (eX (λp=>(⟨p.1,p.2⟩:bz)) (dF (eG 24) λ_=>gG)) u t|.error e=>.error e:=rfl
abbrev tailD:eB (List bH×cp×List bz×List Request×Int):=dF pJ λ_=>dF pH λ_=>dF qF λ_=>dF mO λ_=>gK
section
variable {n:Nat} (hn:3000000≤n) (aY:n≤1000000000) {s:arY} (hs:s.length<n)
include hn aY hs
theorem aqc{b:fs}(hb:b.s=s){r1:Int×Int×Int}{r2:List bG×Int×Int}{v25:kq}{t:arY}(aA:t <:+ s):
 match tailD t with|.ok (p,bq)=>ut n b r1 r2 (aT s t) 0 v25=some (⟨⟨r1.1,⟨0,0,[]⟩,[],p.1,p.2.1,p.2.2.1,p.2.2.2.1,p.2.2.2.2⟩,r2.1,v25⟩,aT s bq,0)|.error e=>kp e (ut n b r1 r2 (aT s t) 0 v25):=by
 unfold ut zj tailD;obtain⟨lF,kx⟩:∃j,n=j+1:=⟨n-1,by omega⟩
 rw [hb,ap6 hn aY hs aA,an];cases g1:pJ t with
 |error e=>
  have he:=x8.bZ _ _ g1;rw [jS g1];simp only [h9];rw [adE he,an,an,Gz he,an];have:=BB hn aY hs hb (r1:=r1) (r26:=([],aT s t,e)) (r27:=(⟨0,[]⟩,aT s t,e)) (r2:=r2) (v25:=v25) (a:=aT s t) (c:=0) (l:=[]) (m:=lF) he
  rw [←kx]at this;exact this
 |ok r=>
  obtain⟨dk,t1⟩:=r;have gr:=eH x8 g1 aA;rw [kM g1];simp only [h9];rw [ap7 hn aY hs gr,an,an];cases g2:pH t1 with
  |error e=>
   have he:=x4.bZ _ _ g2;rw [jS g2];simp only [h9];rw [Gz he,an];have:=BB hn aY hs hb (r1:=r1) (r26:=(dk,aT s t1,0)) (r27:=(⟨0,[]⟩,aT s t1,e)) (r2:=r2) (v25:=v25) (a:=aT s t1) (c:=0) (l:=[]) (m:=lF) he
   rw [←kx]at this;exact this
  |ok r=>
   obtain⟨ec,t2⟩:=r;have gh:=eH x4 g2 gr;rw [kM g2];simp only [h9];rw [show(32:Int)=((32:Nat):Int)from rfl,adH hn aY hs (by omega) gh,an]
   cases h:gW 32 t2 with
   |error e=>
    have he:=k9 h;have bJ:qF t2 = .error e:=by rw [adJ,h]
    rw [jS bJ,lE h];simp only [h9];have:=BB hn aY hs hb (r1:=r1) (r26:=(dk,aT s t1,0)) (r27:=(ec,aT s t2,0)) (r2:=r2) (v25:=v25) (a:=aT s t2) (c:=0) (l:=[]) (m:=lF) he
    rw [←kx]at this;exact this
   |ok r=>
    obtain⟨u,bq⟩:=r;obtain⟨Z,ab,aq⟩:=kL h;have dd:bq <:+ s:=List.IsSuffix.trans ⟨gF u,Z.symm⟩ gh;have hu:=dd.length_le;rw [lD h];simp only [h9];have cO:=aqb hn aY hs hb (r1:=r1) (r26:=(dk,aT s t1,0)) (r27:=(ec,aT s t2,0)) (r2:=r2) (v25:=v25) (u:=u) (by omega) dd
    have bJ:qF t2=fV (eX (λp=>(⟨p.1,p.2⟩:bz)) (dF (eG 24) λ_=>gG)) u bq:=by rw [adJ,h]
    cases ai:fV (eX (λp=>(⟨p.1,p.2⟩:bz)) (dF (eG 24) λ_=>gG)) u bq with
    |error e=>
     rw [jS ai]at cO;rw [ai]at bJ;rw [jS bJ];exact cO
    |ok r=>
     obtain⟨l,jR⟩:=r;rw [kM ai]at cO;rw [ai]at bJ;rw [kM bJ];cases g:dF mO (λ_=>gK) jR with
     |error e=>rw [g]at cO;exact cO
     |ok r=>rw [g]at cO;exact cO
theorem adK:match rQ s with|.ok (p,bq)=>Dy n ⟨s,0,0⟩=some (⟨⟨p.1,⟨0,0,[]⟩,[],p.2.2.2.1,p.2.2.2.2.1,p.2.2.2.2.2.1,p.2.2.2.2.2.2.1,p.2.2.2.2.2.2.2⟩,p.2.1,p.2.2.1⟩,aT s bq,0)|.error e=>kp e (Dy n ⟨s,0,0⟩):=by
 unfold Dy zj rQ;obtain⟨lF,kx⟩:∃j,n=j+1:=⟨n-1,by omega⟩
 have hb:(⟨s,0,0⟩:fs).s=s:=rfl;have aA:s <:+ s:=List.suffix_refl s;rw [show(⟨s,0,0⟩:fs)=⟨s,aT s s,0⟩by rw [U0],adG hn aY hs aA,an]
 generalize eR:(⟨s,aT s s,0⟩:fs)=B
 have hb:B.s=s:=by rw [←eR]
 rw [hb];cases g1:gG s with
 |error e=>
  have he:=ht.bZ _ _ g1;rw [jS g1];simp only [h9];rw [ap2 he,an,an,Gz he,an];have:=M0 hn aY hs hb (r1:=(0,aT s s,e)) (r2:=([],aT s s,e)) (a:=aT s s) (c:=0) (l:=[]) (m:=lF) he
  rw [←kx]at this;exact this
 |ok r=>
  obtain⟨dk,t1⟩:=r;have gr:=eH ht g1 aA;rw [kM g1];simp only [h9];rw [ap5 hn aY hs gr,an,an];cases g2:rI t1 with
  |error e=>
   have he:=x3.bZ _ _ g2;rw [jS g2];simp only [h9];rw [Gz he,an];have:=M0 hn aY hs hb (r1:=(dk,aT s t1,0)) (r2:=([],aT s t1,e)) (a:=aT s t1) (c:=0) (l:=[]) (m:=lF) he
   rw [←kx]at this;exact this
  |ok r=>
   obtain⟨ec,t2⟩:=r;have gh:=eH x3 g2 gr;rw [kM g2];simp only [h9];rw [show(16:Int)=((16:Nat):Int)from rfl,adH hn aY hs (by omega) gh,an]
   have jY:x_ t2=match gW 16 t2 with|.ok (u,t)=>fV (eG 16384) u t|.error e=>.error e:=rfl
   cases h:gW 16 t2 with
   |error e=>
    have he:=k9 h;rw [h]at jY;rw [jS jY,lE h];simp only [h9];have:=M0 hn aY hs hb (r1:=(dk,aT s t1,0)) (r2:=(ec,aT s t2,0)) (a:=aT s t2) (c:=0) (l:=[]) (m:=lF) he
    rw [←kx]at this;exact this
   |ok r=>
    obtain⟨u,bq⟩:=r;obtain⟨Z,ab,aq⟩:=kL h;have dd:bq <:+ s:=List.IsSuffix.trans ⟨gF u,Z.symm⟩ gh;have hu:=dd.length_le;rw [h]at jY;rw [lD h];simp only [h9]
    have cO:=rJ (L:=λm i t acc=>uu n B (dk,aT s t1,0) (ec,aT s t2,0) m (aT s t) 0 acc ((u-i:Nat):Int)) (f:=λ_ v=>v) (D:=eG 16384) (u:=u) (s:=s) (fin:=λacc t=>ut n B (dk,aT s t1,0) (ec,aT s t2,0) (aT s t) 0 acc) (bad:=λe x=>kp e x) (λx v t hx=>Bw.hZ hx) (by
     intro m i t acc hm hi ha aA;have hc:(0:Int)<((u-i:Nat):Int):=by omega
     simp only [uu,Dx,hc,arH,arJ,Dv,an];rw [hb,show(16384:Int)=((16384:Nat):Int)from rfl,adI hn aY hs (by omega) aA,an]
     have fI:room (acc.length+1) 16=true:=i_ (by omega)
     obtain⟨m,rfl⟩:∃j,m=j+1:=⟨m-1,by omega⟩
     cases g1:eG 16384 t with
     |error e=>
      have he:=Bw.bZ _ _ g1;simp only [h9,arS,fI,a6];exact M0 hn aY hs hb he
     |ok r=>
      obtain⟨dk,t1⟩:=r;simp only [h9,arS,fI,a6];rw [show ar0 (((u-i:Nat):Int)-1)=((u-(i+1):Nat):Int)by rw [wr]<;>omega]) (by
     intro m t acc ha aA;simp only [uu,Dx,Nat.sub_self,show¬ (0:Int)<((0:Nat):Int)by omega,arI,arK]) u n 0 bq [] (by omega) (by omega) rfl dd
    simp only [Nat.sub_zero]at cO;cases ai:fV (eG 16384) u bq with
    |error e=>
     rw [ai]at cO;simp only at jY
     rw [ai]at jY;rw [jS jY];exact cO
    |ok r=>
     obtain⟨l,jR⟩:=r;have Vo:=eH (Bw.rep u) ai dd;rw [ai]at cO;simp only at jY
     rw [ai]at jY;rw [kM jY];simp only [List.nil_append,rK]at cO ⊢;rw [cO];have hj:=aqc hn aY hs hb (r1:=(dk,aT s t1,0)) (r2:=(ec,aT s t2,0)) (v25:=l) Vo;unfold tailD at hj;cases g:(dF pJ λ_=>dF pH λ_=>dF qF λ_=>dF mO λ_=>gK) jR with
     |error e=>rw [g]at hj;exact hj
     |ok r=>rw [g]at hj;exact hj
end
abbrev vt:dg:=⟨0,⟨0,0,[]⟩,[],[],⟨0,[]⟩,[],[],0⟩
def qJ(p:qI)(l:List a_):dg:=⟨p.1,pG p.2.1 p.1,l,p.2.2.2.1,p.2.2.2.2.1,p.2.2.2.2.2.1,p.2.2.2.2.2.2.1,p.2.2.2.2.2.2.2⟩
def aqd(l:List bG)(a:Int)(i:Nat)(hi:i<l.length):((pG l a).Rows.getD i default)=⟨(l.getD i default).Key,[⟨a,(l.getD i default).bY⟩]⟩:=by
 unfold pG;simp [List.getD_eq_getElem?_getD,hi]
def aqe{n:Nat}(hn:2000≤n){l:List bG}(ae:l.length<n)(h:∀p∈l,vn p)(a:Int):Gj n (pG l a):=by
 refine⟨by unfold pG;simpa using ae,λi=>?_⟩
 by_cases hi:i<l.length
 ·rw [aqd l a i hi];have hp:=ade (h _ (U8 hi));refine⟨hp.1,by show 1<n;omega,λk=>?_⟩
  refine oT (P:=λv:Version=>v.bY.S.length≤1000) (λx hx=>?_) (by show([]:arY).length≤1000;simp) k
  rw [List.mem_singleton.1 hx];exact hp.2
 ·have:(pG l a).Rows.getD i default=default:=by
   unfold pG;rw [List.getD_eq_getElem?_getD,List.getElem?_eq_none (by simp;omega)];rfl
  rw [this];refine⟨by show([]:arY).length≤1000;simp,by show 0<n;omega,λk=>?_⟩
  show(([]:List Version).getD k default).bY.S.length≤1000
  simp [List.getD];show([]:arY).length≤1000
  simp
def adL{n:Nat}(hn:2000≤n):qC n default:=Bx hn ⟨by show jk 0;unfold jk;omega,by show jk 0;unfold jk;omega,by show([]:arY).length≤16;simp,⟨by show([]:List bk).length≤6;simp,λv ax=>by cases ax⟩,rfl,rfl⟩
def Vp{n:Nat}(hn:2000≤n){p:qI}(h:MZ p)(hp:p.2.1.length<n){l:List a_}(ae:l.length≤1000)(hg:∀q∈l,rM q):By n (qJ p l) where
 st:=aqe hn hp h.qH.1.2 p.1
 Gw:=by show l.length<n;omega
 qH:=λi=>oT (P:=rN) (λx hx=>(hg x hx).fG) adB i
 Gx:=by have:=h.tv.1.1;show p.2.2.2.1.length<n;omega
 tv:=MN hn h.tv.1.2
 pl:=by have:=h.Vn.1.2.1;show p.2.2.2.2.1.aV.length<n;omega
 MY:=MI h.Vn.1.2.2
 aA:=by have:=h.aA.1;show p.2.2.2.2.2.1.length<n;omega
 lf:=λi=>oT (P:=λx:bz=>x.Key.length≤1000) (λx hx=>by have:=(h.aA.2 x hx).1;omega) (by show([]:arY).length≤1000;simp) i
 rO:=by have:=h.rO.1;show p.2.2.2.2.2.2.1.length<n;omega
 Gy:=λi=>oT (P:=qC n) (λx hx=>Bx hn (h.rO.2 x hx).1) (adL hn) i
def adM{α:Type}{E:α→arY}:∀{l:List α} {x:α},x∈l→(E x).length≤(ti E l).length
 |y::l,x,h=>by
  rw [MA,arR];rcases List.mem_cons.1 h with rfl|h
  ·omega
  ·have:=adM (E:=E) h;omega
def aqf{p:qI}{x:arY}(h:x∈p.2.2.1):x.length≤(vq p).length:=by
 have Z:=adM (E:=iq) h;have ab:x.length≤(iq x).length:=by unfold iq;simp
 unfold vq jl;simp only [arR];omega
def Vq{p:qI}(h:MZ p):p.2.1.length≤(vq p).length:=by
 have Z:=UX (E:=rH) (l:=p.2.1) λv _=>by unfold rH iq;simp [rD]
 unfold vq;rw [show jl rH p.2.1=gF p.2.1.length++ti rH p.2.1 from rfl]
 simp only [arR];omega
def Vr{n:Nat}(hn:2000≤n):By n vt:=by
 have h0:∀{α:Type} (l:List α),l=[]→l.length<n:=λl h=>by rw [h];show 0<n;omega
 exact {
  st:=by
   refine⟨h0 _ rfl,λi=>⟨?_,?_,λk=>?_⟩⟩
   ·show([]:arY).length≤1000;simp
   ·exact h0 _ rfl
   ·show([]:arY).length≤1000;simp
  Gw:=h0 _ rfl
  qH:=λi=>oT (P:=rN) (λx hx=>absurd hx (by show¬ x∈([]:List a_);simp)) adB i
  Gx:=h0 _ rfl
  tv:=MN hn (λx hx=>by cases hx)
  pl:=h0 _ rfl
  MY:=MI (λx hx=>by cases hx)
  aA:=h0 _ rfl
  lf:=λi=>by show([]:arY).length≤1000;simp
  rO:=h0 _ rfl
  Gy:=λi=>oT (P:=qC n) (λx hx=>absurd hx (by show¬ x∈([]:List Request);simp)) (adL hn) i}
def M1{s t:arY}(h:t <:+ s):(aT s t=((s.length:Nat):Int))↔t=[]:=by
 have:=h.length_le
 unfold aT;constructor
 ·intro e;have:t.length=0:=by omega
  exact List.eq_nil_of_length_eq_zero this
 ·intro e;subst e;simp
def vu(p:qI)(t:arY)(o:List a_×Bool):dg×Int:=
 bif ((!decide (t=[]) || !(decide (0≤p.1)&&decide (p.1≤1099511627776))) || !o.2) || !pM (qJ p o.1) then(vt,5) else(qJ p o.1,0)
section
variable {n:Nat} (hn:3000000≤n) (aY:n≤1000000000) {s:arY} (hs:s.length≤2000)
include hn aY hs
theorem adN{p:qI}(hp:MZ p)(ae:p.2.1.length≤2000)(h0:(decide (0≤p.1)&&decide (p.1≤1099511627776))=true):D0 n p.2.1 p.1=some (pG p.2.1 p.1,0)∧EA n p.2.1 p.1=some (pG p.2.1 p.1,0):=by
 have e:Br p.2.1 p.1=(pG p.2.1 p.1,0):=by
  simp only [Bool.and_eq_true,decide_eq_true_eq]at h0;unfold Br;rw [hp.qH.2,decide_eq_false (show¬ p.1<0 by omega),decide_eq_false (show¬ 1099511627776<p.1 by omega)];rfl
 rw [apb (by omega) aY (by omega) (MH hp.qH.1.2),apc (by omega) aY (by omega) (MH hp.qH.1.2),e]
 exact⟨rfl,rfl⟩
theorem aqg{p:qI}{t:arY}(hd:rQ s = .ok (p,t)){o:List a_×Bool}(aw:JA n p.2.2.1=some o)(F3:o.1.length≤1000)(hg:∀q∈o.1,rM q):zL n s=some (vu p t o):=by
 have ai:=adK hn aY (s:=s) (by omega)
 rw [hd]at ai;simp only at ai
 obtain⟨hc,hp⟩:=BA.eN _ _ _ hd;have GA:=BA.hZ hd
 have hlen:p.2.1.length≤2000:=by
  have:=Vq hp;have ab:s.length=(vq p).length+t.length:=by rw [hc];simp
  omega
 have dC:=Vp (n:=n) (by omega) hp (by omega) F3 hg
 unfold zL vu;rw [ai,an]
 have e1:decide (aT s t=((s.length:Nat):Int))=decide (t=[]):=by
  by_cases h:t=[]
  ·rw [decide_eq_true h,decide_eq_true ((M1 GA).2 h)]
  ·rw [decide_eq_false h,decide_eq_false (λg=>h ((M1 GA).1 g))]
 simp only [arH,arL,arK,dJ];rw [e1,show decide (p.1<0) = !decide (0≤p.1)from Bz hn aY _ _,show decide (1099511627776<p.1) = !decide (p.1≤1099511627776)from Bz hn aY _ _]
 by_cases aA:t=[]
 ·rw [decide_eq_true aA];cases h0:decide (0≤p.1)&&decide (p.1≤1099511627776)
  ·have:(!true || !decide (0≤p.1) || !decide (p.1≤1099511627776))=true:=by
    cases Z:decide (0≤p.1)<;>cases ab:decide (p.1≤1099511627776)<;>rw [Z,ab]at h0<;>first|rfl|cases h0
   rw [this];rfl
  ·have:(!true || !decide (0≤p.1) || !decide (p.1≤1099511627776))=false:=by
    cases Z:decide (0≤p.1)<;>cases ab:decide (p.1≤1099511627776)<;>rw [Z,ab]at h0<;>first|rfl|cases h0
   rw [this,arK,aw,an,(adN hn aY hs hp hlen h0).1];cases arB:o.2
   ·rfl
   ·simp only [arL,arK,an,arH];refine(congrArg (λx=>Option.bind x _) (apN hn aY dC)).trans ?_
    simp only [an];cases pM (qJ p o.1)<;>rfl
 ·rw [decide_eq_false aA];rfl
theorem aqh{
 p:qI} {t:arY} (hd:rQ s = .ok (p,t)) {o:List a_×Bool} (aw:Ll n p.2.2.1=some o) (F3:o.1.length≤1000) (hg:∀q∈o.1,rM q):sV n s=some (vu p t o):=by
 obtain⟨hc,hp⟩:=BA.eN _ _ _ hd;have GA:=BA.hZ hd
 have hlen:p.2.1.length≤2000:=by
  have:=Vq hp;have ab:s.length=(vq p).length+t.length:=by rw [hc];simp
  omega
 have dC:=Vp (n:=n) (by omega) hp (by omega) F3 hg
 have oV:s.length<n:=by omega
 have nd:2000≤n:=by omega
 have cc:nL n s 0=nL n s (aT s s):=by rw [U0]
 unfold sV;simp only [fF,show¬ 16384<s.length by omega,arI,arK]
 rw [cc,vf (List.suffix_refl s) (by omega) (by omega),an]
 unfold rQ at hd;cases g1:gG s with
 |error e=>rw [jS g1]at hd;cases hd
 |ok r=>
  obtain⟨dk,t1⟩:=r;have gr:=eH ht g1 (List.suffix_refl s);rw [kM g1]at hd;rw [cR];simp only [arH,arL,arK];rw [adf nd aY oV gr,an];cases g2:rI t1 with
  |error e=>rw [jS g2]at hd;cases hd
  |ok r=>
   obtain⟨ec,t2⟩:=r;have gh:=eH x3 g2 gr;rw [kM g2]at hd;rw [cR];simp only [arH,arL,arK];rw [adx nd aY oV gh,an];cases g3:x_ t2 with
   |error e=>rw [jS g3]at hd;cases hd
   |ok r=>
    obtain⟨il,t3⟩:=r;have mp:=eH MU g3 gh;rw [kM g3]at hd;rw [cR];simp only [arH,arL,arK];rw [adl nd aY oV mp,an];cases g4:pJ t3 with
    |error e=>rw [jS g4]at hd;cases hd
    |ok r=>
     obtain⟨fu,t4⟩:=r;have ne:=eH x8 g4 mp;rw [kM g4]at hd;rw [cR];simp only [arH,arL,arK];rw [adh nd aY oV ne,an];cases g5:pH t4 with
     |error e=>rw [jS g5]at hd;cases hd
     |ok r=>
      obtain⟨kf,t5⟩:=r;have qG:=eH x4 g5 ne;rw [kM g5]at hd;rw [cR];simp only [arH,arL,arK];rw [ady nd aY oV qG,an];cases g6:qF t5 with
      |error e=>rw [jS g6]at hd;cases hd
      |ok r=>
       obtain⟨mD,t6⟩:=r;have tu:=eH MT g6 qG;rw [kM g6]at hd;rw [cR];simp only [arH,arL,arK];rw [adw nd aY oV tu,an];cases g7:mO t6 with
       |error e=>rw [jS g7]at hd;cases hd
       |ok r=>
        obtain⟨rl,t7⟩:=r;have Vs:=eH x' g7 tu;rw [kM g7]at hd;rw [cR];simp only [arH,arL,arK];rw [tj Vs (by omega) (by omega),an]
        cases g8:gK t7 with
        |error e=>rw [g8]at hd;cases hd
        |ok r=>
         obtain⟨h5,t8⟩:=r;rw [g8]at hd;cases hd;rw [cR];simp only [arH,arL,arK,dJ]at aw ⊢;rw [aw,an]
         have e1:decide (aT s t=((s.length:Nat):Int))=decide (t=[]):=by
          by_cases h:t=[]
          ·rw [decide_eq_true h,decide_eq_true ((M1 GA).2 h)]
          ·rw [decide_eq_false h,decide_eq_false (λg=>h ((M1 GA).1 g))]
         unfold vu;rw [e1,show decide (dk<0) = !decide (0≤dk)from Bz hn aY _ _,show decide (1099511627776<dk) = !decide (dk≤1099511627776)from Bz hn aY _ _]
         cases h0:decide (0≤dk)&&decide (dk≤1099511627776)
         ·have:∀b c:Bool,(b || !decide (0≤dk) || !decide (dk≤1099511627776)||c)=true:=by
           intro b c;cases Z:decide (0≤dk)<;>cases ab:decide (dk≤1099511627776)<;>rw [Z,ab]at h0<;>first|(cases b<;>rfl)|cases h0
          rw [this];cases decide (t=[])<;>rfl
         ·have adO:decide (0≤dk)=true:=by cases Z:decide (0≤dk) with|true=>rfl|false=>rw [Z]at h0;cases h0
          have aqi:decide (dk≤1099511627776)=true:=by cases Z:decide (dk≤1099511627776) with|true=>rfl|false=>rw [Z,adO]at h0;cases h0
          have ao:Ex n ⟨dk,(pG (dk,ec,il,fu,kf,mD,rl,h5).2.1 (dk,ec,il,fu,kf,mD,rl,h5).1,(0:Int)).1,o.1,fu,kf,mD,rl,h5⟩=some (pM (qJ (dk,ec,il,fu,kf,mD,rl,h5) o.1)):=apP hn aY dC;rw [adO,aqi,(adN hn aY hs hp hlen h0).2,an,ao,an];cases decide (t=[])<;>cases o.2<;>cases pM (qJ (dk,ec,il,fu,kf,mD,rl,h5) o.1)<;>rfl
theorem aqj{
 e:Int} (hd:rQ s = .error e):sV n s=some (vt,e):=by
 have oV:s.length<n:=by omega
 have nd:2000≤n:=by omega
 have cc:nL n s 0=nL n s (aT s s):=by rw [U0]
 unfold sV;simp only [fF,show¬ 16384<s.length by omega,arI,arK]
 rw [cc,vf (List.suffix_refl s) (by omega) (by omega),an]
 unfold rQ at hd;cases g1:gG s with
 |error f=>rw [jS g1]at hd;cases hd;rw [b9];simp only [dh (ht.bZ _ _ g1),arJ]
 |ok r=>
  obtain⟨dk,t1⟩:=r;have gr:=eH ht g1 (List.suffix_refl s);rw [kM g1]at hd;rw [cR];simp only [arH,arL,arK];rw [adf nd aY oV gr,an];cases g2:rI t1 with
  |error f=>rw [jS g2]at hd;cases hd;rw [b9];simp only [dh (x3.bZ _ _ g2),arJ]
  |ok r=>
   obtain⟨ec,t2⟩:=r;have gh:=eH x3 g2 gr;rw [kM g2]at hd;rw [cR];simp only [arH,arL,arK];rw [adx nd aY oV gh,an];cases g3:x_ t2 with
   |error f=>rw [jS g3]at hd;cases hd;rw [b9];simp only [dh (MU.bZ _ _ g3),arJ]
   |ok r=>
    obtain⟨il,t3⟩:=r;have mp:=eH MU g3 gh;rw [kM g3]at hd;rw [cR];simp only [arH,arL,arK];rw [adl nd aY oV mp,an];cases g4:pJ t3 with
    |error f=>rw [jS g4]at hd;cases hd;rw [b9];simp only [dh (x8.bZ _ _ g4),arJ]
    |ok r=>
     obtain⟨fu,t4⟩:=r;have ne:=eH x8 g4 mp;rw [kM g4]at hd;rw [cR];simp only [arH,arL,arK];rw [adh nd aY oV ne,an];cases g5:pH t4 with
     |error f=>rw [jS g5]at hd;cases hd;rw [b9];simp only [dh (x4.bZ _ _ g5),arJ]
     |ok r=>
      obtain⟨kf,t5⟩:=r;have qG:=eH x4 g5 ne;rw [kM g5]at hd;rw [cR];simp only [arH,arL,arK];rw [ady nd aY oV qG,an];cases g6:qF t5 with
      |error f=>rw [jS g6]at hd;cases hd;rw [b9];simp only [dh (MT.bZ _ _ g6),arJ]
      |ok r=>
       obtain⟨mD,t6⟩:=r;have tu:=eH MT g6 qG;rw [kM g6]at hd;rw [cR];simp only [arH,arL,arK];rw [adw nd aY oV tu,an];cases g7:mO t6 with
       |error f=>rw [jS g7]at hd;cases hd;rw [b9];simp only [dh (x'.bZ _ _ g7),arJ]
       |ok r=>
        obtain⟨rl,t7⟩:=r;have Vs:=eH x' g7 tu;rw [kM g7]at hd;rw [cR];simp only [arH,arL,arK];rw [tj Vs (by omega) (by omega),an]
        cases g8:gK t7 with
        |error f=>rw [g8]at hd;cases hd;rw [b9];simp only [dh (ir.bZ _ _ g8),arJ]
        |ok r=>rw [g8]at hd;cases hd
theorem aqk:∃R,zL n s=some R∧sV n s=some R∧By n R.1∧(R.2=0→∃p l,rQ s = .ok (p,[])∧R.1=qJ p l∧l.map nf=p.2.2.1∧(∀q∈l,rM q)∧l.length≤1000∧pM (qJ p l)=true∧0≤p.1∧p.1≤1099511627776)∧(R.2≠0→R.1=vt):=by
 cases hd:rQ s with
 |error e=>
  have ai:=adK hn aY (s:=s) (by omega)
  rw [hd]at ai;obtain⟨v,a,ai⟩:=ai;have he:=BA.bZ _ _ hd;refine⟨(vt,e),?_,aqj hn aY hs hd,Vr (by omega),λh=>absurd h he,λ_=>rfl⟩
  unfold zL;rw [ai,an];simp only [dh he,arJ]
 |ok r=>
  obtain⟨p,t⟩:=r;obtain⟨hc,hp⟩:=BA.eN _ _ _ hd;have ab:s.length=(vq p).length+t.length:=by rw [hc];simp
  have yN:=hp.src.1;obtain⟨o,dU,h3,arC,M3,aql⟩:=apI (n:=n) hn p.2.2.1 (by omega) (λx hx=>by have:=aqf hx;omega)
  have hlen:=Vq hp;refine⟨vu p t o,aqg hn aY hs hd dU (by omega) M3,aqh hn aY hs hd h3 (by omega) M3,?_,?_,?_⟩
  ·unfold vu;cases ((!decide (t=[]) || !(decide (0≤p.1)&&decide (p.1≤1099511627776))) || !o.2) || !pM (qJ p o.1)
   ·exact Vp (by omega) hp (by omega) (by omega) M3
   ·exact Vr (by omega)
  ·intro h;unfold vu at h ⊢;cases hb:((!decide (t=[]) || !(decide (0≤p.1)&&decide (p.1≤1099511627776))) || !o.2) || !pM (qJ p o.1)
   ·simp only [Bool.or_eq_false_iff,Bool.not_eq_false',Bool.and_eq_true,decide_eq_true_eq]at hb;obtain⟨⟨⟨df,hG,nS⟩,u_⟩,aqm⟩:=hb;subst df;exact⟨p,o.1,rfl,rfl,aql u_,M3,by omega,aqm,hG,nS⟩
   ·rw [hb]at h;cases h
  ·intro h;unfold vu at h ⊢;cases hb:((!decide (t=[]) || !(decide (0≤p.1)&&decide (p.1≤1099511627776))) || !o.2) || !pM (qJ p o.1)
   ·rw [hb]at h;exact absurd rfl h
   ·rfl
end
def aqn:JV 10000000=some true:=by kernel_rfl
def aqo(s:arY):Tb 10000000 s=some true:=by
 unfold Tb;simp only [fF,lA,aqn,an];by_cases Z:s.length≤2000
 ·simp only [show¬ 2000<s.length by omega,arI,arK]
  obtain⟨R,e1,e2,e3,_⟩:=aqk (n:=10000000) (by omega) (by omega) Z
  have gg:w3 10000000 s=some R:=by
   unfold w3;simp only [fF,show¬ 16384<s.length by omega,arI,arK]
   rw [e1];rfl
  rw [gg,e2];simp only [an];rw [adD (by omega) (by omega) e3]
  simp only [an,arH,arJ]
 ·by_cases ab:s.length≤16384
  ·simp only [show 2000<s.length by omega,ab,arH,arJ]
  ·have e1:w3 10000000 s=some (vt,2):=by
    unfold w3;simp only [fF,show 16384<s.length by omega,arH,arJ]
   have e2:sV 10000000 s=some (vt,2):=by
    unfold sV;simp only [fF,show 16384<s.length by omega,arH,arJ]
   simp only [show 2000<s.length by omega,ab,arH,arI,arJ,arK]
   rw [e1,e2];simp only [an];rw [show zX 10000000 _ _=_ from adD (r:=vt) (by omega) (by omega) (Vr (by omega))]
   simp only [an,arH,arJ]
end Go.Ab.Y

/- The plain law: what the functions compute answers as the statement says. -/
import Derived.Test.YtbncfepdlmnmiaaGreatDoorPlainC
set_option linter.all false
namespace Go.Ab.Y
open Go Go.Ab Go.Proofs
abbrev BJ:=Int×List aU×kc×List b0×b8×List bc×List Request×Int
def MJ:eC BJ:=dU iP λ_=>dU BE λ_=>dU VM λ_=>dU vc λ_=>dU u_ λ_=>dU xV λ_=>dU pI λ_=>im
def k0(p:BJ):av3:=mQ p.1++(ef lp p.2.1++(ef gk p.2.2.1++(ef lq p.2.2.2.1++(oO p.2.2.2.2.1++(ef n6 p.2.2.2.2.2.1++(ef jL p.2.2.2.2.2.2.1++jy p.2.2.2.2.2.2.2))))))
structure tu(p:BJ):Prop where
 pos:e0 p.1
 lr:(p.2.1.length≤2147483647∧∀v∈p.2.1,r7 v)∧mn p.2.1=true
 src:p.2.2.1.length≤16∧∀s∈p.2.2.1,s.length≤16384
 oP:(p.2.2.2.1.length≤32∧∀v∈p.2.2.2.1,qL v)∧n3 p.2.2.2.1=true
 xY:(e0 p.2.2.2.2.1.Version∧p.2.2.2.2.1.aE.length≤16∧∀v∈p.2.2.2.2.1.aE,qK v)∧nn p.2.2.2.2.1=true
 aF:p.2.2.2.2.2.1.length≤32∧∀h∈p.2.2.2.2.2.1,h.Key.length≤24∧e0 h.Count
 n8:p.2.2.2.2.2.2.1.length≤64∧∀v∈p.2.2.2.2.2.2.1,n5 v∧tq v=true
 VS:hK p.2.2.2.2.2.2.2
def ar6:er MJ k0 tu:=
 (kZ.dep λ_ _=>Mu.dep λ_ _=>arE.dep λ_ _=>MA.dep λ_ _=>Mv.dep λ_ _=>arD.dep λ_ _=>ME.dep λ_ _=>mT).as _ _
  (λv=>⟨λh=>⟨h.pos,h.lr,h.src,h.oP,h.xY,h.aF,h.n8,h.VS⟩,λh=>⟨h.1,h.2.1,h.2.2.1,h.2.2.2.1,h.2.2.2.2.1,h.2.2.2.2.2.1,h.2.2.2.2.2.2.1,h.2.2.2.2.2.2.2⟩⟩) (λv _=>rfl)
def ar7{k:Nat}{t:av3}{e:Int}(h:qG k t = .error e):e≠0:=by
 unfold qG fY at h;cases ab:jb k t with
 |error f=>rw [ab]at h;cases h;exact oM ab
 |ok r=>rw [ab]at h;cases h
def h'{α:Type}(z:α)(s:av3)(a:Int):Except Int (α×av3)→α×Int×Int
 |.ok (v,t)=>(v,bu s t,0)
 |.error e=>(z,a,e)
section
variable {n:Nat} (hn:100000000≤n) (aV:n≤9223372036854775808) {s:av3} (hs:s.length<min n 1000000000)
theorem vf{α:Type}{z:α}{D:eC α}{t:av3}{a:Int}(h0:∀e,D t = .error e→e≠0):(bif (!decide ((res z s (D t)).2.2=0))then some (z,a,(res z s (D t)).2.2)else some ((res z s (D t)).1,(res z s (D t)).2.1,(res z s (D t)).2.2))=some (h' z s a (D t)):=by
 cases h:D t with
 |error e=>rw [fK];simp only [gL (h0 e h),avO];rfl
 |ok r=>obtain⟨v,bY⟩:=r;rfl
theorem ar8{a e:Int}(he:e≠0):wT n ⟨s,a,e⟩=some (0,a,e):=by unfold wT;simp only [gL he,avO]
theorem ar9{a e:Int}(he:e≠0):zt n ⟨s,a,e⟩=some ([],a,e):=by unfold zt;simp only [gL he,avO]
theorem F7{p a e:Int}(he:e≠0):wS n p ⟨s,a,e⟩=some (0,a,e):=by unfold wS;simp only [gL he,avO]
theorem ar'{a e:Int}(he:e≠0):zG n ⟨s,a,e⟩=some ([],a,e):=by unfold zG;simp only [gL he,avO]
theorem afe{a e:Int}(he:e≠0):zx n ⟨s,a,e⟩=some (⟨0,[]⟩,a,e):=by unfold zx;simp only [gL he,avO]
theorem ar_{a e:Int}(he:e≠0):zD n ⟨s,a,e⟩=some ([],a,e):=by unfold zD;simp only [gL he,avO]
theorem aff{a e:Int}(he:e≠0):zH n ⟨s,a,e⟩=some (0,a,e):=by unfold zH;simp only [gL he,avO]
include hn aV hs
theorem afg{t:av3}(aF:t <:+ s):wT n ⟨s,bu s t,0⟩=some (h' 0 s (bu s t) (iP t)):=by
 unfold wT;simp only [avM,avQ,avP];rw [Vu aF (by omega) (by omega),an];exact vf (λe h=>kZ.dd _ _ h)
theorem asa{t:av3}(aF:t <:+ s):zt n ⟨s,bu s t,0⟩=some (h' [] s (bu s t) (BE t)):=by
 unfold zt;simp only [avM,avQ,avP];rw [ars (by omega) aV hs aF,an];exact vf (λe h=>Mu.dd _ _ h)
theorem afh{k:Nat}(hk:k≤1000){t:av3}(aF:t <:+ s):wS n (k:Int) ⟨s,bu s t,0⟩=some (h' 0 s (bu s t) (qG k t)):=by
 unfold wS QH;simp only [avM,avQ,avP];rw [u3 aF (by omega) (by omega) (by omega),an,an];exact vf (λe h=>ar7 h)
theorem afi{k:Nat}(hk:k≤20000){t:av3}(aF:t <:+ s):DP n (k:Int) ⟨s,bu s t,0⟩=some (h' [] s (bu s t) (gb k t)):=by
 unfold DP QI;simp only [avM,avQ,avP];rw [FW aF (by omega) (by omega) (by omega),an,an];exact vf (λe h=>(Bv k (by omega)).dd _ _ h)
theorem asb{t:av3}(aF:t <:+ s):zG n ⟨s,bu s t,0⟩=some (h' [] s (bu s t) (vc t)):=by
 unfold zG;simp only [avM,avQ,avP];rw [arA (by omega) aV hs aF,an];exact vf (λe h=>MA.dd _ _ h)
theorem asc{t:av3}(aF:t <:+ s):zx n ⟨s,bu s t,0⟩=some (h' ⟨0,[]⟩ s (bu s t) (u_ t)):=by
 unfold zx;simp only [avM,avQ,avP];rw [arv (by omega) aV hs aF,an];exact vf (λe h=>Mv.dd _ _ h)
theorem asd{t:av3}(aF:t <:+ s):zD n ⟨s,bu s t,0⟩=some (h' [] s (bu s t) (pI t)):=by
 unfold zD;simp only [avM,avQ,avP];rw [arP (by omega) aV hs aF,an];exact vf (λe h=>ME.dd _ _ h)
theorem ase{t:av3}(aF:t <:+ s):zH n ⟨s,bu s t,0⟩=some (h' 0 s (bu s t) (im t)):=by
 unfold zH;simp only [avM,avQ,avP];rw [By aF (by omega) (by omega),an];exact vf (λe h=>mT.dd _ _ h)
theorem asf{b:fv}(hb:b.s=s){r1 r26 r27 r2 v25}{a e:Int}{l:List bc}(he:e≠0):l2 e (uq n b r1 r26 r27 r2 v25 a e l):=by
 unfold uq;rw [ar_ he,an,aff he,an];exact⟨_,_,rfl⟩
theorem BK{b:fv}(hb:b.s=s){r1 r26 r27 r2 v25}{a e c:Int}{l:List bc}{m:Nat}(he:e≠0):l2 e (ru n b r1 r26 r27 r2 v25 (m+1) a e l c):=by
 have sv:decide (e=0)=false:=decide_eq_false he;simp only [ru,DR,sv,el,Bool.and_false,avP];exact asf hn aV hs hb he
theorem asg{b:fv}(hb:b.s=s){r1 r2}{a e:Int}{l:kc}(he:e≠0):l2 e (ur n b r1 r2 a e l):=by
 unfold ur zn;rw [ar' he,an,afe he,an,an,F7 he,an];obtain⟨m,rfl⟩:∃j,n=j+1:=⟨n-1,by omega⟩
 exact BK hn aV hs hb he
theorem MK{b:fv}(hb:b.s=s){r1 r2}{a e c:Int}{l:kc}{m:Nat}(he:e≠0):l2 e (ut n b r1 r2 (m+1) a e l c):=by
 have sv:decide (e=0)=false:=decide_eq_false he;simp only [ut,DS,sv,el,Bool.and_false,avP];exact asg hn aV hs hb he
theorem ash{b:fv}(hb:b.s=s){r1:Int×Int×Int}{r26:List b0×Int×Int}{r27:b8×Int×Int}{r2:List aU×Int×Int}{v25:kc}{l:List bc}{t:av3}(aF:t <:+ s):
 match dU pI (λ_=>im) t with|.ok (p,bY)=>uq n b r1 r26 r27 r2 v25 (bu s t) 0 l=some (⟨⟨r1.1,⟨0,0,[]⟩,[],r26.1,r27.1,l,p.1,p.2⟩,r2.1,v25⟩,bu s bY,0)|.error e=>l2 e (uq n b r1 r26 r27 r2 v25 (bu s t) 0 l):=by
 unfold uq dU;rw [hb,asd hn aV hs aF,an];cases g1:pI t with
 |error e=>
  have he:=ME.dd _ _ g1;simp only [h'];rw [aff he,an];exact⟨_,_,rfl⟩
 |ok r=>
  obtain⟨ev,t1⟩:=r;have kB:=jc ME g1 aF;simp only [h'];rw [ase hn aV hs kB,an];cases g2:im t1 with
  |error e=>exact⟨_,_,rfl⟩
  |ok r=>rfl
theorem asi{b:fv}(hb:b.s=s){r1:Int×Int×Int}{r26:List b0×Int×Int}{r27:b8×Int×Int}{r2:List aU×Int×Int}{v25:kc}{u:Nat}(hu:u<min n 1000000000){t:av3}(aF:t <:+ s):
 match dU (hC (fY (λp=>(⟨p.1,p.2⟩:bc)) (dU (gb 24) λ_=>iP)) u) (λ_=>dU pI (λ_=>im)) t with|.ok (p,bY)=>ru n b r1 r26 r27 r2 v25 n (bu s t) 0 [] (u:Int)=some (⟨⟨r1.1,⟨0,0,[]⟩,[],r26.1,r27.1,p.1,p.2.1,p.2.2⟩,r2.1,v25⟩,bu s bY,0)|.error e=>l2 e (ru n b r1 r26 r27 r2 v25 n (bu s t) 0 [] (u:Int)):=by
 have dc:=u9 (L:=λm i t acc=>ru n b r1 r26 r27 r2 v25 m (bu s t) 0 acc ((u-i:Nat):Int)) (f:=λ_ v=>v) (D:=fY (λp=>(⟨p.1,p.2⟩:bc)) (dU (gb 24) λ_=>iP)) (u:=u) (s:=s) (fin:=λacc t=>uq n b r1 r26 r27 r2 v25 (bu s t) 0 acc) (bad:=λe x=>l2 e x) (λx v t hx=>VL.lY hx) (by
  intro m i t acc hm hi ha aF;have hc:(0:Int)<((u-i:Nat):Int):=by omega
  simp only [ru,DR,hc,avM,avO,DQ,an];rw [hb,show(24:Int)=((24:Nat):Int)from rfl,afi hn aV hs (by omega) aF,an]
  have gr:room (acc.length+1) 24=true:=lZ (by omega)
  obtain⟨m,rfl⟩:∃j,m=j+1:=⟨m-1,by omega⟩
  unfold fY dU;cases g1:gb 24 t with
  |error e=>
   have he:=n2.dd _ _ g1;simp only [h'];rw [ar8 he,an];simp only [avX,show(((24:Nat):Int)).toNat=24 from rfl,gr,aT]
   exact BK hn aV hs hb he
  |ok r=>
   obtain⟨ev,t1⟩:=r;have kB:=jc n2 g1 aF;simp only [h'];rw [afg hn aV hs kB,an];cases g2:iP t1 with
   |error e=>
    have he:=kZ.dd _ _ g2;simp only [h',avX,gr,aT];exact BK hn aV hs hb he
   |ok r=>
    obtain⟨fh,t2⟩:=r;simp only [h',avX,gr,aT];rw [show av5 (((u-i:Nat):Int)-1)=((u-(i+1):Nat):Int)by rw [wr]<;>omega]) (by
  intro m t acc ha aF;simp only [ru,DR,Nat.sub_self,show¬ (0:Int)<((0:Nat):Int)by omega,avN,avP]) u n 0 t [] (by omega) (by omega) rfl aF
 simp only [Nat.sub_zero]at dc;unfold dU;cases ai:hC (fY (λp=>(⟨p.1,p.2⟩:bc)) (dU (gb 24) λ_=>iP)) u t with
 |error e=>unfold dU at ai;rw [ai];unfold dU at dc;rw [ai]at dc;exact dc
 |ok r=>
  obtain⟨l,nl⟩:=r;have VT:=jc (VL.rep u) ai aF;rw [ai]at dc;unfold dU at ai;rw [ai];simp only [List.nil_append,u']at dc ⊢;rw [dc];have hj:=ash hn aV hs hb (r1:=r1) (r26:=r26) (r27:=r27) (r2:=r2) (v25:=v25) (l:=l) VT;unfold dU at hj;cases g:pI nl with
  |error e=>rw [g]at hj;exact hj
  |ok r=>
   obtain⟨q,t1⟩:=r;rw [g]at hj;simp only at hj ⊢
   cases e4:im t1 with
   |error e=>rw [e4]at hj;exact hj
   |ok r=>rw [e4]at hj;exact hj
end
def tv{α β:Type}{D:eC α}{k:α→eC β}{t:av3}{e:Int}(h:D t = .error e):dU D k t = .error e:=by unfold dU;rw [h]
def xZ{α β:Type}{D:eC α}{k:α→eC β}{t bY:av3}{v:α}(h:D t = .ok (v,bY)):dU D k t=match k v bY with|.ok (w,u)=>.ok ((v,w),u)|.error e=>.error e:=by unfold dU;rw [h];rfl
def afj{t:av3}:xV t=match jb 32 t with|.ok (u,t)=>hC (fY (λp=>(⟨p.1,p.2⟩:bc)) (dU (gb 24) λ_=>iP)) u t|.error e=>.error e:=rfl
abbrev tailD:eC (List b0×b8×List bc×List Request×Int):=dU vc λ_=>dU u_ λ_=>dU xV λ_=>dU pI λ_=>im
section
variable {n:Nat} (hn:100000000≤n) (aV:n≤9223372036854775808) {s:av3} (hs:s.length<min n 1000000000)
include hn aV hs
theorem asj{b:fv}(hb:b.s=s){r1:Int×Int×Int}{r2:List aU×Int×Int}{v25:kc}{t:av3}(aF:t <:+ s):
 match tailD t with|.ok (p,bY)=>ur n b r1 r2 (bu s t) 0 v25=some (⟨⟨r1.1,⟨0,0,[]⟩,[],p.1,p.2.1,p.2.2.1,p.2.2.2.1,p.2.2.2.2⟩,r2.1,v25⟩,bu s bY,0)|.error e=>l2 e (ur n b r1 r2 (bu s t) 0 v25):=by
 unfold ur zn tailD;obtain⟨r',ko⟩:∃j,n=j+1:=⟨n-1,by omega⟩
 rw [hb,asb hn aV hs aF,an];cases g1:vc t with
 |error e=>
  have he:=MA.dd _ _ g1;rw [tv g1];simp only [h'];rw [afe he,an,an,F7 he,an];have:=BK hn aV hs hb (r1:=r1) (r26:=([],bu s t,e)) (r27:=(⟨0,[]⟩,bu s t,e)) (r2:=r2) (v25:=v25) (a:=bu s t) (c:=0) (l:=[]) (m:=r') he
  rw [←ko]at this;exact this
 |ok r=>
  obtain⟨ev,t1⟩:=r;have kB:=jc MA g1 aF;rw [xZ g1];simp only [h'];rw [asc hn aV hs kB,an,an];cases g2:u_ t1 with
  |error e=>
   have he:=Mv.dd _ _ g2;rw [tv g2];simp only [h'];rw [F7 he,an];have:=BK hn aV hs hb (r1:=r1) (r26:=(ev,bu s t1,0)) (r27:=(⟨0,[]⟩,bu s t1,e)) (r2:=r2) (v25:=v25) (a:=bu s t1) (c:=0) (l:=[]) (m:=r') he
   rw [←ko]at this;exact this
  |ok r=>
   obtain⟨fh,t2⟩:=r;have jT:=jc Mv g2 kB;rw [xZ g2];simp only [h'];rw [show(32:Int)=((32:Nat):Int)from rfl,afh hn aV hs (by omega) jT,an]
   cases h:jb 32 t2 with
   |error e=>
    have he:=oM h;have bm:xV t2 = .error e:=by rw [afj,h]
    rw [tv bm,rV h];simp only [h'];have:=BK hn aV hs hb (r1:=r1) (r26:=(ev,bu s t1,0)) (r27:=(fh,bu s t2,0)) (r2:=r2) (v25:=v25) (a:=bu s t2) (c:=0) (l:=[]) (m:=r') he
    rw [←ko]at this;exact this
   |ok r=>
    obtain⟨u,bY⟩:=r;obtain⟨Z,ab,aj⟩:=pD h;have eO:bY <:+ s:=List.IsSuffix.trans ⟨fc u,Z.symm⟩ jT;have hu:=eO.length_le;rw [rU h];simp only [h'];have dc:=asi hn aV hs hb (r1:=r1) (r26:=(ev,bu s t1,0)) (r27:=(fh,bu s t2,0)) (r2:=r2) (v25:=v25) (u:=u) (by omega) eO
    have bm:xV t2=hC (fY (λp=>(⟨p.1,p.2⟩:bc)) (dU (gb 24) λ_=>iP)) u bY:=by rw [afj,h]
    cases ai:hC (fY (λp=>(⟨p.1,p.2⟩:bc)) (dU (gb 24) λ_=>iP)) u bY with
    |error e=>
     rw [tv ai]at dc;rw [ai]at bm;rw [tv bm];exact dc
    |ok r=>
     obtain⟨l,nl⟩:=r;rw [xZ ai]at dc;rw [ai]at bm;rw [xZ bm];cases g:dU pI (λ_=>im) nl with
     |error e=>rw [g]at dc;exact dc
     |ok r=>rw [g]at dc;exact dc
theorem ask:match MJ s with|.ok (p,bY)=>DT n ⟨s,0,0⟩=some (⟨⟨p.1,⟨0,0,[]⟩,[],p.2.2.2.1,p.2.2.2.2.1,p.2.2.2.2.2.1,p.2.2.2.2.2.2.1,p.2.2.2.2.2.2.2⟩,p.2.1,p.2.2.1⟩,bu s bY,0)|.error e=>l2 e (DT n ⟨s,0,0⟩):=by
 unfold DT zn MJ;obtain⟨r',ko⟩:∃j,n=j+1:=⟨n-1,by omega⟩
 have hb:(⟨s,0,0⟩:fv).s=s:=rfl;have aF:s <:+ s:=List.suffix_refl s;rw [show(⟨s,0,0⟩:fv)=⟨s,bu s s,0⟩by rw [aqI],afg hn aV hs aF,an]
 generalize cW:(⟨s,bu s s,0⟩:fv)=B
 have hb:B.s=s:=by rw [←cW]
 rw [hb];cases g1:iP s with
 |error e=>
  have he:=kZ.dd _ _ g1;rw [tv g1];simp only [h'];rw [ar9 he,an,an,F7 he,an];have:=MK hn aV hs hb (r1:=(0,bu s s,e)) (r2:=([],bu s s,e)) (a:=bu s s) (c:=0) (l:=[]) (m:=r') he
  rw [←ko]at this;exact this
 |ok r=>
  obtain⟨ev,t1⟩:=r;have kB:=jc kZ g1 aF;rw [xZ g1];simp only [h'];rw [asa hn aV hs kB,an,an];cases g2:BE t1 with
  |error e=>
   have he:=Mu.dd _ _ g2;rw [tv g2];simp only [h'];rw [F7 he,an];have:=MK hn aV hs hb (r1:=(ev,bu s t1,0)) (r2:=([],bu s t1,e)) (a:=bu s t1) (c:=0) (l:=[]) (m:=r') he
   rw [←ko]at this;exact this
  |ok r=>
   obtain⟨fh,t2⟩:=r;have jT:=jc Mu g2 kB;rw [xZ g2];simp only [h'];rw [show(16:Int)=((16:Nat):Int)from rfl,afh hn aV hs (by omega) jT,an]
   have iW:VM t2=match jb 16 t2 with|.ok (u,t)=>hC (gb 16384) u t|.error e=>.error e:=rfl
   cases h:jb 16 t2 with
   |error e=>
    have he:=oM h;rw [h]at iW;rw [tv iW,rV h];simp only [h'];have:=MK hn aV hs hb (r1:=(ev,bu s t1,0)) (r2:=(fh,bu s t2,0)) (a:=bu s t2) (c:=0) (l:=[]) (m:=r') he
    rw [←ko]at this;exact this
   |ok r=>
    obtain⟨u,bY⟩:=r;obtain⟨Z,ab,aj⟩:=pD h;have eO:bY <:+ s:=List.IsSuffix.trans ⟨fc u,Z.symm⟩ jT;have hu:=eO.length_le;rw [h]at iW;rw [rU h];simp only [h']
    have dc:=u9 (L:=λm i t acc=>ut n B (ev,bu s t1,0) (fh,bu s t2,0) m (bu s t) 0 acc ((u-i:Nat):Int)) (f:=λ_ v=>v) (D:=gb 16384) (u:=u) (s:=s) (fin:=λacc t=>ur n B (ev,bu s t1,0) (fh,bu s t2,0) (bu s t) 0 acc) (bad:=λe x=>l2 e x) (λx v t hx=>MF.lY hx) (by
     intro m i t acc hm hi ha aF;have hc:(0:Int)<((u-i:Nat):Int):=by omega
     simp only [ut,DS,hc,avM,avO,DQ,an];rw [hb,show(16384:Int)=((16384:Nat):Int)from rfl,afi hn aV hs (by omega) aF,an]
     have gr:room (acc.length+1) 16=true:=lZ (by omega)
     obtain⟨m,rfl⟩:∃j,m=j+1:=⟨m-1,by omega⟩
     cases g1:gb 16384 t with
     |error e=>
      have he:=MF.dd _ _ g1;simp only [h',avX,gr,aT];exact MK hn aV hs hb he
     |ok r=>
      obtain⟨ev,t1⟩:=r;simp only [h',avX,gr,aT];rw [show av5 (((u-i:Nat):Int)-1)=((u-(i+1):Nat):Int)by rw [wr]<;>omega]) (by
     intro m t acc ha aF;simp only [ut,DS,Nat.sub_self,show¬ (0:Int)<((0:Nat):Int)by omega,avN,avP]) u n 0 bY [] (by omega) (by omega) rfl eO
    simp only [Nat.sub_zero]at dc;cases ai:hC (gb 16384) u bY with
    |error e=>
     rw [ai]at dc;simp only at iW
     rw [ai]at iW;rw [tv iW];exact dc
    |ok r=>
     obtain⟨l,nl⟩:=r;have VT:=jc (MF.rep u) ai eO;rw [ai]at dc;simp only at iW
     rw [ai]at iW;rw [xZ iW];simp only [List.nil_append,u']at dc ⊢;rw [dc];have hj:=asj hn aV hs hb (r1:=(ev,bu s t1,0)) (r2:=(fh,bu s t2,0)) (v25:=l) VT;unfold tailD at hj;cases g:(dU vc λ_=>dU u_ λ_=>dU xV λ_=>dU pI λ_=>im) nl with
     |error e=>rw [g]at hj;exact hj
     |ok r=>rw [g]at hj;exact hj
end
abbrev afk:bC:=⟨0,⟨0,0,[]⟩,[],[],⟨0,[]⟩,[],[],0⟩
def asl(l:List aU)(a:Int)(i:Nat)(hi:i<l.length):((np l a).Rows.getD i default)=⟨(l.getD i default).Key,[⟨a,(l.getD i default).bk⟩]⟩:=by
 unfold np;simp [List.getD_eq_getElem?_getD,hi]
def asm{n:Nat}(hn:2000≤n){l:List aU}(aa:l.length<n)(h:∀p∈l,r7 p)(a:Int):BB n (np l a):=by
 refine⟨by unfold np;simpa using aa,λi=>?_⟩
 by_cases hi:i<l.length
 ·rw [asl l a i hi];have hp:=aeV hn (h _ (VC hi));refine⟨hp.1,by show 1<n;omega,λk=>?_⟩
  refine r6 (P:=λv:Version=>v.bk.S.length<n) (λx hx=>?_) (by show 0<n;omega) k
  rw [List.mem_singleton.1 hx];exact hp.2
 ·have:(np l a).Rows.getD i default=default:=by
   unfold np;rw [List.getD_eq_getElem?_getD,List.getElem?_eq_none (by simp;omega)];rfl
  rw [this];refine⟨by show 0<n;omega,by show 0<n;omega,λk=>?_⟩
  show(([]:List Version).getD k default).bk.S.length<n
  simp [List.getD];show 0<n
  omega
def afl{n:Nat}(hn:2000≤n):rZ n default:=VN hn ⟨by show hK 0;unfold hK;omega,by show hK 0;unfold hK;omega,by show([]:av3).length≤16;simp,⟨by show([]:List bH).length≤6;simp,λv av=>by cases av⟩,rfl,rfl⟩
def asn{p:BJ}(h:tu p):p.2.1.length≤(k0 p).length:=by
 have Z:=Mq (E:=lp) (l:=p.2.1) λv _=>by unfold lp gk;simp [qE]
 unfold k0;rw [show ef lp p.2.1=fc p.2.1.length++iO lp p.2.1 from rfl]
 simp only [avW];omega
def ML{n:Nat}(hn:2000≤n):qM n afk:=by
 have h0:∀{α:Type} (l:List α),l=[]→l.length<n:=λl h=>by rw [h];show 0<n;omega
 exact {
  st:=by
   refine⟨h0 _ rfl,λi=>⟨?_,?_,λk=>?_⟩⟩
   ·show 0<n;omega
   ·exact h0 _ rfl
   ·show 0<n;omega
  xW:=h0 _ rfl
  lr:=λi=>r6 (P:=n7) (λx hx=>absurd hx (by show¬ x∈([]:List bg);simp)) afa i
  vd:=h0 _ rfl
  oP:=MB hn (λx hx=>by cases hx)
  pl:=h0 _ rfl
  xX:=aeW (by omega) (λx hx=>by cases hx)
  aF:=h0 _ rfl
  kl:=λi=>by show 0<n;omega
  n8:=h0 _ rfl
  ve:=λi=>r6 (P:=rZ n) (λx hx=>absurd hx (by show¬ x∈([]:List Request);simp)) (afl hn) i}
def aso{s t:av3}(h:t <:+ s):(bu s t=((s.length:Nat):Int))↔t=[]:=by
 have:=h.length_le
 unfold bu;constructor
 ·intro e;have:t.length=0:=by omega
  exact List.eq_nil_of_length_eq_zero this
 ·intro e;subst e;simp
section
variable {n:Nat} (hn:100000000≤n) (aV:n≤9223372036854775808) {s:av3} (hs:s.length≤4000)
include hn aV hs
end
def sb{α R:Type}[Inhabited α]{l:List α}{E:α→av3}{B:Nat}{L:Nat→av3→Nat→Option R}{fin:av3→Option R}
 (hs:∀m i acc,i<l.length→acc.length+(E (l.getD i default)).length≤B→L (m+1) acc i=L m (acc++E (l.getD i default)) (i+1))
 (he:∀m acc,acc.length≤B→L (m+1) acc l.length=fin acc):
 ∀m i acc,l.length<m+i→i≤l.length→acc.length+(iO E (l.drop i)).length≤B→L m acc i=fin (acc++iO E (l.drop i)):=by
 intro m;induction m with
 |zero=>intro i acc Z ab;omega
 |succ m aJ=>
  intro i acc Z ab aj;by_cases hi:i<l.length
  ·rw [fo l i default hi,Bt]at aj ⊢;rw [avW]at aj;rw [hs m i acc hi (by omega),aJ (i+1) _ (by omega) (by omega) (by rw [avW];omega),List.append_assoc]
  ·obtain rfl:i=l.length:=by omega
   rw [gE l _ hi,aqG]at aj ⊢;rw [he m acc (by simpa using aj),List.append_nil]
def BL{n:Nat}(hn:10≤n){z:Int}(h:hK z):hQ n (IntKind.u64.wrap z)=some (jy z):=by
 obtain⟨Z,ab⟩:=h;have e:IntKind.u64.wrap z=((z.toNat:Nat):Int):=by rw [IntKind.wrap_u64];omega
 rw [e];exact u0 hn (by omega)
def tw{n:Nat}(hn:10≤n){k:Nat}(h:k<18446744073709551616):hQ n (IntKind.u64.wrap (k:Int))=some (fc k):=by
 rw [rP h];exact u0 hn h
def l3{n:Nat}{s t:av3}(h:t.length+s.length≤10000000):jF n s (hq t)=some (((s.length:Nat):Int),hq (t++s)):=by
 unfold jF zb;simp only [an,Mj,Vj (show t.length+s.length≤140737488355328 by omega),aT]
 rw [Vg];rfl
def VU{n:Nat}{t:av3}(h:t.length≤10000000):rm n (hq t)=some (t,hq t):=by
 unfold rm;simp only [Vf,Ve,Mj,show t.length≤9223372036854775807 by omega,avM,Bool.and_self,aT]
def sc{α:Type}[Inhabited α]{P:α→Prop}{l:List α}(h:∀x∈l,P x){i:Nat}(hi:i<l.length):P (l.getD i default):=by
 rw [List.getD_eq_getElem?_getD,List.getElem?_eq_getElem hi];exact h _ (List.getElem_mem hi)
def asp{n:Nat}(hn:2000≤n){l:List aU}(aa:l.length<n)(h:∀p∈l,r7 p)(cW:(ef lp l).length≤1000000):IF n l=some (ef lp l):=by
 have hlen:l.length≤(iO lp l).length:=Mq λv _=>by unfold lp gk;simp [qE]
 unfold ef at cW ⊢;rw [avW]at cW
 have key:=sb (l:=l) (E:=lp) (B:=2000000) (L:=λm acc i=>zh n l m (hq acc) (i:Int)) (fin:=λacc=>some acc)
  (λm i acc hi hb=>by
   obtain⟨Z,ab⟩:=sc h hi;have aj:=tp ab;unfold lp at hb ⊢;rw [avW]at hb;simp only [zh,IE,hi,b1 hi,avU,avV,avM,avO,aT,cR (show i≤9223372036854775806 by omega)]
   rw [u1 (by omega) (by omega),an,l3 (by omega),an,
    show ww n (⟨((l.getD i default).bk).Kind,((l.getD i default).bk).N,((l.getD i default).bk).S⟩:bH)=_ from Vn (v:=(l.getD i default).bk) (by omega) ab.2 (by omega),an,
    l3 (by rw [avW];omega),an,List.append_assoc])
  (λm acc ha=>by
   simp only [zh,IE,avV,Nat.lt_irrefl,avN,avP,Qr];rw [VU (by omega),an])
 unfold IF;rw [tw (by omega) (by omega),an,Vh,l3 (by simp;omega),an]
 exact key n 0 _ (by omega) (by omega) (by simp;omega)
def asq{n:Nat}(hn:2000≤n){p:b8}(h0:e0 p.Version)(aa:p.aE.length≤16)(h:∀x∈p.aE,qK x)(cW:(oO p).length≤1000000):Db n p=some (oO p):=by
 have av:=rQ h0;unfold oO ef at cW ⊢;simp only [avW]at cW
 have key:=sb (l:=p.aE) (E:=r8) (B:=2000000) (L:=λm acc i=>y5 n p m (i:Int) acc) (fin:=λacc=>some acc)
  (λm i acc hi hb=>by
   obtain⟨Z,ab,aj,aD,aX⟩:=sc h hi;unfold r8 at hb ⊢;simp only [avW]at hb;simp only [y5,H3,hi,b1 hi,avU,avV,avM,avO,aT,cR (show i≤9223372036854775806 by omega)]
   rw [xK (by omega) Z,an,u1 (by omega) (by omega),an,xK (by omega) aj,an,xK (by omega) aD,an,u1 (by omega) (by omega),an]
   simp (disch:=omega) only [List.length_append,gG,aT,List.append_assoc])
  (λm acc ha=>by simp only [y5,H3,avV,Nat.lt_irrefl,avN,avP,PF])
 unfold Db;rw [xK (by omega) h0,an,tw (by omega) (by omega),an,gG (by omega),aT,←List.append_assoc]
 exact key n 0 _ (by omega) (by omega) (by simp only [avW,List.drop_zero];omega)
def afm{n:Nat}(hn:2000≤n){l:kc}(aa:l.length≤64)(h:∀x∈l,x.length≤24)(cW:(ef gk l).length≤1000000):C7 n l=some (ef gk l):=by
 unfold ef at cW ⊢;simp only [avW]at cW
 have key:=sb (l:=l) (E:=gk) (B:=2000000) (L:=λm acc i=>yY n l m (i:Int) acc) (fin:=λacc=>some acc)
  (λm i acc hi hb=>by
   have Z:=sc h hi;simp only [yY,HS,hi,b1 hi,avU,avV,avM,avO,aT,cR (show i≤9223372036854775806 by omega)]
   rw [u1 (by omega) (by omega),an]
   simp (disch:=omega) only [gG,aT])
  (λm acc ha=>by simp only [yY,HS,avV,Nat.lt_irrefl,avN,avP,Pw])
 unfold C7;rw [tw (by omega) (by omega),an]
 exact key n 0 _ (by omega) (by omega) (by rw [List.drop_zero];omega)
def n9{z:Int}(h:hK z):(jy z).length≤10:=nk (by obtain⟨Z,ab⟩:=h;omega)
def afn{o:Outcome}(h:pH o):hK o.Status∧hK o.Code:=⟨⟨h.1.1,by have:=h.1.2;omega⟩,⟨h.2.1.1,by have:=h.2.1.2;omega⟩⟩
def afo{α β:Type}(E:β→av3)(f:α→β)(l:List α):iO E (l.map f)=iO (λx=>E (f x)) l:=by
 unfold iO;rw [List.map_map];rfl
section
variable {n:Nat} (hn:2000≤n)
include hn
theorem asr(d_ ak:List Int→Int→Option av3)(l:List b0)(i j:Nat)(hj:j≤9223372036854775806)(aw:pH ((((l.getD i default).b').getD j default).Outcome))(acc:av3)
 (cW:acc.length+(iO bV ((((l.getD i default).b').getD j default).Outcome.Out)).length≤2000000):
 wF n d_ ak l (i:Int) (j:Int) n (hq acc) 0=d_ (hq (acc++iO bV ((((l.getD i default).b').getD j default).Outcome.Out))) ((j+1:Nat):Int):=by
 have aa:=aw.2.2.1
 have key:=sb (l:=(((l.getD i default).b').getD j default).Outcome.Out) (E:=bV) (B:=2000000) (L:=λm acc k=>wF n d_ ak l (i:Int) (j:Int) m (hq acc) (k:Int)) (fin:=λacc=>d_ (hq acc) ((j+1:Nat):Int))
  (λm k acc hk hb=>by
   have ab:=sc aw.2.2.2 hk;have aj:=tp ab;simp only [wF,IA,avU,hk,b1 hk,avV,avM,avO,aT,cR (show k≤9223372036854775806 by omega)]
   rw [Vn (by omega) ab.2 (by omega),an,l3 (by omega),an])
  (λm acc ha=>by
   simp only [wF,IA,avU,avV,Nat.lt_irrefl,avN,avP,Qo,cR hj])
 have:=key n 0 acc (by omega) (by omega) (by rw [List.drop_zero];exact cW)
 rw [List.drop_zero]at this;exact this
theorem ass(ak:List Int→Int→Option av3)(l:List b0)(i:Nat)(hi:i≤9223372036854775806)(aa:(l.getD i default).b'.length≤1000)(aw:∀r∈(l.getD i default).b',pH r.Outcome)(acc:av3)
 (cW:acc.length+(iO (λr:e_=>r9 r.Outcome) (l.getD i default).b').length≤2000000):
 wH n ak l (i:Int) n (hq acc) 0=ak (hq (acc++iO (λr:e_=>r9 r.Outcome) (l.getD i default).b')) ((i+1:Nat):Int):=by
 have key:=sb (l:=(l.getD i default).b') (E:=λr:e_=>r9 r.Outcome) (B:=2000000) (L:=λm acc j=>wH n ak l (i:Int) m (hq acc) (j:Int)) (fin:=λacc=>ak (hq acc) ((i+1:Nat):Int))
  (λm j acc hj hb=>by
   have ab:=sc (P:=λr:e_=>pH r.Outcome) aw hj
   obtain⟨aj,aD⟩:=afn ab;have aX:=ab.2.2.1;have hL:=n9 aj;have kp:=n9 aD;have avn:=nk (u:=(((l.getD i default).b').getD j default).Outcome.Out.length) (by omega)
   unfold r9 ef at hb ⊢;simp only [avW]at hb;simp only [wH,IB,avU,hj,b1 hj,avV,avM,avO,aT]
   rw [BL (by omega) aj,an,BL (by omega) aD,an,gG (by omega),aT,tw (by omega) (by omega),an,gG (by rw [avW];omega),aT,
    l3 (by simp only [avW];omega),an]
   refine(asr hn _ ak l i j (by omega) ab _ (by simp only [avW];omega)).trans ?_
   simp only [List.append_assoc])
  (λm acc ha=>by
   simp only [wH,IB,avU,avV,Nat.lt_irrefl,avN,avP,Qn,cR hi])
 have:=key n 0 acc (by omega) (by omega) (by rw [List.drop_zero];exact cW)
 rw [List.drop_zero]at this;exact this
theorem ast{l:List b0}(av:uk n l=some true)(aa:l.length≤32)(h:∀s∈l,qL s)(cW:(ef lq l).length≤1000000):Dw n l=some (ef lq l):=by
 unfold ef at cW ⊢;simp only [avW]at cW
 have key:=sb (l:=l) (E:=lq) (B:=2000000) (L:=λm acc i=>zg n l m (hq acc) (i:Int)) (fin:=λacc=>some acc)
  (λm i acc hi hb=>by
   have ab:=sc h hi;obtain⟨⟨c1,c2⟩,⟨d1,d2⟩,aX,bW,cZ⟩:=ab;have dt:hK (l.getD i default).Client:=⟨by omega,by omega⟩
   have ak:hK (l.getD i default).Next:=⟨by omega,by omega⟩
   have hL:=n9 dt;have kp:=n9 ak;have hk:=F2 ⟨d1,d2⟩;have ai:(l.getD i default).b'.length≤1000:=by rw [List.length_map]at bW;omega
   have aw:∀r∈(l.getD i default).b',pH r.Outcome:=λr ai=>cZ _ (List.mem_map_of_mem ai)
   unfold lq at hb ⊢;rw [afo]at hb ⊢;simp only [avW]at hb;simp only [zg,ID,avU,hi,b1 hi,avV,avM,avO,aT];rw [BL (by omega) dt,an,BL (by omega) ak,an,gG (by omega),aT,l3 (by simp only [avW];omega),an]
   refine(ass hn _ l i (by omega) ai aw _ (by simp only [avW];omega)).trans ?_
   simp only [List.append_assoc])
  (λm acc ha=>by
   simp only [zg,ID,avV,Nat.lt_irrefl,avN,avP,Qm];rw [VU (by omega),an])
 unfold Dw;rw [av,an,avQ,avP,tw (by omega) (by omega),an,Vh,l3 (by simp;omega),an]
 have:=key n 0 (fc l.length) (by omega) (by omega) (by rw [List.drop_zero];omega)
 rw [List.drop_zero]at this;exact this
end
def asu{n:Nat}(hn:10≤n){z:Int}(h:hK z):hQ n z=some (jy z):=by
 obtain⟨Z,ab⟩:=h;have e:z=((z.toNat:Nat):Int):=by omega
 have:=u0 (n:=n) (u:=z.toNat) hn (by omega)
 rw [←e]at this;exact this
def asv{n:Nat}(b:Bool):Px n b=some (xL b):=by cases b<;>rfl
def VV(b:Bool):(xL b).length=1:=by cases b<;>rfl
section
variable {n:Nat} (hn:2000≤n)
include hn
theorem asw{r:Request}(h:n5 r)(acc:av3)(cW:acc.length+(xL r.eS++r_ r.eS (r.bv.Reads,r.bv.cA)).length≤2000000)(mH:(r_ r.eS (r.bv.Reads,r.bv.cA)).length≤1000000):
 C9 n r acc=some (acc++(xL r.eS++r_ r.eS (r.bv.Reads,r.bv.cA))):=by
 have aX:=h.2.2.2.2.1;rw [avW]at cW;unfold C9;rw [asv,an,gG (by omega),aT]
 cases hd:r.eS
 ·simp only [avP,C8,r_,av2,Bool.false_eq_true,List.append_nil]
 ·rw [hd]at aX cW mH;obtain⟨⟨bb,a2⟩,cb,jn⟩:=aX;simp only at bb a2 cb jn
  simp only [r_,av1,avW]at cW mH;rw [avO,afm hn bb a2 (by omega),an,afm hn cb jn (by omega),an]
  simp (disch:=omega) only [List.length_append,gG,aT,C8,r_,if_true,List.append_assoc]
theorem asx{r:Request}(av:pg n r=some 0)(h:n5 r)(cW:(jL r).length≤1000000):HU n r=some (jL r):=by
 obtain⟨c1,c2,c3,⟨c4,c5⟩,x0,vg⟩:=id h;have hL:=n9 c1;have kp:=n9 c2;unfold jL ef at cW ⊢;simp only [avW]at cW
 have key:=sb (l:=r.ax) (E:=bV) (B:=900000) (L:=λm acc i=>yZ n r m acc (i:Int)) (fin:=λacc=>C9 n r acc)
  (λm i acc hi hb=>by
   have ab:=sc c5 hi;have aj:=tp ab;simp only [yZ,HT,hi,b1 hi,avU,avV,avM,avO,aT,cR (show i≤9223372036854775806 by omega)]
   rw [Vn (by omega) ab.2 (by omega),an,gG (by omega),aT])
  (λm acc ha=>by simp only [yZ,HT,avV,Nat.lt_irrefl,avN,avP])
 unfold HU;rw [av,an];simp only [avM,avQ,avP];have t1:=Mk (s:=r.bg) (by omega)
 have afp:=nk (u:=r.ax.length) (by omega)
 have v1:(iO bV r.ax).length≤1000:=by
  have:∀l:List bH,(∀v∈l,qF v)→(iO bV l).length≤100*l.length:=by
   intro l;induction l with
   |nil=>intro _;simp [iO]
   |cons v l aJ=>
    intro bm;have g:=bm v (by simp)
    have g2:=ael g.2 (by have:=tp g;omega)
    have g3:=tp g;have g4:=aJ λw hw=>bm w (by simp [hw])
    rw [Bt,avW,avS];omega
  have:=this r.ax c5
  omega
 rw [BL (by omega) c1,an,BL (by omega) c2,an,gG (by omega),aT,u1 (by omega) (by omega),an,gG (by simp only [avW];omega),aT,
  tw (by omega) (by omega),an,gG (by simp only [avW];omega),aT]
 have:=key n 0 (((jy r.Client++jy r.Seq)++gk r.bg)++fc r.ax.length) (by omega) (by omega) (by rw [List.drop_zero];simp only [avW];omega)
 rw [List.drop_zero]at this;refine this.trans ?_;rw [asw hn h _ (by simp only [avW,VV];simp only [avW,VV]at cW;omega) (by omega)]
 simp only [List.append_assoc]
theorem asy{l:List Request}(aa:l.length≤64)(h:∀r∈l,n5 r∧pg n r=some 0)(cW:(ef jL l).length≤900000):y1 n l=some (ef jL l):=by
 unfold ef at cW ⊢;simp only [avW]at cW
 have key:=sb (l:=l) (E:=jL) (B:=1000000) (L:=λm acc i=>y0 n l m (i:Int) acc) (fin:=λacc=>some acc)
  (λm i acc hi hb=>by
   obtain⟨Z,ab⟩:=sc h hi;simp only [y0,HV,hi,b1 hi,avU,avV,avM,avO,aT,cR (show i≤9223372036854775806 by omega)]
   rw [ab,an];simp only [avM,avQ,avP];rw [asx hn ab Z (by omega),an,gG (by omega),aT])
  (λm acc ha=>by simp only [y0,HV,avV,Nat.lt_irrefl,avN,avP,Py])
 unfold y1;simp only [fp,show¬ 64<l.length by omega,avN,avP]
 rw [tw (by omega) (by omega),an]
 have:=key n 0 (fc l.length) (by omega) (by omega) (by rw [List.drop_zero];omega)
 rw [List.drop_zero]at this;exact this
theorem asz{r:bC}(au:y1 n r.Queue=some (ef jL r.Queue))(hc:hK r.cg)(acc:av3)(cW:acc.length+(ef jL r.Queue).length≤3000000):
 Dx n r (hq acc)=some (acc++(ef jL r.Queue++jy r.cg)):=by
 have:=n9 hc
 unfold Dx;rw [au,an,l3 (by omega),an,asu (by omega) hc,an,l3 (by rw [avW];omega),an,VU (by simp only [avW];omega),an]
 simp only [List.append_assoc]
theorem asA{r:bC}(Z:Dw n r.bU=some (ef lq r.bU))(ab:Db n r.Place=some (oO r.Place))(aj:r.bc.length≤32∧∀h∈r.bc,h.Key.length≤24∧e0 h.Count)
 (au:y1 n r.Queue=some (ef jL r.Queue)) (hc:hK r.cg) (acc:av3) (cW:acc.length+(ef lq r.bU).length+(oO r.Place).length+(ef n6 r.bc).length+(ef jL r.Queue).length≤2000000):
 zk n r (hq acc)=some (acc++(ef lq r.bU++(oO r.Place++(ef n6 r.bc++(ef jL r.Queue++jy r.cg))))):=by
 obtain⟨aj,aD⟩:=aj;have afp:=nk (u:=r.bc.length) (by omega)
 have mH:=cW;rw [show(ef n6 r.bc).length=(fc r.bc.length).length+(iO n6 r.bc).length by unfold ef;simp]at mH
 have key:=sb (l:=r.bc) (E:=n6) (B:=2000000) (L:=λm acc i=>zj n r m (hq acc) (i:Int)) (fin:=λacc=>Dx n r (hq acc))
  (λm i acc hi hb=>by
   obtain⟨g1,g2⟩:=sc aD hi;unfold n6 at hb ⊢;rw [avW]at hb;simp only [zj,II,hi,b1 hi,avU,avV,avM,avO,aT,cR (show i≤9223372036854775806 by omega)]
   rw [u1 (by omega) (by omega),an,l3 (by omega),an,xK (by omega) g2,an,l3 (by rw [avW];omega),an,List.append_assoc])
  (λm acc ha=>by simp only [zj,II,avV,Nat.lt_irrefl,avN,avP])
 unfold zk;rw [Z,an,l3 (by omega),an,ab,an,l3 (by rw [avW];omega),an,tw (by omega) (by omega),an,l3 (by simp only [avW];omega),an]
 have:=key n 0 (((acc++ef lq r.bU)++oO r.Place)++fc r.bc.length) (by omega) (by omega) (by rw [List.drop_zero];simp only [avW];omega)
 rw [List.drop_zero]at this;refine this.trans ?_;rw [asz hn au hc _ (by simp only [avW];omega)]
 unfold ef;simp only [List.append_assoc]
end
section
variable {n:Nat} (hn:100000000≤n) (aV:n≤9223372036854775808)
include hn aV
end
section
variable {n:Nat} (hn:100000000≤n) (aV:n≤9223372036854775808) {s:av3} (hs:s.length≤4000)
include hn aV hs
end
section
variable {n:Nat} (hn:2000≤n)
include hn
end
section
variable {n:Nat} (hn:2000≤n)
include hn
end
def oQ(r:bC)(A:List aU):BJ:=(r.Pos,A,r.bP.map hf,r.bU,r.Place,r.bc,r.Queue,r.cg)
section
variable {n:Nat} (hn:2000≤n)
include hn
end
section
variable {n:Nat} (hn:100000000≤n) (aV:n≤9223372036854775808) {r:bC} {A:List aU} (hp:tu (oQ r A)) (hs:(k0 (oQ r A)).length≤800000) (hg:∀q∈r.bP,n7 q) (jR:r.bP.length≤1000)
include hn aV hp hs hg jR
end
section
variable {n:Nat} (hn:100000000≤n) (aV:n≤9223372036854775808) {r:bC} {A:List aU} (hp:tu (oQ r A)) (hs:(k0 (oQ r A)).length≤800000) (hg:∀q∈r.bP,n7 q) (jR:r.bP.length≤1000)
include hn aV hp hs hg jR
theorem asB(asC:y4 n r.aq r.Pos=some (A,0))(asD:uk n r.bU=some true)(asE:∀q∈r.Queue,pg n q=some 0):zm n r=some (k0 (oQ r A)):=by
 have avo:A.length≤(k0 (oQ r A)).length:=asn hp;have ox:=hs;unfold k0 oQ at hs;simp only [avW]at hs;have asF:=ast (n:=n) (by omega) asD hp.oP.1.1 hp.oP.1.2 (by show(ef lq r.bU).length≤_;omega)
 have asG:=asq (n:=n) (by omega) hp.xY.1.1 hp.xY.1.2.1 hp.xY.1.2.2 (by show(oO r.Place).length≤_;omega)
 have asH:=asy (n:=n) (by omega) hp.n8.1 (λq au=>⟨(hp.n8.2 q au).1,asE q au⟩) (by show(ef jL r.Queue).length≤_;omega)
 have a6:=asp (n:=n) (l:=A) (by omega) (by omega) hp.lr.1.2 (by omega)
 have GO:e0 r.Pos:=hp.pos;have i1:(mQ r.Pos).length≤10:=rQ hp.pos;have afp:=nk (u:=r.bP.length) (by omega)
 have iW:ef gk (r.bP.map hf)=fc r.bP.length++iO (λq=>gk (hf q)) r.bP:=by
  unfold ef;rw [afo,List.length_map]
 rw [iW]at hs;simp only [avW]at hs
 have j:∀B:av3,B.length≤1000000→zk n r (hq B)=some (B++(ef lq r.bU++(oO r.Place++(ef n6 r.bc++(ef jL r.Queue++jy r.cg))))):=λB cW=>
  asA (by omega) asF asG hp.aF asH hp.VS B (by omega)
 have key:=sb (l:=r.bP) (E:=λq=>gk (hf q)) (B:=1000000) (L:=λm acc i=>zl n r m (hq acc) (i:Int)) (fin:=λacc=>zk n r (hq acc))
  (λm i acc hi hb=>by
   have g:=sc hg hi;have g2:=arR g;simp only [zl,IJ,hi,b1 hi,avU,avV,avM,avO,aT,cR (show i≤9223372036854775806 by omega)]
   rw [VQ g hn,an,u1 (by omega) (by omega),an,l3 (by omega),an])
  (λm acc ha=>by simp only [zl,IJ,avV,Nat.lt_irrefl,avN,avP])
 unfold zm;rw [asC,an,xK (by omega) GO,an,Vh,l3 (by simp;omega),an,a6,an,l3 (by simp;omega),an,tw (by omega) (by omega),an,l3 (by simp only [avW,avT];omega),an]
 have:=key n 0 ((([]++mQ r.Pos)++ef lp A)++fc r.bP.length) (by omega) (by omega) (by rw [List.drop_zero];simp only [avW,avT];omega)
 rw [List.drop_zero]at this;refine this.trans ?_;rw [j _ (by simp only [avW,avT];omega)]
 unfold k0 oQ;simp only
 rw [iW];simp only [List.append_assoc,List.nil_append]
end
def asI{L:Nat→Int→av7}{len:Nat}{Q:Nat→Prop}{fin:av7}
 (step:∀m i,i<len→L (m+1) (i:Int)=some false∨(Q i∧L (m+1) (i:Int)=L m ((i+1:Nat):Int))) (stop:∀m,L (m+1) (len:Int)=fin):
 ∀m i,len<m+i→i≤len→L m (i:Int)=some false∨((∀k,i≤k→k<len→Q k)∧L m (i:Int)=fin):=by
 intro m;induction m with
 |zero=>intro i Z ab;omega
 |succ m aJ=>
  intro i Z ab;by_cases hi:i<len
  ·rcases step m i hi with h|⟨au,h⟩
   ·exact Or.inl h
   ·rcases aJ (i+1) (by omega) (by omega)with aj|⟨aj,aD⟩
    ·exact Or.inl (h.trans aj)
    ·refine Or.inr ⟨λk hk o8=>?_,h.trans aD⟩
     by_cases e:k=i
     ·subst e;exact au
     ·exact aj k (by omega) o8
  ·obtain rfl:i=len:=by omega
   exact Or.inr ⟨λk hk o8=>by omega,stop m⟩
def x1{L:Nat→Int→av7}{len m:Nat}{Q:Nat→Prop}{fin:av7}(hm:len<m)
 (step:∀m i,i<len→L (m+1) (i:Int)=some false∨(Q i∧L (m+1) (i:Int)=L m ((i+1:Nat):Int))) (stop:∀m,L (m+1) (len:Int)=fin):
 L m 0=some false∨((∀k,k<len→Q k)∧L m 0=fin):=by
 rcases asI step stop m 0 (by omega) (by omega)with h|⟨Z,ab⟩
 ·exact Or.inl h
 ·exact Or.inr ⟨λk hk=>Z k (by omega) hk,ab⟩
structure afq(f:fz):Prop where
 r:f.Reads.length≤100
 w:f.cA.length≤100
 rs:∀i,i<f.Reads.length→(f.Reads.getD i default).length≤100
 ws:∀i,i<f.cA.length→(f.cA.getD i default).length≤100
def asJ{n:Nat}(hn:2000≤n)(f:fz):w9 n f 100=some false∨(afq f∧w9 n f 100=some true):=by
 unfold w9;simp only [fp,dH];by_cases Z:f.Reads.length≤100
 ·by_cases ab:f.cA.length≤100
  ·simp only [show¬ 100<f.Reads.length by omega,show¬ 100<f.cA.length by omega,avN,Bool.or_false,avP]
   have hw:=x1 (L:=w8 n f) (len:=f.cA.length) (m:=n) (Q:=λi=>(f.cA.getD i default).length≤100) (fin:=some true) (by omega)
    (λm i hi=>by
     simp only [w8,JO,hi,b1 hi,avU,avV,fp,avM,avO,aT,cR (show i≤9223372036854775806 by omega)]
     by_cases h:(f.cA.getD i default).length≤100
     ·right;simp only [show¬ 100<(f.cA.getD i default).length by omega,avN,avP,h,true_and]
     ·left;simp only [show 100<(f.cA.getD i default).length by omega,avM,avO])
    (λm=>by simp only [w8,JO,Rv,avV,Nat.lt_irrefl,avN,avP])
   have ai:=x1 (L:=z' n f) (len:=f.Reads.length) (m:=n) (Q:=λi=>(f.Reads.getD i default).length≤100) (fin:=w8 n f n 0) (by omega)
    (λm i hi=>by
     simp only [z',JP,hi,b1 hi,avU,avV,fp,avM,avO,aT,cR (show i≤9223372036854775806 by omega)]
     by_cases h:(f.Reads.getD i default).length≤100
     ·right;simp only [show¬ 100<(f.Reads.getD i default).length by omega,avN,avP,h,true_and]
     ·left;simp only [show 100<(f.Reads.getD i default).length by omega,avM,avO])
    (λm=>by simp only [z',JP,Rw,avV,Nat.lt_irrefl,avN,avP])
   rcases ai with ai|⟨hE,ir⟩
   ·exact Or.inl ai
   ·rw [ir];rcases hw with hw|⟨yH,CK⟩
    ·exact Or.inl hw
    ·exact Or.inr ⟨⟨Z,ab,hE,yH⟩,CK⟩
  ·left;simp only [show 100<f.cA.length by omega,avM,av0,avO]
 ·left;simp only [show 100<f.Reads.length by omega,avM,Bool.true_or,avO]
structure VW(r:Request):Prop where
 p:r.bg.length≤300
 a:r.ax.length≤40
 vs:∀i,i<r.ax.length→(r.ax.getD i default).S.length≤300
 f:afq r.bv
def asK{n:Nat}(hn:2000≤n)(r:Request):Eg n r=some false∨(VW r∧Eg n r=some true):=by
 unfold Eg;simp only [fp,dH];by_cases Z:r.bg.length≤300
 ·by_cases ab:r.ax.length≤40
  ·simp only [show¬ 300<r.bg.length by omega,show¬ 40<r.ax.length by omega,avN,Bool.or_false,Bool.false_or,avR,avO]
   rcases asJ hn r.bv with h|⟨aj,h⟩
   ·left;rw [show w9 n _ 100=some false from h];rfl
   ·rw [show w9 n (⟨r.bv.ek,r.bv.Reads,r.bv.cA⟩:fz) 100=some true from h,an]
    simp only [avQ,avP]
    rcases x1 (L:=z_ n r) (len:=r.ax.length) (m:=n) (Q:=λi=>(r.ax.getD i default).S.length≤300) (fin:=some true) (by omega)
     (λm i hi=>by
      simp only [z_,JQ,hi,b1 hi,avU,avV,fp,avM,avO,aT,cR (show i≤9223372036854775806 by omega)]
      by_cases h:(r.ax.getD i default).S.length≤300
      ·right;simp only [show¬ 300<(r.ax.getD i default).S.length by omega,avN,avP,h,true_and]
      ·left;simp only [show 300<(r.ax.getD i default).S.length by omega,avM,avO])
     (λm=>by simp only [z_,JQ,Rx,avV,Nat.lt_irrefl,avN,avP])with aD|⟨aD,aX⟩
    ·exact Or.inl aD
    ·exact Or.inr ⟨⟨Z,ab,aD,aj⟩,aX⟩
  ·left;simp only [show 40<r.ax.length by omega,avM,av0,Bool.true_or,avQ,avP,an,avO]
 ·left;simp only [show 300<r.bg.length by omega,avM,Bool.true_or,avQ,avP,an,avO]
def n_(r:Row):bH:=(r.bp.getD (r.bp.length-1) default).bk
def fL:List Row→List aU
 |[]=>[]
 |r::l=>if(n_ r).Kind=0 then fL l else⟨r.Key,n_ r⟩::fL l
structure BM(n:Nat)(a:Int)(r:Row):Prop where
 l:r.bp.length<n
 b:r.bp.length≤1000000000
 p:0<r.bp.length
 s:∀i,i<r.bp.length→(r.bp.getD i default).bN≤a
def asL{n:Nat}{a:Int}{r:Row}(h:BM n a r):H0 n r a=some ((r.bp.length:Nat):Int):=by
 have aa:=h.l;have hb:=h.b;unfold H0
 have key:∀m i,r.bp.length<m+i→i≤r.bp.length→C' n a r m (i:Int)=some ((r.bp.length:Nat):Int):=by
  intro m;induction m with
  |zero=>intro i Z ab;omega
  |succ m aJ=>
   intro i Z ab;simp only [C',PC,PB,avV,avU];by_cases hi:i<r.bp.length
   ·simp only [hi,b1 hi,avM,av0,aT,avO,h.s i hi,cR (show i≤9223372036854775806 by omega)]
    exact aJ (i+1) (by omega) (by omega)
   ·obtain rfl:i=r.bp.length:=by omega
    simp only [Nat.lt_irrefl,avN,avR,Bool.true_or,aT,avP]
 exact key n 0 (by omega) (by omega)
def asM{n:Nat}{a:Int}{r:Row}(h:BM n a r):H2 n r a=some (n_ r):=by
 have aa:=h.l;have hb:=h.b;have hp:=h.p;unfold H2;rw [asL h,an];have e:av5 (((r.bp.length:Nat):Int)-1)=((r.bp.length-1:Nat):Int):=by(try unfold av5);rw [IntKind.wrap_i64];omega
 simp only [show¬ ((r.bp.length:Nat):Int)=0 by omega,avN,avP,e,b1 (show r.bp.length-1<r.bp.length by omega),aT,avU]
 rfl
def asN{n:Nat}{a:Int}{r:Row}(h:BM n a r):El n r a=some (n_ r):=by
 have aa:=h.l;have hb:=h.b;have hp:=h.p;unfold El
 have key:∀m i K N S,r.bp.length<m+i→i≤r.bp.length→Ek n a r m K N S (i:Int)=some (if i=r.bp.length then⟨K,N,S⟩else n_ r):=by
  intro m;induction m with
  |zero=>intro i K N S Z ab;omega
  |succ m aJ=>
   intro i K N S Z ab;simp only [Ek,R2,R1,J8,avV,avU];by_cases hi:i<r.bp.length
   ·simp only [hi,b1 hi,avM,aT,avO,h.s i hi,cR (show i≤9223372036854775806 by omega)]
    rw [aJ (i+1) _ _ _ (by omega) (by omega),if_neg (show¬ i=r.bp.length by omega)]
    by_cases e:i+1=r.bp.length
    ·rw [if_pos e];unfold n_;rw [←e,Nat.add_sub_cancel]
    ·rw [if_neg e]
   ·obtain rfl:i=r.bp.length:=by omega
    simp only [Nat.lt_irrefl,avN,avP,av1]
 have:=key n 0 0 0 [] (by omega) (by omega)
 rw [if_neg (by omega)]at this
 exact this
section
variable {n:Nat} {s:aq} {a:Int} (aa:s.Rows.length≤1000) (hn:2000≤n) (h:∀i,i<s.Rows.length→BM n a (s.Rows.getD i default)) (ba:s.bx≤a) (ha:a≤s.br)
include aa hn h ba ha
theorem asO(av:wx n s=some true):y4 n s a=some (fL s.Rows,0):=by
 have key:∀m i acc,s.Rows.length<m+i→i≤s.Rows.length→acc.length≤i→Da n a s m (i:Int) acc=some (acc++fL (s.Rows.drop i),0):=by
  intro m;induction m with
  |zero=>intro i acc Z ab;omega
  |succ m aJ=>
   intro i acc Z ab aj;simp only [Da,PE,avV];by_cases hi:i<s.Rows.length
   ·simp only [hi,b1 hi,avU,avM,avO,aT];rw [asM (h i hi),an,fo s.Rows i default hi,fL];by_cases k:(n_ (s.Rows.getD i default)).Kind=0
    ·simp only [k,avM,avQ,avP,C_,cR (show i≤9223372036854775806 by omega),av1]
     exact aJ (i+1) _ (by omega) (by omega) (by omega)
    ·simp only [k,avN,avR,avO,avX,C_,cR (show i≤9223372036854775806 by omega),lZ (show(acc.length+1)*48≤140737488355328 by omega),aT,av2]
     rw [aJ (i+1) _ (by omega) (by omega) (by rw [avW,avX];omega)]
     simp
   ·obtain rfl:i=s.Rows.length:=by omega
    simp only [Nat.lt_irrefl,avN,avP,PD,gE s.Rows _ hi,fL,List.append_nil]
 unfold y4;rw [av,an]
 have ai:HZ n s a=some 0:=by
  unfold HZ;simp only [show¬ a<s.bx by omega,show¬ s.br<a by omega,avN,avP]
 simp only [avQ,avP,ai,an,avM];exact key n 0 [] (by omega) (by omega) (by simp)
theorem asP(av:xd n s=some true):Ks n s a=some (fL s.Rows,0):=by
 have key:∀m i acc,s.Rows.length<m+i→i≤s.Rows.length→acc.length≤i→Aw n a s m acc (i:Int)=some (acc++fL (s.Rows.drop i)):=by
  intro m;induction m with
  |zero=>intro i acc Z ab;omega
  |succ m aJ=>
   intro i acc Z ab aj;simp only [Aw,Ss,avV];by_cases hi:i<s.Rows.length
   ·simp only [hi,b1 hi,avU,avM,avO,aT];rw [asN (h i hi),an,fo s.Rows i default hi,fL];by_cases k:(n_ (s.Rows.getD i default)).Kind=0
    ·simp only [k,avM,avQ,avP,Er,cR (show i≤9223372036854775806 by omega),av1]
     exact aJ (i+1) _ (by omega) (by omega) (by omega)
    ·simp only [k,avN,avR,avO,avX,Er,cR (show i≤9223372036854775806 by omega),lZ (show(acc.length+1)*48≤140737488355328 by omega),aT,av2]
     rw [aJ (i+1) _ (by omega) (by omega) (by rw [avW,avX];omega)]
     simp
   ·obtain rfl:i=s.Rows.length:=by omega
    simp only [Nat.lt_irrefl,avN,avP,Sr,gE s.Rows _ hi,fL,List.append_nil]
 unfold Ks St;rw [av,an];simp only [show¬ a<s.bx by omega,show¬ s.br<a by omega,avN,avP,avQ]
 rw [show Aw n a s n [] 0=_ from key n 0 [] (by omega) (by omega) (by simp),an]
 rfl
end
def afr{n:Nat}{s:aq}(hs:l1 s=true)(av:∀i,i<s.Rows.length→(s.Rows.getD i default).bp.length<n∧(s.Rows.getD i default).bp.length≤1000000000)(i:Nat)(hi:i<s.Rows.length):BM n s.br (s.Rows.getD i default):=by
 unfold l1 at hs;rw [Bool.and_eq_true,jd]at hs;have Z:=hs.2 i hi;rw [Bool.and_eq_true]at Z;have ab:=Z.2;unfold pG at ab;rw [Bool.and_eq_true,jd]at ab;obtain⟨aj,aD⟩:=ab;refine⟨(av i hi).1,(av i hi).2,?_,λk hk=>?_⟩
 ·by_cases e:(s.Rows.getD i default).bp.length=0
  ·rw [e]at aj;simp at aj
  ·omega
 ·have aX:=aD k hk;unfold tn at aX;simp only [Bool.and_eq_true,Bool.not_eq_true',decide_eq_false_iff_not]at aX;have:=aX.1.1.2
  omega
def BN:List av3→Prop
 |[]=>True
 |k::l=>(∀j∈l,Op.bytesLess k j=true)∧BN l
def afs:∀l:List av3,(∀i,i+1<l.length→Op.bytesLess (l.getD i []) (l.getD (i+1) [])=true)→BN l
 |[],_=>trivial
 |k::l,h=>by
  have aJ:=afs l λi hi=>by have:=h (i+1) (by simpa using hi);simpa using this
  refine⟨λj hj=>?_,aJ⟩
  cases l with
  |nil=>simp at hj
  |cons ak l=>
   have h0:Op.bytesLess k ak=true:=by simpa using h 0 (by simp)
   rcases List.mem_cons.1 hj with rfl|hj
   ·exact h0
   ·exact aeC _ _ _ h0 (aJ.1 j hj)
def aft:∀(l:List av3) (i:Nat),BN l→i+1<l.length→Op.bytesLess (l.getD i []) (l.getD (i+1) [])=true
 |[],i,_,h=>by simp at h
 |k::l,0,⟨Z,_⟩,h=>by
  cases l with
  |nil=>simp at h
  |cons ak l=>simpa using Z ak (by simp)
 |k::l,i+1,⟨_,ab⟩,h=>by
  have:=aft l i ab (by simpa using h)
  simpa using this
def VX:∀l:List Row,(∀p∈fL l,p.Key∈l.map (·.Key))
 |[],p,h=>by simp [fL]at h
 |r::l,p,h=>by
  unfold fL at h;by_cases k:(n_ r).Kind=0
  ·rw [if_pos k]at h;have:=VX l p h
   simp only [List.map_cons,List.mem_cons];exact Or.inr this
  ·rw [if_neg k]at h;rcases List.mem_cons.1 h with rfl|h
   ·simp
   ·have:=VX l p h
    simp only [List.map_cons,List.mem_cons];exact Or.inr this
def afu:∀l:List Row,BN (l.map (·.Key))→BN ((fL l).map (·.Key))
 |[],_=>trivial
 |r::l,h=>by
  obtain⟨Z,ab⟩:=h;have aJ:=afu l ab;unfold fL;by_cases k:(n_ r).Kind=0
  ·rw [if_pos k];exact aJ
  ·rw [if_neg k];refine⟨λj hj=>?_,aJ⟩
   obtain⟨p,hp,rfl⟩:=List.mem_map.1 hj;exact Z _ (VX l p hp)
def MM:∀(l:List Row) (p:aU),p∈fL l→∃r∈l,p=⟨r.Key,n_ r⟩∧(n_ r).Kind≠0
 |[],p,h=>by simp [fL]at h
 |r::l,p,h=>by
  unfold fL at h;by_cases k:(n_ r).Kind=0
  ·rw [if_pos k]at h;obtain⟨x,hx,e⟩:=MM l p h;exact⟨x,by simp [hx],e⟩
  ·rw [if_neg k]at h;rcases List.mem_cons.1 h with rfl|h
   ·exact⟨r,by simp,rfl,k⟩
   ·obtain⟨x,hx,e⟩:=MM l p h;exact⟨x,by simp [hx],e⟩
def afv{s:aq}(hs:l1 s=true)(hb:∀i,i<s.Rows.length→(s.Rows.getD i default).bp.length≤1000000000)(i:Nat)(hi:i<s.Rows.length):jx (s.Rows.getD i default).Key=true∧ja (n_ (s.Rows.getD i default))=true:=by
 have h0:=afr (n:=1000000001) hs (λi hi=>⟨by have:=hb i hi;omega,hb i hi⟩) i hi
 unfold l1 at hs;rw [Bool.and_eq_true,jd]at hs;have Z:=hs.2 i hi;simp only [Bool.and_eq_true]at Z;refine⟨Z.1.1,?_⟩
 have ab:=Z.2;unfold pG at ab;rw [Bool.and_eq_true,jd]at ab;have hp:=h0.p;have aX:=ab.2 ((s.Rows.getD i default).bp.length-1) (by omega)
 unfold tn at aX;simp only [Bool.and_eq_true]at aX;exact aX.1.2
def VY{α:Type}[Inhabited α]{l:List α}{x:α}(h:x∈l):∃i,i<l.length∧l.getD i default=x:=by
 obtain⟨i,hi,e⟩:=List.mem_iff_getElem.1 h;exact⟨i,hi,by rw [List.getD_eq_getElem?_getD,List.getElem?_eq_getElem hi];exact e⟩
def MN{α:Type}[Inhabited α](l:List α)(f:α→av3)(i:Nat)(hi:i<l.length):(l.map f).getD i []=f (l.getD i default):=by
 simp only [List.getD_eq_getElem?_getD,List.getElem?_map,List.getElem?_eq_getElem hi,Option.map_some,Option.getD_some]
def BO:∀l:List Row,(fL l).length≤l.length
 |[]=>Nat.le_refl _
 |r::l=>by
  have:=BO l
  unfold fL;split
  ·simp only [avS];omega
  ·simp only [avS];omega
def asQ{s:aq}(hs:l1 s=true)(aa:s.Rows.length≤1000000)(hb:∀i,i<s.Rows.length→(s.Rows.getD i default).bp.length≤1000000000):mn (fL s.Rows)=true:=by
 have hlen:=BO s.Rows
 have asR:BN (s.Rows.map (·.Key)):=by
  refine afs _ λi hi=>?_
  rw [List.length_map]at hi;have h0:=hs;unfold l1 at h0;rw [Bool.and_eq_true,jd]at h0;have Z:=h0.2 (i+1) hi;simp only [Bool.and_eq_true]at Z;have ab:=Z.1.2;rw [Vw i (by omega),show decide (0<((i+1:Nat):Int))=true from decide_eq_true (by omega),avQ,Bool.false_or]at ab
  rw [MN s.Rows (·.Key) i (by omega),MN s.Rows (·.Key) (i+1) hi]
  exact ab
 have asS:=afu _ asR
 have VZ:∀i,i<(fL s.Rows).length→jx ((fL s.Rows).getD i default).Key=true∧ja ((fL s.Rows).getD i default).bk=true∧((fL s.Rows).getD i default).bk.Kind≠0:=λi hi=>by
  have hm:(fL s.Rows).getD i default∈fL s.Rows:=by
   rw [List.getD_eq_getElem?_getD,List.getElem?_eq_getElem hi];exact List.getElem_mem hi
  obtain⟨r,ai,e,hk⟩:=MM _ _ hm;obtain⟨j,hj,rfl⟩:=VY ai;obtain⟨a,b⟩:=afv hs hb j hj;rw [e];exact⟨a,b,hk⟩
 unfold mn xN;rw [Bool.and_eq_true,jd,jd];refine⟨λi hi=>?_,λi hi=>by rw [decide_eq_false (VZ i hi).2.2];rfl⟩
 rw [(VZ i hi).1,(VZ i hi).2.1];cases i with
 |zero=>rfl
 |succ i=>
  have:=aft _ i asS (by rw [List.length_map];exact hi)
  rw [MN (fL s.Rows) (λx=>x.Key) i (by omega),MN (fL s.Rows) (λx=>x.Key) (i+1) hi]at this
  rw [Vw i (by omega),this]
  simp
def afw{α:Type}:∀(l:List α),l.length=4→∃a b c d,l=[a,b,c,d]
 |[a,b,c,d],_=>⟨a,b,c,d,rfl⟩
 |[],h=>by simp at h
 |[_],h=>by simp at h
 |[_,_],h=>by simp at h
 |[_,_,_],h=>by simp at h
 |_::_::_::_::_::_,h=>by simp at h
section
variable {H:Type} {enc:TypeId×Value→H} {W:World}
theorem V0:Tryz.prog.cellsOf 198=4:=by kernel_rfl
theorem V1:Tryz.prog.cellsOf 3=1:=by kernel_rfl
theorem asT:Tryz.prog.cellsOf 2=1:=by kernel_rfl
theorem MO:Tryz.prog.cellsOf 9=1:=by kernel_rfl
theorem asU:Tryz.prog.cellsOf 196=1:=by kernel_rfl
theorem afx:∀l:List Expr,(∀i,i<l.length→mN (l.getD i default))→Bl l
 |[],h=>trivial
 |x::l,h=>⟨h 0 (by simp),afx l λi hi=>by have:=h (i+1) (by simpa using hi);simpa using this⟩
theorem afy:∀(fuel:Nat) (cs:List Value) (x:DataW H×List MemPlace),DataW.trod enc Tryz.prog W 0 (λ_=>true) true fuel 198 cs=some x→∃e:Expr,mN e∧hz W cs (cc e).cells:=by
 intro fuel;induction fuel using Nat.strongRecOn with
 |_ fuel aJ=>
  intro cs x h;obtain⟨xs,n,hn,_,aa,ht,ba⟩:=DataW.trod_struct Tryz.underlying198 h;rw [V0]at aa;obtain⟨c0,c1,c2,c3,rfl⟩:=afw cs aa;obtain⟨hM,ev,fh,kb,rfl⟩:=afw xs ht;have h0:DataW.trod enc Tryz.prog W 0 (λ_=>true) true n 3 (List.take (Tryz.prog.cellsOf 3) [c0,c1,c2,c3])=some hM:=ba 0 _ rfl
  have Z:DataW.trod enc Tryz.prog W 0 (λ_=>true) true n 2 (List.take (Tryz.prog.cellsOf 2) [c1,c2,c3])=some ev:=ba 1 _ rfl
  have ab:DataW.trod enc Tryz.prog W 0 (λ_=>true) true n 9 (List.take (Tryz.prog.cellsOf 9) [c2,c3])=some fh:=ba 2 _ rfl
  have aj:DataW.trod enc Tryz.prog W 0 (λ_=>true) true n 196 (List.take (Tryz.prog.cellsOf 196) [c3])=some kb:=ba 3 _ rfl
  rw [V1]at h0;rw [asT]at Z;rw [MO]at ab;rw [asU]at aj;obtain⟨Op,_,dM⟩:=wo (k:=.i64) Tryz.underlying3 h0;obtain⟨N,aV,r1⟩:=wo (k:=.i64) Tryz.underlying2 Z;obtain⟨S,F8,r2⟩:=yJ Tryz.underlying9 ab;obtain⟨A,aS,cP,r3⟩:=yK (encA:=cc) (ok:=mN) Tryz.underlying196 V0 (by omega) aj (λm cs' md hm hx=>aJ m (by omega) cs' md hx)
  refine⟨⟨Op,N,S,A⟩,⟨aV.2,F8,aS,afx A cP⟩,?_⟩
  have:=((dM.app r1).app r2).app r3
  exact this.Hu (CW ⟨Op,N,S,A⟩)
end
def asV{α:Type}(l:List α)(h:l.length=13):∃a b c d e f g i j k m n o,l=[a,b,c,d,e,f,g,i,j,k,m,n,o]:=by
 match l,h with
 |[a,b,c,d,e,f,g,i,j,k,m,n,o],_=>exact⟨a,b,c,d,e,f,g,i,j,k,m,n,o,rfl⟩
def asW{α:Type}(l:List α)(h:l.length=7):∃a b c d e f g,l=[a,b,c,d,e,f,g]:=by
 match l,h with
 |[a,b,c,d,e,f,g],_=>exact⟨a,b,c,d,e,f,g,rfl⟩
def afz{α:Type}(l:List α)(h:l.length=3):∃a b c,l=[a,b,c]:=by
 match l,h with
 |[a,b,c],_=>exact⟨a,b,c,rfl⟩
def afA{α:Type}(l:List α)(h:l.length=2):∃a b,l=[a,b]:=by
 match l,h with
 |[a,b],_=>exact⟨a,b,rfl⟩
section
variable {H:Type} {enc:TypeId×Value→H} {W:World}
theorem MP:Tryz.prog.cellsOf 200=13:=by kernel_rfl
theorem afB:Tryz.prog.cellsOf 143=2:=by kernel_rfl
theorem asX:Tryz.prog.cellsOf 73=3:=by kernel_rfl
theorem afC:Tryz.prog.cellsOf 71=1:=by kernel_rfl
theorem asY:Tryz.prog.cellsOf 70=1:=by kernel_rfl
theorem MQ:∀l:List Stmt,(∀i,i<l.length→rI (l.getD i default))→rJ l
 |[],h=>trivial
 |x::l,h=>⟨h 0 (by simp),MQ l λi hi=>by have:=h (i+1) (by simpa using hi);simpa using this⟩
theorem asZ:∀(fuel:Nat) (cs:List Value) (x:DataW H×List MemPlace),DataW.trod enc Tryz.prog W 0 (λ_=>true) true fuel 200 cs=some x→∃s:Stmt,rI s∧hz W cs (b2 s).cells:=by
 intro fuel;induction fuel using Nat.strongRecOn with
 |_ fuel aJ=>
  intro cs x h;obtain⟨xs,n,hn,_,aa,ht,ba⟩:=DataW.trod_struct Tryz.underlying200 h;rw [MP]at aa;obtain⟨c0,c1,c2,c3,c4,c5,x0,vg,BP,c9,uT,BQ,c12,rfl⟩:=asV cs aa;obtain⟨hM,ev,fh,kb,fI,lL,rv,rfl⟩:=asW xs ht;have h0:DataW.trod enc Tryz.prog W 0 (λ_=>true) true n 3 (List.take (Tryz.prog.cellsOf 3) [c0,c1,c2,c3,c4,c5,x0,vg,BP,c9,uT,BQ,c12])=some hM:=ba 0 _ rfl
  have Z:DataW.trod enc Tryz.prog W 0 (λ_=>true) true n 9 (List.take (Tryz.prog.cellsOf 9) [c1,c2,c3,c4,c5,x0,vg,BP,c9,uT,BQ,c12])=some ev:=ba 1 _ rfl
  have ab:DataW.trod enc Tryz.prog W 0 (λ_=>true) true n 3 (List.take (Tryz.prog.cellsOf 3) [c2,c3,c4,c5,x0,vg,BP,c9,uT,BQ,c12])=some fh:=ba 2 _ rfl
  have aj:DataW.trod enc Tryz.prog W 0 (λ_=>true) true n 198 (List.take (Tryz.prog.cellsOf 198) [c3,c4,c5,x0,vg,BP,c9,uT,BQ,c12])=some kb:=ba 3 _ rfl
  have aD:DataW.trod enc Tryz.prog W 0 (λ_=>true) true n 198 (List.take (Tryz.prog.cellsOf 198) [vg,BP,c9,uT,BQ,c12])=some fI:=ba 4 _ rfl
  have aX:DataW.trod enc Tryz.prog W 0 (λ_=>true) true n 71 (List.take (Tryz.prog.cellsOf 71) [BQ,c12])=some lL:=ba 5 _ rfl
  have bW:DataW.trod enc Tryz.prog W 0 (λ_=>true) true n 71 (List.take (Tryz.prog.cellsOf 71) [c12])=some rv:=ba 6 _ rfl
  rw [V1]at h0 ab;rw [MO]at Z;rw [V0]at aj aD;rw [afC]at aX bW;obtain⟨Op,_,dM⟩:=wo (k:=.i64) Tryz.underlying3 h0;obtain⟨Nm,aV,r1⟩:=yJ Tryz.underlying9 Z;obtain⟨afD,cX,r2⟩:=wo (k:=.i64) Tryz.underlying3 ab;obtain⟨A,aS,r3⟩:=afy n _ _ aj;obtain⟨B,cW,aR⟩:=afy n _ _ aD;obtain⟨al,avp,V2,bZ⟩:=yK (encA:=b2) (ok:=rI) Tryz.underlying71 MP (by omega) aX (λm cs' md hm hx=>aJ m (by omega) cs' md hx)
  obtain⟨V3,avq,V4,bj⟩:=yK (encA:=b2) (ok:=rI) Tryz.underlying71 MP (by omega) bW (λm cs' md hm hx=>aJ m (by omega) cs' md hx)
  refine⟨⟨Op,Nm,afD,A,B,al,V3⟩,⟨cX,aV,aS,cW,MQ al V2,MQ V3 V4⟩,?_⟩
  have:=(((((dM.app r1).app r2).app (r3.Hu (Pe A))).app (aR.Hu (Pe B))).app bZ).app bj
  exact this.Hu (Za ⟨Op,Nm,afD,A,B,al,V3⟩)
theorem as0(fuel:Nat)(cs:List Value)(x:DataW H×List MemPlace)(h:DataW.trod enc Tryz.prog W 0 (λ_=>true) true fuel 143 cs=some x):∃p:Param,p.Name.length≤9223372036854775807∧hz W cs (ej p).cells:=by
 obtain⟨xs,n,hn,_,aa,ht,ba⟩:=DataW.trod_struct Tryz.underlying143 h;rw [afB]at aa;obtain⟨c0,c1,rfl⟩:=afA cs aa;obtain⟨hM,ev,rfl⟩:=afA xs ht;have h0:DataW.trod enc Tryz.prog W 0 (λ_=>true) true n 9 (List.take (Tryz.prog.cellsOf 9) [c0,c1])=some hM:=ba 0 _ rfl
 have Z:DataW.trod enc Tryz.prog W 0 (λ_=>true) true n 3 (List.take (Tryz.prog.cellsOf 3) [c1])=some ev:=ba 1 _ rfl
 rw [MO]at h0;rw [V1]at Z;obtain⟨Nm,aV,dM⟩:=yJ Tryz.underlying9 h0;obtain⟨as1,_,r1⟩:=wo (k:=.i64) Tryz.underlying3 Z;exact⟨⟨Nm,as1⟩,aV,dM.app r1⟩
theorem as2(fuel:Nat)(cs:List Value)(x:DataW H×List MemPlace)(h:DataW.trod enc Tryz.prog W 0 (λ_=>true) true fuel 73 cs=some x):∃p:bg,rK p∧hz W cs (db p).cells:=by
 obtain⟨xs,n,hn,_,aa,ht,ba⟩:=DataW.trod_struct Tryz.underlying73 h;rw [asX]at aa;obtain⟨c0,c1,c2,rfl⟩:=afz cs aa;obtain⟨hM,ev,fh,rfl⟩:=afz xs ht;have h0:DataW.trod enc Tryz.prog W 0 (λ_=>true) true n 9 (List.take (Tryz.prog.cellsOf 9) [c0,c1,c2])=some hM:=ba 0 _ rfl
 have Z:DataW.trod enc Tryz.prog W 0 (λ_=>true) true n 70 (List.take (Tryz.prog.cellsOf 70) [c1,c2])=some ev:=ba 1 _ rfl
 have ab:DataW.trod enc Tryz.prog W 0 (λ_=>true) true n 71 (List.take (Tryz.prog.cellsOf 71) [c2])=some fh:=ba 2 _ rfl
 rw [MO]at h0;rw [asY]at Z;rw [afC]at ab;obtain⟨Nm,aV,dM⟩:=yJ Tryz.underlying9 h0;obtain⟨as3,kI,V2,r1⟩:=yK (encA:=ej) (ok:=λp:Param=>p.Name.length≤9223372036854775807) Tryz.underlying70 afB (by omega) Z (λm cs' md hm hx=>as0 m cs' md hx)
 obtain⟨al,cW,V4,r2⟩:=yK (encA:=b2) (ok:=rI) Tryz.underlying71 MP (by omega) ab (λm cs' md hm hx=>asZ m cs' md hx)
 exact⟨⟨Nm,as3,al⟩,⟨aV,kI,V2,MQ al V4⟩,(dM.app r1).app r2⟩
end
def x2{α:Type}(l:List α)(h:l.length=2):∃a0 bb,l=[a0,bb]:=by
 match l,h with
 |[a0,bb],_=>exact⟨a0,bb,rfl⟩
def qN{α:Type}(l:List α)(h:l.length=3):∃a0 bb a2,l=[a0,bb,a2]:=by
 match l,h with
 |[a0,bb,a2],_=>exact⟨a0,bb,a2,rfl⟩
def as4{α:Type}(l:List α)(h:l.length=4):∃a0 bb a2 a3,l=[a0,bb,a2,a3]:=by
 match l,h with
 |[a0,bb,a2,a3],_=>exact⟨a0,bb,a2,a3,rfl⟩
def V5{α:Type}(l:List α)(h:l.length=5):∃a0 bb a2 a3 a4,l=[a0,bb,a2,a3,a4]:=by
 match l,h with
 |[a0,bb,a2,a3,a4],_=>exact⟨a0,bb,a2,a3,a4,rfl⟩
def as5{α:Type}(l:List α)(h:l.length=6):∃a0 bb a2 a3 a4 a5,l=[a0,bb,a2,a3,a4,a5]:=by
 match l,h with
 |[a0,bb,a2,a3,a4,a5],_=>exact⟨a0,bb,a2,a3,a4,a5,rfl⟩
def afE{α:Type}(l:List α)(h:l.length=8):∃a0 bb a2 a3 a4 a5 qz x3,l=[a0,bb,a2,a3,a4,a5,qz,x3]:=by
 match l,h with
 |[a0,bb,a2,a3,a4,a5,qz,x3],_=>exact⟨a0,bb,a2,a3,a4,a5,qz,x3,rfl⟩
def as6{α:Type}(l:List α)(h:l.length=11):∃a0 bb a2 a3 a4 a5 qz x3 V6 a9 V7,l=[a0,bb,a2,a3,a4,a5,qz,x3,V6,a9,V7]:=by
 match l,h with
 |[a0,bb,a2,a3,a4,a5,qz,x3,V6,a9,V7],_=>exact⟨a0,bb,a2,a3,a4,a5,qz,x3,V6,a9,V7,rfl⟩
section
variable {H:Type} {enc:TypeId×Value→H} {W:World}
def nq{α:Type}(W:World)(t:TypeId)(ok:α→Prop)(E:α→V):Prop:=∀(fuel:Nat) (cs:List Value) (x:DataW H×List MemPlace),DataW.trod enc Tryz.prog W 0 (λ_=>true) true fuel t cs=some x→∃p:α,ok p∧hz W cs (E p).cells
variable {n:Nat} {t:TypeId} {l:List Value} {x:DataW H×List MemPlace}
abbrev afF(enc:TypeId×Value→H)(W:World)(n:Nat)(t:TypeId)(l:List Value)(x:DataW H×List MemPlace):Prop:=DataW.trod enc Tryz.prog W 0 (λ_=>true) true n t l=some x
abbrev BR(enc:TypeId×Value→H)(W:World)(n:Nat)(t:TypeId)(l:List Value)(x:DataW H×List MemPlace):Prop:=afF enc W n t (l.take (Tryz.prog.cellsOf t)) x
theorem sd(k:Nat)(h:BR enc W n t l x)(hc:Tryz.prog.cellsOf t=k:=by kernel_rfl):afF enc W n t (l.take k) x:=by
 subst hc;exact h
theorem ls(h:BR enc W n t l x)(hc:Tryz.prog.cellsOf t=1:=by kernel_rfl)(aF:Tryz.prog.underlying t=some (.int .i64):=by kernel_rfl):∃v:Int,e0 v∧hz W (l.take 1) [.int .i64 v]:=
 let ⟨v,k,r⟩:=wo (k:=.i64) aF (sd 1 h hc);⟨v,⟨k.1,k.2⟩,r⟩
theorem as7(h:BR enc W n t l x)(hc:Tryz.prog.cellsOf t=1:=by kernel_rfl)(aF:Tryz.prog.underlying t=some (.int .u64):=by kernel_rfl):∃v:Int,hK v∧hz W (l.take 1) [.int .u64 v]:=
 let ⟨v,k,r⟩:=wo (k:=.u64) aF (sd 1 h hc);⟨v,⟨k.1,Int.lt_of_le_of_lt k.2 (by decide)⟩,r⟩
theorem BS(h:BR enc W n t l x)(hc:Tryz.prog.cellsOf t=1:=by kernel_rfl)(aF:Tryz.prog.underlying t=some .string:=by kernel_rfl):∃s:av3,s.length≤9223372036854775807∧hz W (l.take 1) [.str s]:=yJ aF (sd 1 h hc)
theorem afG(h:BR enc W n t l x)(hc:Tryz.prog.cellsOf t=1:=by kernel_rfl)(aF:Tryz.prog.underlying t=some .bool:=by kernel_rfl):∃b:Bool,hz W (l.take 1) [.bool b]:=ajk aF (sd 1 h hc)
theorem afH:nq (enc:=enc) W 9 (λs:av3=>s.length≤9223372036854775807) bf:=λm cs x h=>yJ Tryz.underlying9 h
theorem pJ{α:Type}[Inhabited α]{ok:α→Prop}{E:α→V}{e:TypeId}(k:Nat)(ai:nq (enc:=enc) W e ok E)(h:BR enc W n t l x)(hc:Tryz.prog.cellsOf t=1:=by kernel_rfl)(aF:Tryz.prog.underlying t=some (.slice e):=by kernel_rfl)(hk:Tryz.prog.cellsOf e=k:=by kernel_rfl)(h0:0<k:=by decide):
 ∃v:List α,(v.length≤9223372036854775807∧∀i,i<v.length→ok (v.getD i default))∧hz W (l.take 1) [af k E v]:=
 let ⟨v,a,b,r⟩:=yK aF hk h0 (sd 1 h hc) (λm cs x _ hx=>ai m cs x hx);⟨v,⟨a,b⟩,r⟩
structure F9(x:bH):Prop where
 avr:e0 x.Kind
 afI:e0 x.N
 afJ:x.S.length≤9223372036854775807
theorem V8:nq (enc:=enc) W 85 F9 eB:=λfuel cs x h=>by
 obtain⟨xs,n,hn,_,aa,ht,ba⟩:=DataW.trod_struct Tryz.underlying85 h;obtain⟨c0,c1,c2,rfl⟩:=qN cs (aa.trans (by kernel_rfl))
 obtain⟨hM,ev,fh,rfl⟩:=qN xs ht;obtain⟨v0,gB,dM⟩:=ls (ba 0 _ rfl);obtain⟨v1,dt,r1⟩:=ls (ba 1 _ rfl);obtain⟨v2,ak,r2⟩:=BS (ba 2 _ rfl);exact⟨⟨v0,v1,v2⟩,⟨gB,dt,ak⟩,((dM.app r1).app r2)⟩
structure afK(x:Version):Prop where
 avs:e0 x.bN
 afL:F9 x.bk
theorem as8:nq (enc:=enc) W 138 afK gQ:=λfuel cs x h=>by
 obtain⟨xs,n,hn,_,aa,ht,ba⟩:=DataW.trod_struct Tryz.underlying138 h;obtain⟨c0,c1,c2,c3,rfl⟩:=as4 cs (aa.trans (by kernel_rfl))
 obtain⟨hM,ev,rfl⟩:=x2 xs ht;obtain⟨v0,gB,dM⟩:=ls (ba 0 _ rfl);obtain⟨v1,dt,r1⟩:=V8 n _ _ (sd 3 (ba 1 _ rfl));exact⟨⟨v0,v1⟩,⟨gB,dt⟩,(dM.app r1)⟩
structure afM(x:Row):Prop where
 V9:x.Key.length≤9223372036854775807
 V':x.bp.length≤9223372036854775807∧∀i,i<x.bp.length→afK (x.bp.getD i default)
theorem as9:nq (enc:=enc) W 92 afM bO:=λfuel cs x h=>by
 obtain⟨xs,n,hn,_,aa,ht,ba⟩:=DataW.trod_struct Tryz.underlying92 h;obtain⟨c0,c1,rfl⟩:=x2 cs (aa.trans (by kernel_rfl))
 obtain⟨hM,ev,rfl⟩:=x2 xs ht;obtain⟨v0,gB,dM⟩:=BS (ba 0 _ rfl);obtain⟨v1,dt,r1⟩:=pJ 4 as8 (ba 1 _ rfl);exact⟨⟨v0,v1⟩,⟨gB,dt⟩,(dM.app r1)⟩
structure V_(x:aq):Prop where
 avt:e0 x.bx
 avu:e0 x.br
 afN:x.Rows.length≤9223372036854775807∧∀i,i<x.Rows.length→afM (x.Rows.getD i default)
theorem as':nq (enc:=enc) W 24 V_ ajB:=λfuel cs x h=>by
 obtain⟨xs,n,hn,_,aa,ht,ba⟩:=DataW.trod_struct Tryz.underlying24 h;obtain⟨c0,c1,c2,rfl⟩:=qN cs (aa.trans (by kernel_rfl))
 obtain⟨hM,ev,fh,rfl⟩:=qN xs ht;obtain⟨v0,gB,dM⟩:=ls (ba 0 _ rfl);obtain⟨v1,dt,r1⟩:=ls (ba 1 _ rfl);obtain⟨v2,ak,r2⟩:=pJ 2 as9 (ba 2 _ rfl);exact⟨⟨v0,v1,v2⟩,⟨gB,dt,ak⟩,((dM.app r1).app r2)⟩
structure Wa(x:Outcome):Prop where
 avv:e0 x.Status
 avw:e0 x.Code
 afO:x.Out.length≤9223372036854775807∧∀i,i<x.Out.length→F9 (x.Out.getD i default)
theorem as_:nq (enc:=enc) W 230 Wa ajD:=λfuel cs x h=>by
 obtain⟨xs,n,hn,_,aa,ht,ba⟩:=DataW.trod_struct Tryz.underlying230 h;obtain⟨c0,c1,c2,rfl⟩:=qN cs (aa.trans (by kernel_rfl))
 obtain⟨hM,ev,fh,rfl⟩:=qN xs ht;obtain⟨v0,gB,dM⟩:=ls (ba 0 _ rfl);obtain⟨v1,dt,r1⟩:=ls (ba 1 _ rfl);obtain⟨v2,ak,r2⟩:=pJ 3 V8 (ba 2 _ rfl);exact⟨⟨v0,v1,v2⟩,⟨gB,dt,ak⟩,((dM.app r1).app r2)⟩
structure afP(x:e_):Prop where
 afQ:e0 x.Client
 ata:e0 x.Seq
 afR:Wa x.Outcome
theorem atb:nq (enc:=enc) W 232 afP iZ:=λfuel cs x h=>by
 obtain⟨xs,n,hn,_,aa,ht,ba⟩:=DataW.trod_struct Tryz.underlying232 h;obtain⟨c0,c1,c2,c3,c4,rfl⟩:=V5 cs (aa.trans (by kernel_rfl))
 obtain⟨hM,ev,fh,rfl⟩:=qN xs ht;obtain⟨v0,gB,dM⟩:=ls (ba 0 _ rfl);obtain⟨v1,dt,r1⟩:=ls (ba 1 _ rfl);obtain⟨v2,ak,r2⟩:=as_ n _ _ (sd 3 (ba 2 _ rfl));exact⟨⟨v0,v1,v2⟩,⟨gB,dt,ak⟩,((dM.app r1).app r2)⟩
structure Wb(x:b0):Prop where
 afQ:e0 x.Client
 avx:e0 x.Next
 Wc:x.b'.length≤9223372036854775807∧∀i,i<x.b'.length→afP (x.b'.getD i default)
theorem atc:nq (enc:=enc) W 76 Wb c7:=λfuel cs x h=>by
 obtain⟨xs,n,hn,_,aa,ht,ba⟩:=DataW.trod_struct Tryz.underlying76 h;obtain⟨c0,c1,c2,rfl⟩:=qN cs (aa.trans (by kernel_rfl))
 obtain⟨hM,ev,fh,rfl⟩:=qN xs ht;obtain⟨v0,gB,dM⟩:=ls (ba 0 _ rfl);obtain⟨v1,dt,r1⟩:=ls (ba 1 _ rfl);obtain⟨v2,ak,r2⟩:=pJ 5 atb (ba 2 _ rfl);exact⟨⟨v0,v1,v2⟩,⟨gB,dt,ak⟩,((dM.app r1).app r2)⟩
structure afS(x:Part):Prop where
 atd:e0 x.Id
 ate:x.dR.length≤9223372036854775807
 atf:e0 x.Node
 atg:e0 x.fH
 ath:x.dI.length≤9223372036854775807
theorem ati:nq (enc:=enc) W 148 afS cF:=λfuel cs x h=>by
 obtain⟨xs,n,hn,_,aa,ht,ba⟩:=DataW.trod_struct Tryz.underlying148 h;obtain⟨c0,c1,c2,c3,c4,rfl⟩:=V5 cs (aa.trans (by kernel_rfl))
 obtain⟨hM,ev,fh,kb,fI,rfl⟩:=V5 xs ht;obtain⟨v0,gB,dM⟩:=ls (ba 0 _ rfl);obtain⟨v1,dt,r1⟩:=BS (ba 1 _ rfl);obtain⟨v2,ak,r2⟩:=ls (ba 2 _ rfl);obtain⟨v3,e',r3⟩:=ls (ba 3 _ rfl);obtain⟨v4,d_,aR⟩:=BS (ba 4 _ rfl);exact⟨⟨v0,v1,v2,v3,v4⟩,⟨gB,dt,ak,e',d_⟩,((((dM.app r1).app r2).app r3).app aR)⟩
structure Wd(x:b8):Prop where
 atj:e0 x.Version
 afT:x.aE.length≤9223372036854775807∧∀i,i<x.aE.length→afS (x.aE.getD i default)
theorem atk:nq (enc:=enc) W 29 Wd ajE:=λfuel cs x h=>by
 obtain⟨xs,n,hn,_,aa,ht,ba⟩:=DataW.trod_struct Tryz.underlying29 h;obtain⟨c0,c1,rfl⟩:=x2 cs (aa.trans (by kernel_rfl))
 obtain⟨hM,ev,rfl⟩:=x2 xs ht;obtain⟨v0,gB,dM⟩:=ls (ba 0 _ rfl);obtain⟨v1,dt,r1⟩:=pJ 5 ati (ba 1 _ rfl);exact⟨⟨v0,v1⟩,⟨gB,dt⟩,(dM.app r1)⟩
structure We(x:bc):Prop where
 V9:x.Key.length≤9223372036854775807
 atl:e0 x.Count
theorem atm:nq (enc:=enc) W 179 We de:=λfuel cs x h=>by
 obtain⟨xs,n,hn,_,aa,ht,ba⟩:=DataW.trod_struct Tryz.underlying179 h;obtain⟨c0,c1,rfl⟩:=x2 cs (aa.trans (by kernel_rfl))
 obtain⟨hM,ev,rfl⟩:=x2 xs ht;obtain⟨v0,gB,dM⟩:=BS (ba 0 _ rfl);obtain⟨v1,dt,r1⟩:=ls (ba 1 _ rfl);exact⟨⟨v0,v1⟩,⟨gB,dt⟩,(dM.app r1)⟩
structure afU(x:fz):Prop where
 avy:True
 avz:x.Reads.length≤9223372036854775807∧∀i,i<x.Reads.length→(x.Reads.getD i default).length≤9223372036854775807
 avA:x.cA.length≤9223372036854775807∧∀i,i<x.cA.length→(x.cA.getD i default).length≤9223372036854775807
theorem atn:nq (enc:=enc) W 80 afU ajF:=λfuel cs x h=>by
 obtain⟨xs,n,hn,_,aa,ht,ba⟩:=DataW.trod_struct Tryz.underlying80 h;obtain⟨c0,c1,c2,rfl⟩:=qN cs (aa.trans (by kernel_rfl))
 obtain⟨hM,ev,fh,rfl⟩:=qN xs ht;obtain⟨v0,dM⟩:=afG (ba 0 _ rfl);obtain⟨v1,dt,r1⟩:=pJ 1 afH (ba 1 _ rfl);obtain⟨v2,ak,r2⟩:=pJ 1 afH (ba 2 _ rfl);exact⟨⟨v0,v1,v2⟩,⟨trivial,dt,ak⟩,((dM.app r1).app r2)⟩
structure Wf(x:Request):Prop where
 afQ:e0 x.Client
 ata:e0 x.Seq
 avB:x.bg.length≤9223372036854775807
 fArgs:x.ax.length≤9223372036854775807∧∀i,i<x.ax.length→F9 (x.ax.getD i default)
 avC:True
 avD:afU x.bv
theorem ato:nq (enc:=enc) W 82 Wf dn:=λfuel cs x h=>by
 obtain⟨xs,n,hn,_,aa,ht,ba⟩:=DataW.trod_struct Tryz.underlying82 h;obtain⟨c0,c1,c2,c3,c4,c5,x0,vg,rfl⟩:=afE cs (aa.trans (by kernel_rfl))
 obtain⟨hM,ev,fh,kb,fI,lL,rfl⟩:=as5 xs ht;obtain⟨v0,gB,dM⟩:=ls (ba 0 _ rfl);obtain⟨v1,dt,r1⟩:=ls (ba 1 _ rfl);obtain⟨v2,ak,r2⟩:=BS (ba 2 _ rfl);obtain⟨v3,e',r3⟩:=pJ 3 V8 (ba 3 _ rfl);obtain⟨v4,aR⟩:=afG (ba 4 _ rfl);obtain⟨v5,sV,bZ⟩:=atn n _ _ (sd 3 (ba 5 _ rfl));exact⟨⟨v0,v1,v2,v3,v4,v5⟩,⟨gB,dt,ak,e',trivial,sV⟩,(((((dM.app r1).app r2).app r3).app aR).app bZ)⟩
structure tx(x:bC):Prop where
 atp:e0 x.Pos
 afV:V_ x.aq
 afW:x.bP.length≤9223372036854775807∧∀i,i<x.bP.length→rK (x.bP.getD i default)
 afX:x.bU.length≤9223372036854775807∧∀i,i<x.bU.length→Wb (x.bU.getD i default)
 Wg:Wd x.Place
 afY:x.bc.length≤9223372036854775807∧∀i,i<x.bc.length→We (x.bc.getD i default)
 atq:x.Queue.length≤9223372036854775807∧∀i,i<x.Queue.length→Wf (x.Queue.getD i default)
 atr:hK x.cg
theorem ats:nq (enc:=enc) W 34 tx Zb:=λfuel cs x h=>by
 obtain⟨xs,n,hn,_,aa,ht,ba⟩:=DataW.trod_struct Tryz.underlying34 h;obtain⟨c0,c1,c2,c3,c4,c5,x0,vg,BP,c9,uT,rfl⟩:=as6 cs (aa.trans (by kernel_rfl))
 obtain⟨hM,ev,fh,kb,fI,lL,rv,Jf,rfl⟩:=afE xs ht;obtain⟨v0,gB,dM⟩:=ls (ba 0 _ rfl);obtain⟨v1,dt,r1⟩:=as' n _ _ (sd 3 (ba 1 _ rfl));obtain⟨v2,ak,r2⟩:=pJ 3 as2 (ba 2 _ rfl);obtain⟨v3,e',r3⟩:=pJ 3 atc (ba 3 _ rfl);obtain⟨v4,d_,aR⟩:=atk n _ _ (sd 2 (ba 4 _ rfl));obtain⟨v5,sV,bZ⟩:=pJ 2 atm (ba 5 _ rfl);obtain⟨v6,rq,bj⟩:=pJ 8 ato (ba 6 _ rfl);obtain⟨bD,ux,cC⟩:=as7 (ba 7 _ rfl);exact⟨⟨v0,v1,v2,v3,v4,v5,v6,bD⟩,⟨gB,dt,ak,e',d_,sV,rq,ux⟩,(((((((dM.app r1).app r2).app r3).app aR).app bZ).app bj).app cC)⟩
end
def oR{α:Type}[Inhabited α]{P:α→Prop}{l:List α}(h:∀i,i<l.length→P (l.getD i default))(h0:P default)(i:Nat):P (l.getD i default):=by
 by_cases hi:i<l.length
 ·exact h i hi
 ·rw [List.getD_eq_getElem?_getD,List.getElem?_eq_none (by omega)];exact h0
def pK{α:Type}[Inhabited α]{P:α→Prop}{l:List α}(h:∀i,i<l.length→P (l.getD i default))(x:α)(hx:x∈l):P x:=by
 obtain⟨i,hi,e⟩:=VY hx;rw [←e];exact h i hi
def Wh{k:av3}(h:jx k=true):k.length≤24:=by
 unfold jx at h;simp only [Bool.and_eq_true,decide_eq_true_eq]at h;exact h.1.2
def afZ{k:av3}(h:nm k=true):k.length≤24:=by
 unfold nm at h;simp only [Bool.and_eq_true,decide_eq_true_eq]at h;exact h.2
def af0{l:List bH}(h:pE l=true)(hi:∀i,i<l.length→F9 (l.getD i default)):∀v∈l,qF v:=by
 unfold pE at h;rw [jd]at h;refine pK λi aa=>?_
 have Z:=h i aa;rw [Bool.and_eq_true]at Z;exact⟨Z.1,(hi i aa).afI⟩
def att{o:Outcome}(h:u7 o=true)(hi:Wa o):pH o:=by
 unfold u7 at h;by_cases hs:o.Status=1
 ·simp only [hs,avM,avO,Bool.and_eq_true,decide_eq_true_eq]at h;obtain⟨⟨Z,ab⟩,aj⟩:=h;exact⟨by omega,by omega,ab,af0 aj hi.afO.2⟩
 ·simp only [hs,avN,avP,Bool.and_eq_true,decide_eq_true_eq]at h;obtain⟨⟨⟨Z,ab⟩,aj⟩,aD⟩:=h;have aX:o.Out=[]:=List.length_eq_zero_iff.1 aD;exact⟨by omega,by omega,by rw [aX];simp,by rw [aX];exact λv av=>by cases av⟩
def atu{s:b0}(h:xQ s=true)(hi:Wb s):qL s:=by
 unfold xQ at h;simp only [Bool.and_eq_true,Bool.not_eq_true',decide_eq_true_eq,jd]at h;obtain⟨⟨Z,ab⟩,aj⟩:=h;obtain⟨bb,a2,a3,a4⟩:=VA Z;have hk:=F2 ⟨a3,a4⟩
 have aD:∀i,i<s.b'.length→((s.b'.getD i default).Client=s.Client∧(s.b'.getD i default).Seq=s.Next-(s.b'.length:Int)+(i:Int))∧u7 (s.b'.getD i default).Outcome=true:=λi aa=>by
  have:=aj i aa
  unfold BA at this;simp only [Bool.and_eq_true,decide_eq_true_eq]at this;exact this
 refine⟨⟨bb,a2⟩,⟨a3,a4⟩,?_,by rw [List.length_map];omega,?_⟩
 ·refine List.ext_getElem (by simp [va]) λi g1 g2=>?_
  have aX:=aD i g1;rw [List.getD_eq_getElem?_getD,List.getElem?_eq_getElem g1,Option.getD_some]at aX;simp only [va,List.getElem_map,List.getElem_zipIdx,Nat.zero_add];rw [wr (x:=kA s.Next-(i:Int)) (by omega) (by omega),wr (x:=s.Next-(kA s.Next-(i:Int))) (by omega) (by omega)]
  generalize s.b'[i]=x at aX
  obtain⟨c,q,o⟩:=x;obtain⟨⟨e1,e2⟩,_⟩:=aX;simp only at e1 e2
  subst e1;rw [e2,ab,show s.Next-kA s.Next+(i:Int)=s.Next-(kA s.Next-(i:Int))by omega]
 ·intro o aw;obtain⟨x,hx,rfl⟩:=List.mem_map.1 aw;exact pK (P:=λx:e_=>pH x.Outcome) (λi aa=>att (aD i aa).2 (hi.Wc.2 i aa).afR) x hx
def atv{p:b8}(h:nn p=true)(hi:Wd p):p.aE.length≤16∧∀x∈p.aE,qK x:=by
 unfold nn at h;simp only [Bool.and_eq_true,Bool.not_eq_true',Bool.or_eq_false_iff,decide_eq_false_iff_not,Bool.not_eq_false',decide_eq_true_eq,jd]at h;obtain⟨⟨⟨⟨⟨Z,ab⟩,aj⟩,aD⟩,aX⟩,bW⟩:=h;refine⟨by omega,pK λi aa=>?_⟩
 have cZ:=bW i aa;have hx:=hi.afT.2 i aa;unfold u6 r4 at cZ;simp only [Bool.and_eq_true]at cZ;obtain⟨dr,⟨_,eR⟩,_⟩:=cZ;refine⟨hx.atd,?_,hx.atf,hx.atg,?_⟩
 ·cases i with
  |zero=>rw [aX];simp
  |succ i=>
   rw [show decide (0<((i+1:Nat):Int))=true from decide_eq_true (by omega),avQ,Bool.false_or,Bool.and_eq_true]at dr
   exact afZ dr.1
 ·by_cases hd:(p.aE.getD i default).fH=0
  ·simp only [hd,avM,avO,decide_eq_true_eq]at eR;rw [eR];simp
  ·simp only [hd,avN,avP,Bool.and_eq_true]at eR;exact afZ eR.1.1.2
def atw{l:List bc}(h:rX l=true)(hi:∀i,i<l.length→We (l.getD i default)):l.length≤32∧∀x∈l,x.Key.length≤24∧e0 x.Count:=by
 unfold rX at h;simp only [Bool.and_eq_true,decide_eq_true_eq,jd]at h;obtain⟨Z,ab⟩:=h;exact⟨by omega,pK (P:=λx:bc=>x.Key.length≤24∧e0 x.Count) λi aa=>⟨Wh (Z i aa).1.1.1,(hi i aa).atl⟩⟩
def af1{l:kc}(h:qH l=true):∀v∈l,v.length≤24:=by
 unfold qH at h;rw [jd]at h
 exact pK (P:=λv:av3=>v.length≤24) λi aa=>by
  have:=h i aa
  rw [Bool.and_eq_true]at this;exact Wh this.1
def atx{s:av3}(h:gy s=true):s.length≤16:=by obtain⟨_,_,_,_,_,_,h⟩:=LX h;exact h
def aty{
 r:Request} (h:pF r=0) (hi:Wf r):n5 r∧tq r=true:=by
 have h0:=h;unfold pF at h;cases Z:((decide (r.Client<1)||decide (32<r.Client))||decide (r.Seq<1))||decide (1099511627776<r.Seq)
 ·cases ab:gy r.bg
  ·rw [Z,ab]at h;simp at h
  ·cases aj:decide (6<r.ax.length)
   ·cases aD:pE r.ax
    ·rw [Z,ab,aj,aD]at h;simp at h
    ·cases aX:((!rY r.bv||r.bv.ek)||(!r.eS&&decide (0<r.bv.Reads.length+r.bv.cA.length)))
     ·simp only [Bool.or_eq_false_iff,decide_eq_false_iff_not]at Z aj aX;obtain⟨⟨⟨cb,jn⟩,FA⟩,LV⟩:=Z;obtain⟨⟨c1,c2⟩,c3⟩:=aX;rw [Bool.not_eq_false']at c1;unfold rY at c1;rw [c2,avP]at c1;simp only [Bool.and_eq_true,decide_eq_true_eq]at c1;obtain⟨⟨d1,d2⟩,d3,d4⟩:=c1;refine⟨⟨⟨by omega,by omega⟩,⟨by omega,by omega⟩,atx ab,⟨by omega,af0 aD hi.fArgs.2⟩,?_,c2⟩,?_⟩
      ·unfold F3;cases hd:r.eS
       ·rw [hd]at c3;simp only [avR,Bool.true_and,decide_eq_false_iff_not]at c3;rw [if_neg (by simp)]
        rw [List.length_eq_zero_iff.1 (show r.bv.Reads.length=0 by omega),List.length_eq_zero_iff.1 (show r.bv.cA.length=0 by omega)]
       ·rw [if_pos rfl];exact⟨⟨d2,af1 d1⟩,d4,af1 d3⟩
      ·unfold tq;rw [h0,decide_eq_true (show r.Client≤32 by omega),decide_eq_true (show r.Seq≤1099511627776 by omega)];rfl
     ·rw [Z,ab,aj,aD,aX]at h;simp at h
   ·rw [Z,ab,aj]at h;simp at h
 ·rw [Z]at h;simp at h
def atz{s:aq}(hs:l1 s=true)(hi:V_ s)(hb:∀i,i<s.Rows.length→(s.Rows.getD i default).bp.length≤1000000000):∀p∈fL s.Rows,r7 p:=by
 intro p hp;obtain⟨r,ai,e,_⟩:=MM _ _ hp;obtain⟨j,hj,rfl⟩:=VY ai;obtain⟨a,b⟩:=afv hs hb j hj;rw [e];refine⟨Wh a,b,?_⟩
 have Z:=(hi.afN.2 j hj).V'.2;exact oR (P:=λv:Version=>e0 v.bk.N) (λk hk=>(Z k hk).afL.afI) (by show e0 (0:Int);exact⟨by omega,by omega⟩) _
def atA{r:bC}(hs:je r=true)(hi:tx r)(gm:r.aq.Rows.length≤1000000)(hb:∀i,i<r.aq.Rows.length→(r.aq.Rows.getD i default).bp.length≤1000000000)(F8:r.bU.length≤32):tu (oQ r (fL r.aq.Rows)):=by
 unfold je at hs;simp only [Bool.and_eq_true,decide_eq_true_eq]at hs;obtain⟨⟨⟨⟨⟨⟨⟨⟨Z,ab⟩,aj⟩,aD⟩,aX⟩,bW⟩,cZ⟩,dr⟩,eR⟩:=hs;have jR:=BO r.aq.Rows;refine⟨hi.atp,⟨⟨by show(fL r.aq.Rows).length≤_;omega,atz aj hi.afV hb⟩,asQ aj gm hb⟩,?_,⟨⟨F8,?_⟩,bW⟩,⟨⟨hi.Wg.atj,atv cZ hi.Wg⟩,cZ⟩,atw dr hi.afY.2,?_,hi.atr⟩
 ·unfold tr at aX;simp only [Bool.and_eq_true,decide_eq_true_eq,jd]at aX;obtain⟨hG,atB⟩:=aX;refine⟨by show(r.bP.map hf).length≤16;rw [List.length_map];exact atB,λs hs=>?_⟩
  obtain⟨p,hp,rfl⟩:=List.mem_map.1 (show s∈r.bP.map hf from hs)
  refine pK (P:=λp:bg=>(hf p).length≤16384) (λi aa=>?_) p hp
  have:=(hG i aa).1
  simp only [Bool.not_eq_true',Bool.or_eq_false_iff,decide_eq_false_iff_not]at this;omega
 ·have hG:=bW;unfold n3 at hG;simp only [Bool.and_eq_true,jd]at hG;exact pK (P:=qL) λi aa=>atu (hG i aa).1 (hi.afX.2 i aa)
 ·have hG:=eR;unfold BI at hG;simp only [Bool.and_eq_true,decide_eq_true_eq,jd]at hG;exact⟨hG.2,pK (P:=λq:Request=>n5 q∧tq q=true) λi aa=>aty (hG.1 i aa) (hi.atq.2 i aa)⟩
def Wi{α:Type}{E:α→av3}{k:Nat}:∀{l:List α},(∀v∈l,(E v).length≤k)→(iO E l).length≤k*l.length
 |[],_=>by simp [iO]
 |v::l,h=>by
  have Z:=h v (by simp)
  have ab:=Wi (E:=E) (l:=l) λw hw=>h w (by simp [hw])
  rw [Bt,avW,avS,Nat.mul_add,Nat.mul_one];omega
def se{α:Type}{E:α→av3}{k:Nat}(m:Nat){l:List α}(aa:l.length≤m)(hm:m<18446744073709551616)(hk:∀v∈l,(E v).length≤k):(ef E l).length≤10+k*m:=by
 have Z:=Wi hk;have ab:=nk (u:=l.length) (by omega)
 have aj:=Nat.mul_le_mul_left k aa;unfold ef;rw [avW];omega
def Wj{v:bH}(h:qF v):(bV v).length≤84:=by
 have Z:=tp h;have ab:=ael h.2 (by omega)
 omega
def vh{s:av3}{k:Nat}(h:s.length≤k)(hk:k≤1000000):(gk s).length≤k+10:=by
 have:=Mk (s:=s) (by omega)
 omega
def atC{o:Outcome}(h:pH o):(r9 o).length≤1374:=by
 obtain⟨Z,ab⟩:=afn h;have bb:=n9 Z;have a2:=n9 ab;have a3:=se (E:=bV) (k:=84) 16 h.2.2.1 (by omega) λv av=>Wj (h.2.2.2 v av)
 unfold r9;simp only [avW];omega
def atD{s:b0}(h:qL s):(lq s).length≤11012:=by
 obtain⟨Z,ab,aj,aD,aX⟩:=h;have bb:=n9 (z:=s.Client) ⟨by omega,by omega⟩
 have a2:=n9 (z:=s.Next) ⟨by omega,by omega⟩
 have a3:=Wi (E:=r9) (k:=1374) λo aw=>atC (aX o aw)
 have a4:=F2 ab;unfold lq;simp only [avW];omega
def atE{x:Part}(h:qK x):(r8 x).length≤98:=by
 obtain⟨Z,ab,aj,aD,aX⟩:=h;have bb:=rQ Z;have a2:=rQ aj;have a3:=rQ aD;have a4:=vh ab (by omega)
 have a5:=vh aX (by omega)
 unfold r8;simp only [avW];omega
def atF{r:Request}(h:n5 r):(jL r).length≤5000:=by
 obtain⟨Z,ab,aj,aD,aX,bW⟩:=h;have bb:=n9 Z;have a2:=n9 ab;have a3:=vh aj (by omega)
 have a4:=se (E:=bV) (k:=84) 6 aD.1 (by omega) λv av=>Wj (aD.2 v av)
 have a5:=VV r.eS
 have qz:(r_ r.eS (r.bv.Reads,r.bv.cA)).length≤4372:=by
  unfold r_ F3 at *;cases hd:r.eS
  ·simp
  ·rw [hd]at aX;obtain⟨⟨c1,c2⟩,c3,c4⟩:=aX;have d1:=se (E:=gk) (k:=34) 64 c1 (by omega) λv av=>vh (c2 v av) (by omega)
   have d2:=se (E:=gk) (k:=34) 64 c3 (by omega) λv av=>vh (c4 v av) (by omega)
   simp only [av1,avW];simp only at d1 d2
   omega
 unfold jL;simp only [avW];omega
def atG{r:bC}{A:List aU}(hp:tu (oQ r A))(aS:A.length≤100)(F8:r.bU.length≤10)(ee:r.Queue.length≤64):(k0 (oQ r A)).length≤800000:=by
 have cb:(mQ r.Pos).length≤10:=rQ hp.pos
 have jn:=se (E:=lp) (k:=118) 100 aS (by omega) λp h=>by
  obtain⟨c1,c2⟩:=hp.lr.1.2 p h;have d1:=vh c1 (by omega)
  have d2:=Wj c2;unfold lp;rw [avW];omega
 have FA:=se (E:=gk) (k:=16394) 16 hp.src.1 (by omega) λs h=>vh (hp.src.2 s h) (by omega)
 have LV:=se (E:=lq) (k:=11012) 10 F8 (by omega) λs h=>atD (hp.oP.1.2 s h)
 have avE:=se (E:=r8) (k:=98) 16 hp.xY.1.2.1 (by omega) λs h=>atE (hp.xY.1.2.2 s h)
 have avF:=se (E:=n6) (k:=44) 32 hp.aF.1 (by omega) λx h=>by
  obtain⟨c1,c2⟩:=hp.aF.2 x h;have d1:=vh c1 (by omega)
  have d2:=rQ c2;unfold n6;rw [avW];omega
 have avG:=se (E:=jL) (k:=5000) 64 ee (by omega) λq h=>atF (hp.n8.2 q h).1
 have avH:=n9 hp.VS;have avI:=rQ hp.xY.1.1;unfold k0 oO;simp only [avW];simp only [oQ]at *;omega
structure MR(n:Nat)(r:bC):Prop where
 cp:qM n r
 qI:r.aq.Rows.length≤100
 vs:∀i,i<r.aq.Rows.length→(r.aq.Rows.getD i default).bp.length≤1000
 pl:r.bP.length≤1000
 kz:r.bU.length≤10
abbrev lu(r:bC):BJ:=oQ r (fL r.aq.Rows)
section
variable {n:Nat} (hn:100000000≤n) (aV:n≤9223372036854775808) {r:bC} (ba:MR n r) (hi:tx r)
include hn aV ba hi
theorem Wk(hs:je r=true):tu (lu r)∧(k0 (lu r)).length≤800000:=by
 have hsh:=ba.cp;have MS:=ba.qI;have hp:=atA hs hi (by omega) (λi aa=>by have:=ba.vs i aa;omega) (by have:=ba.kz;omega)
 exact⟨hp,atG hp (by have:=BO r.aq.Rows;omega) (by have:=ba.kz;omega) hp.n8.1⟩
theorem af2(hs:je r=true):(∀i,i<r.aq.Rows.length→BM n r.Pos (r.aq.Rows.getD i default))∧r.aq.bx≤r.Pos∧r.Pos≤r.aq.br:=by
 have hsh:=ba.cp;unfold je at hs;simp only [Bool.and_eq_true,decide_eq_true_eq]at hs;obtain⟨⟨⟨⟨⟨⟨⟨⟨Z,ab⟩,aj⟩,aD⟩,aX⟩,bW⟩,cZ⟩,dr⟩,eR⟩:=hs;have BT:=afr (n:=n) aj (λi aa=>by have:=(hsh.st.row i).Mt;have ab:=ba.vs i aa;exact⟨this,by omega⟩)
 rw [aD]at BT;refine⟨BT,?_⟩
 unfold l1 at aj;simp only [Bool.and_eq_true,Bool.not_eq_true',Bool.or_eq_false_iff,decide_eq_false_iff_not]at aj;obtain⟨⟨⟨bb,a2⟩,a3⟩,_⟩:=aj;omega
theorem atH(hs:je r=true):zm n r=some (k0 (lu r)):=by
 have hsh:=ba.cp;have MS:=ba.qI;have jR:=ba.pl;obtain⟨hp,aa⟩:=Wk hn aV ba hi hs;obtain⟨BT,Wl,Wm⟩:=af2 hn aV ba hi hs;have ox:=hs;unfold je BI at ox;simp only [Bool.and_eq_true,decide_eq_true_eq,jd]at ox;obtain⟨⟨⟨⟨⟨⟨⟨⟨Z,ab⟩,aj⟩,aD⟩,aX⟩,bW⟩,cZ⟩,dr⟩,eR,hG⟩:=ox
 exact asB hn aV hp aa (pK λi _=>hsh.lr i) (by omega) (asO (by omega) (by omega) BT Wl Wm (by rw [aeT (by omega) aV hsh.st,aj]))
  (by rw [VB (by omega) aV hsh.vd hsh.oP,bW]) (pK (P:=λq:Request=>pg n q=some 0) λi aa=>by rw [Vy (by omega) aV (hsh.ve i),eR i aa])
def encA(r:bC):av3×Int:=bif !je r then([],1)else bif decide (16384<(((k0 (lu r)).length:Nat):Int)) then([],2) else(k0 (lu r),0)
end
def atI(A:List aU)(a:Int):(np A a).Rows.length=A.length:=by unfold np;simp
def MT{A:List aU}{a:Int}{i:Nat}(hi:i<A.length):(np A a).Rows.getD i default=⟨(A.getD i default).Key,[⟨a,(A.getD i default).bk⟩]⟩:=by
 unfold np;simp only [List.getD_eq_getElem?_getD,List.getElem?_map,List.getElem?_eq_getElem hi,Option.map_some,Option.getD_some]
def atJ{A:List aU}{a:Int}(h:mn A=true)(h0:0≤a)(Z:a≤1099511627776)(aa:A.length≤1000000000):l1 (np A a)=true:=by
 unfold mn xN at h;simp only [Bool.and_eq_true,jd]at h;obtain⟨ab,aj⟩:=h;unfold l1;rw [Bool.and_eq_true,jd,atI];refine⟨?_,λi hi=>?_⟩
 ·show(!((decide (a<0)||decide (a<a))||decide (1099511627776<a)))=true
  rw [decide_eq_false (show¬ a<0 by omega),decide_eq_false (show¬ a<a by omega),decide_eq_false (show¬ 1099511627776<a by omega)];rfl
 ·obtain⟨⟨bb,a2⟩,a3⟩:=ab i hi;have a4:=aj i hi;rw [Bool.and_eq_true,Bool.and_eq_true];refine⟨⟨by rw [MT hi];exact bb,?_⟩,?_⟩
  ·cases i with
   |zero=>simp
   |succ i=>
    rw [Vw i (by omega)]at a3 ⊢
    rw [MT (show i<A.length by omega),MT hi]
    exact a3
  ·rw [MT hi];show pG ⟨(A.getD i default).Key,[⟨a,(A.getD i default).bk⟩]⟩ a a=true
   generalize A.getD i default=p at a2 a4
   unfold pG;rw [Bool.and_eq_true,jd];refine⟨?_,λk hk=>?_⟩
   ·show(!(false||decide (p.bk.Kind=0)))=true
    rw [Bool.false_or];exact a4
   ·obtain rfl:k=0:=by
     have:k<1:=hk
     omega
    have e:tn ⟨p.Key,[⟨a,p.bk⟩]⟩ a a 0=(((!decide (a<a) && !decide (a<a))&&ja p.bk)&&true):=by
     unfold tn;rw [show decide (0<((0:Nat):Int))=false from decide_eq_false (by omega),Bool.false_and];rfl
    rw [e,a2,decide_eq_false (avZ a)];rfl
abbrev MU(r:bC):bC:=⟨r.Pos,np (fL r.aq.Rows) r.Pos,r.bP,r.bU,r.Place,r.bc,r.Queue,r.cg⟩
def atK{r:bC}(hs:je r=true)(hp:tu (lu r))(aa:(fL r.aq.Rows).length≤1000000000):je (MU r)=true:=by
 unfold je at hs ⊢;simp only [Bool.and_eq_true,decide_eq_true_eq]at hs ⊢;obtain⟨⟨⟨⟨⟨⟨⟨⟨Z,ab⟩,aj⟩,aD⟩,aX⟩,bW⟩,cZ⟩,dr⟩,eR⟩:=hs;exact⟨⟨⟨⟨⟨⟨⟨⟨Z,ab⟩,atJ hp.lr.2 Z ab aa⟩,rfl⟩,aX⟩,bW⟩,cZ⟩,dr⟩,eR⟩
def atL{n:Nat}(hn:2000≤n){r:bC}(h:qM n r)(hp:tu (lu r))(aa:(fL r.aq.Rows).length<n):qM n (MU r):=
 ⟨asm hn aa hp.lr.1.2 r.Pos,h.xW,h.lr,h.vd,h.oP,h.pl,h.xX,h.aF,h.kl,h.n8,h.ve⟩
def atM{n:Nat}(hn:100000000≤n)(l:List bg)(aa:l.length≤1000)(h:∀p∈l,n7 p)(hs:∀p∈l,hf p≠[]∧(hf p).length≤16384):zW n (l.map hf)=some (l,true):=by
 have key:∀(m i:Nat),l.length<i+m→i≤l.length→zV n (l.map hf) m (i:Int) (l.take i)=some (l,true):=by
  intro m;induction m with
  |zero=>intro i Z ab;omega
  |succ m aJ=>
   intro i Z ab;have af3:(l.map hf).length=l.length:=List.length_map ..;by_cases hi:i<l.length
   ·have hx:=VC (l:=l) hi;have g1:=h _ hx;obtain⟨g2,g3⟩:=hs _ hx
    have g4:(l.map hf).getD i default=hf (l.getD i default):=by
     simp only [List.getD_eq_getElem?_getD,List.getElem?_map,List.getElem?_eq_getElem hi,Option.map_some,Option.getD_some]
    have av:mI (l.getD i default)=0:=by
     by_cases e:mI (l.getD i default)=0
     ·exact e
     ·exact absurd (show hf (l.getD i default)=[]by unfold hf;rw [if_neg e]) g2
    have g5:hf (l.getD i default)=kY (l.getD i default):=by unfold hf;rw [if_pos av]
    have e1:Ea n (hf (l.getD i default))=some (l.getD i default,0,0):=by
     rw [g5];exact ap_ g1.i av (by omega) g1.f g1.b (by rw [←g5];exact g3)
    have gr:room ((l.take i).length+1) 64=true:=lZ (by rw [List.length_take];omega)
    simp only [zV,JB,avV,af3,hi,avM,avO,b1 hi,aT,avU,g4,e1,an,avX,gr,cR (show i≤9223372036854775806 by omega),av0,avQ,avR,avP,VQ g1 hn]
    have:=aJ (i+1) (by omega) (by omega)
    rw [show l.take (i+1)=l.take i++[l.getD i default]by rw [List.take_add,fo l i default hi,List.take_succ_cons,List.take_zero]]at this
    exact this
   ·obtain rfl:i=l.length:=by omega
    simp only [zV,JB,Rk,af3,avZ,avN,avP,List.take_length]
 unfold zW;exact key n 0 (by omega) (by omega)
section
variable {n:Nat} (hn:100000000≤n) (aV:n≤9223372036854775808) {r:bC} (ba:MR n r) (hi:tx r)
include hn aV ba hi
theorem atN(hs:je r=true):zW n (r.bP.map hf)=some (r.bP,true):=by
 have hsh:=ba.cp;have jR:=ba.pl;refine atM hn _ (by omega) (pK λi _=>hsh.lr i) (pK (P:=λp:bg=>hf p≠[]∧(hf p).length≤16384) λi aa=>?_)
 unfold je tr at hs;simp only [Bool.and_eq_true,decide_eq_true_eq,jd]at hs;have:=(hs.1.1.1.1.2.1 i aa).1
 simp only [Bool.not_eq_true',Bool.or_eq_false_iff,decide_eq_false_iff_not]at this;exact⟨this.1,by omega⟩
theorem atO(hs:je r=true):Eb n (k0 (lu r))=some (MU r,0):=by
 have hsh:=ba.cp;have MS:=ba.qI;have uO:=BO r.aq.Rows;obtain⟨hp,aa⟩:=Wk hn aV ba hi hs;have wn:=atK hs hp (by omega)
 have atP:=atL (n:=n) (by omega) hsh hp (by omega)
 have atQ:zW n (lu r).2.2.1=some (r.bP,true):=atN hn aV ba hi hs;have ox:=hs;unfold je at ox;simp only [Bool.and_eq_true,decide_eq_true_eq]at ox;obtain⟨⟨⟨⟨⟨⟨⟨⟨Z,ab⟩,aj⟩,aD⟩,aX⟩,bW⟩,cZ⟩,dr⟩,eR⟩:=ox
 have hd:MJ (k0 (lu r)) = .ok (lu r,[]):=by
  have:=ar6.rt (lu r) [] hp
  rwa [List.append_nil]at this
 have ai:=ask hn aV (s:=k0 (lu r)) (by omega)
 rw [hd]at ai;simp only at ai
 have e1:bu (k0 (lu r)) []=(((k0 (lu r)).length:Nat):Int):=(aso (List.nil_suffix)).2 rfl
 have Ou:w7 n (lu r).2.1 (lu r).1=some (np (fL r.aq.Rows) r.Pos,0):=by
  show w7 n (fL r.aq.Rows) r.Pos=_
  rw [aro (l:=fL r.aq.Rows) (by omega) aV (by omega) (by omega) (VF (by omega) hp.lr.1.2)]
  unfold BC;rw [show mn (fL r.aq.Rows)=true from hp.lr.2,decide_eq_false (show¬ r.Pos<0 by omega),decide_eq_false (show¬ 1099511627776<r.Pos by omega)];rfl
 unfold Eb;rw [ai,an];simp only [avM,avQ,avP,dH,e1];rw [decide_eq_false (show¬ (lu r).1<0 from show¬ r.Pos<0 by omega),decide_eq_false (show¬ 1099511627776<(lu r).1 from show¬ 1099511627776<r.Pos by omega)]
 simp only [Bool.or_self,avP];rw [atQ,an];simp only [avQ,avP];rw [Ou,an];simp only [avM,avQ,avP];refine(congrArg (λx=>Option.bind x _) (afc hn aV atP)).trans ?_
 rw [wn];rfl
end
def F'(r:bC):bC×Int:=bif !je r then(afk,1) else(MU r,0)
section
variable {n:Nat} (hn:100000000≤n) (aV:n≤9223372036854775808) {r:bC} (ba:MR n r) (hi:tx r)
include hn aV ba hi
theorem atR:JI n r=some (F' r):=by
 have hsh:=ba.cp;unfold JI F';rw [afc hn aV hsh,an];cases hs:je r
 ·rfl
 ·simp only [avQ,avP];rw [atH hn aV ba hi hs,an,atO hn aV ba hi hs];rfl
theorem atS(hs:je r=true):Ah n (fL r.aq.Rows) r.Pos=some (np (fL r.aq.Rows) r.Pos,0):=by
 have hsh:=ba.cp;have MS:=ba.qI;have uO:=BO r.aq.Rows;obtain⟨hp,aa⟩:=Wk hn aV ba hi hs;have ox:=hs;unfold je at ox;simp only [Bool.and_eq_true,decide_eq_true_eq]at ox;obtain⟨⟨⟨⟨⟨⟨⟨⟨Z,ab⟩,aj⟩,aD⟩,aX⟩,bW⟩,cZ⟩,dr⟩,eR⟩:=ox;rw [arp (l:=fL r.aq.Rows) (by omega) aV (by omega) (by omega) (VF (by omega) hp.lr.1.2)]
 unfold BC;rw [show mn (fL r.aq.Rows)=true from hp.lr.2,decide_eq_false (show¬ r.Pos<0 by omega),decide_eq_false (show¬ 1099511627776<r.Pos by omega)];rfl
theorem atT:AO n r=some (F' r):=by
 have hsh:=ba.cp;have MS:=ba.qI;unfold AO F';rw [arV hn aV hsh,an];cases hs:je r
 ·rfl
 ·obtain⟨BT,Wl,Wm⟩:=af2 hn aV ba hi hs
  have aj:l1 r.aq=true:=by
   unfold je at hs;simp only [Bool.and_eq_true,decide_eq_true_eq]at hs;exact hs.1.1.1.1.1.1.2
  simp only [avQ,avP];rw [asP (by omega) (by omega) BT Wl Wm (by rw [aeU (by omega) aV hsh.st,aj]),an]
  rw [atS hn aV ba hi hs,an]
end
section
variable {n:Nat} {a:Int} {r:Row} (aa:r.bp.length<n) (aV:n≤9223372036854775808)
include aa aV
end
section
variable {n:Nat} {s:aq} (hn:2000≤n) (aV:n≤9223372036854775808) (h:BB n s) (aa:s.Rows.length≤5000)
include hn aV h aa
end
structure af4(s:aq):Prop where
 qI:s.Rows.length≤60
 vs:∀i,i<s.Rows.length→(s.Rows.getD i default).bp.length≤40
def atU{n:Nat}(hn:2000≤n)(s:aq):Ec n s=some false∨(af4 s∧Ec n s=some true):=by
 unfold Ec;simp only [fp];by_cases Z:s.Rows.length≤60
 ·simp only [show¬ 60<s.Rows.length by omega,avN,avP]
  rcases x1 (L:=z6 n s) (len:=s.Rows.length) (m:=n) (Q:=λi=>(s.Rows.getD i default).bp.length≤40) (fin:=some true) (by omega)
   (λm i hi=>by
    simp only [z6,JK,hi,b1 hi,avU,avV,fp,avM,avO,aT,cR (show i≤9223372036854775806 by omega)]
    by_cases h:(s.Rows.getD i default).bp.length≤40
    ·right;simp only [show¬ 40<(s.Rows.getD i default).bp.length by omega,avN,avP,h,true_and]
    ·left;simp only [show 40<(s.Rows.getD i default).bp.length by omega,avM,avO])
   (λm=>by simp only [z6,JK,Rp,avV,Nat.lt_irrefl,avN,avP])with h|⟨h,g⟩
  ·exact Or.inl h
  ·exact Or.inr ⟨⟨Z,h⟩,g⟩
 ·left;simp only [show 60<s.Rows.length by omega,avM,avO]
structure F_(r:bC):Prop where
 st:af4 r.aq
 pl:r.bP.length≤16
 ca:∀i,i<r.bP.length→L_ (r.bP.getD i default) 600
 kz:r.bU.length≤10
 pb:∀i,i<r.bU.length→(r.bU.getD i default).b'.length≤20
 aa:r.bc.length≤40
 atV:r.Queue.length≤70
 atW:∀i,i<r.Queue.length→VW (r.Queue.getD i default)
 jK:r.Place.aE.length≤40
def F_.cp{r:bC}(h:F_ r)(hi:tx r){n:Nat}(hn:n=9223372036854775808):qM n r where
 st:=⟨by have:=h.st.qI;omega,λi=>oR (P:=Ms n) (λk hk=>by
  have Z:=hi.afV.afN.2 k hk;have ab:=Z.V9;have aj:=Z.V'.1;exact⟨by omega,by omega,λj=>oR (P:=λx:Version=>x.bk.S.length<n) (λm hm=>by have:=(Z.V'.2 m hm).afL.afJ;omega) (by show 0<n;omega) j⟩) ((ML (n:=n) (by omega)).st.row 0) i⟩
 xW:=by have:=h.pl;omega
 lr:=λi=>oR (P:=n7) (λk hk=>by
  obtain⟨Z,ab,aj,aD⟩:=h.ca k hk;have aX:=L' (r.bP.getD k default).Body;exact⟨hi.afW.2 k hk,by omega,by omega,by omega⟩) afa i
 vd:=by have:=h.kz;omega
 oP:=λi=>oR (P:=qJ n) (λk hk=>by
  have Z:=hi.afX.2 k hk;have ab:=Z.Wc.1
  exact⟨by omega,λj=>oR (P:=λx:e_=>xO n x.Outcome) (λm hm=>by
   have aj:=(Z.Wc.2 m hm).afR.afO;have aD:=aj.1;exact⟨by omega,λq=>oR (P:=λx:bH=>x.S.length<n) (λm hm=>by have:=(aj.2 m hm).afJ;omega) (by show 0<n;omega) q⟩) ((MB (n:=n) (by omega) (l:=[]) (λx hx=>by cases hx) 0).out 0) j⟩) (MB (n:=n) (by omega) (l:=[]) (λx hx=>by cases hx) 0) i
 pl:=by have:=h.jK;omega
 xX:=λi=>oR (P:=r5 n) (λk hk=>by
  have Z:=hi.Wg.afT.2 k hk;have ab:=Z.ate;have aj:=Z.ath;exact⟨by omega,by omega⟩) ((ML (n:=n) (by omega)).xX 0) i
 aF:=by have:=h.aa;omega
 kl:=λi=>oR (P:=λx:bc=>x.Key.length<n) (λk hk=>by have:=(hi.afY.2 k hk).V9;omega) (by show 0<n;omega) i
 n8:=by have:=h.atV;omega
 ve:=λi=>oR (P:=rZ n) (λk hk=>by
  obtain⟨Z,ab,aj,f1,f2,f3,f4⟩:=h.atW k hk
  exact⟨by omega,by omega,λj=>oR (P:=λx:bH=>x.S.length<n) (λm hm=>by have:=aj m hm;omega) (by show 0<n;omega) j,by omega,by omega,by omega,by omega,
   λj=>oR (P:=λx:av3=>x.length<n) (λm hm=>by have:=f3 m hm;omega) (by show 0<n;omega) j,
   λj=>oR (P:=λx:av3=>x.length<n) (λm hm=>by have:=f4 m hm;omega) (by show 0<n;omega) j⟩) (afl (by omega)) i
def F_.atX{r:bC}(h:F_ r)(hi:tx r){n:Nat}(hn:n=9223372036854775808):MR n r:=
 ⟨h.cp hi hn,by have:=h.st.qI;omega,λi hi=>by have:=h.st.vs i hi;omega,by have:=h.pl;omega,h.kz⟩
def atY{n:Nat}(hn:2000≤n)(r:bC)(hp:∀i,i<r.bP.length→rK (r.bP.getD i default)):Eh n r=some false∨(F_ r∧Eh n r=some true):=by
 unfold Eh;simp only [fp,dH];rcases atU hn r.aq with h0|⟨h0,g0⟩
 ·left;simp only [h0,an,avR,Bool.true_or,avO]
 ·simp only [g0,an,avQ,Bool.false_or];by_cases Z:r.bP.length≤16
  ·by_cases ab:r.bU.length≤10
   ·by_cases aj:r.bc.length≤40
    ·by_cases aD:r.Queue.length≤70
     ·by_cases aX:r.Place.aE.length≤40
      ·simp only [show¬ 16<r.bP.length by omega,show¬ 10<r.bU.length by omega,show¬ 40<r.bc.length by omega,show¬ 70<r.Queue.length by omega,show¬ 40<r.Place.aE.length by omega,avN,Bool.or_self,Bool.or_false,avP]
       rcases x1 (L:=Aa n r) (len:=r.bP.length) (m:=n) (Q:=λi=>L_ (r.bP.getD i default) 600) (fin:=xa n r n 0) (by omega)
        (λm i hi=>by
         obtain⟨b,e1,e2⟩:=apD (n:=n) (r.bP.getD i default) 600 (by omega) (by omega) (hp i hi)
         simp only [Aa,JT,hi,b1 hi,avU,avV,avM,avO,aT,cR (show i≤9223372036854775806 by omega)]
         rw [show Ef n (r.bP.getD i default) 600=some b from e1,an]
         cases b
         ·left;rfl
         ·right;exact⟨e2 rfl,rfl⟩)
        (λm=>by simp only [Aa,JT,RA,avV,Nat.lt_irrefl,avN,avP])with bW|⟨bW,g6⟩
       ·exact Or.inl bW
       ·rw [g6]
        rcases x1 (L:=xa n r) (len:=r.bU.length) (m:=n) (Q:=λi=>(r.bU.getD i default).b'.length≤20) (fin:=w_ n r n 0) (by omega)
         (λm i hi=>by
          simp only [xa,JS,hi,b1 hi,avU,avV,fp,avM,avO,aT,cR (show i≤9223372036854775806 by omega)]
          by_cases h:(r.bU.getD i default).b'.length≤20
          ·right;simp only [show¬ 20<(r.bU.getD i default).b'.length by omega,avN,avP,h,true_and]
          ·left;simp only [show 20<(r.bU.getD i default).b'.length by omega,avM,avO])
         (λm=>by simp only [xa,JS,Rz,avV,Nat.lt_irrefl,avN,avP])with cZ|⟨cZ,g7⟩
        ·exact Or.inl cZ
        ·rw [g7]
         rcases x1 (L:=w_ n r) (len:=r.Queue.length) (m:=n) (Q:=λi=>VW (r.Queue.getD i default)) (fin:=some true) (by omega)
          (λm i hi=>by
           simp only [w_,JR,hi,b1 hi,avU,avV,avM,avO,aT,cR (show i≤9223372036854775806 by omega)]
           rcases asK hn (r.Queue.getD i default)with h|⟨h,g⟩
           ·left;rw [h];rfl
           ·right;rw [g];exact⟨h,rfl⟩)
          (λm=>by simp only [w_,JR,Ry,avV,Nat.lt_irrefl,avN,avP])with dr|⟨dr,g8⟩
         ·exact Or.inl dr
         ·exact Or.inr ⟨⟨h0,Z,bW,ab,cZ,aj,aD,dr,aX⟩,g8⟩
      ·left;simp only [show 40<r.Place.aE.length by omega,avM,av0,avO]
     ·left;simp only [show 70<r.Queue.length by omega,avM,av0,Bool.true_or,avO]
    ·left;simp only [show 40<r.bc.length by omega,avM,av0,Bool.true_or,avO]
   ·left;simp only [show 10<r.bU.length by omega,avM,av0,Bool.true_or,avO]
  ·left;simp only [show 16<r.bP.length by omega,avM,av0,Bool.true_or,avO]
def Wn:K_ 9223372036854775808=some true:=by kernel_rfl
abbrev atZ(r:bC):bC:=⟨r.Pos,⟨0,0,[]⟩,r.bP,r.bU,r.Place,r.bc,r.Queue,r.cg⟩
def at0{n:Nat}(hn:2000≤n){r:bC}(h:qM n r):qM n (atZ r):=
 ⟨(ML hn).st,h.xW,h.lr,h.vd,h.oP,h.pl,h.xX,h.aF,h.kl,h.n8,h.ve⟩
def af5{n:Nat}(hn:100000000≤n)(aV:n≤9223372036854775808){a:Int}{r:bC}(h:qM n r):AP n ⟨a,r,[],false,[],[]⟩ ⟨a,r,[],false,[],[]⟩=some true:=by
 obtain⟨m,rfl⟩:∃m,n=m+1:=⟨n-1,by omega⟩
 unfold AP;simp only [avM,avO,beq_self_eq_true];rw [show Tq (m+1) [] []=some true from rfl,an]
 simp only [avO];rw [show Tr (m+1) [] []=some true from rfl,an]
 simp only [avO];rw [show Av (m+1) _ _=some true from ar5 hn aV h]
 rfl
def at1(r:bC)(hi:tx r):Ts 9223372036854775808 r=some true:=by
 unfold Ts
 (try simp only [MI])
 rcases atY (n:=9223372036854775808) (by omega) r hi.afW.2 with h|⟨ba,h⟩
 ·simp only [h,an,avR,avO,Wn]
 ·have hm:=ba.atX hi (n:=9223372036854775808) rfl;rw [h,an];simp only [avQ,avP];unfold JJ To
  (try simp only [MI])
  rw [atR (by omega) (by omega) hm hi,atT (by omega) (by omega) hm hi]
  simp only [an];by_cases e:(F' r).2=0
  ·simp only [e,avM,avQ,avP,an];rw [show AP 9223372036854775808 _ _=some true from af5 (by omega) (by omega) (at0 (by omega) hm.cp)]
   simp only [an,avO,avM,Wn]
  ·simp only [e,avN,avR,avO,an];rw [show AP 9223372036854775808 _ _=some true from af5 (by omega) (by omega) (ML (by omega))]
   simp only [an,avO,avM,Wn]
end Go.Ab.Y

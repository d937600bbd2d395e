/- The plain law: what the functions compute answers as the statement says. -/
import Derived.Test.YtbncfepdlmnmiaaGreatDoorPlainC
set_option linter.all false
namespace Go.Ab.Y
open Go Go.Ab Go.Proofs
def Wc(x:au):(⟨x.bX,x.bN,x.Rows⟩:au)=x:=rfl
def Wd(x:b1):(⟨x.Version,x.aL⟩:b1)=x:=rfl
def arw(x:Request):(⟨x.Client,x.Seq,x.be,x.an,x.f_,(⟨x.bP.eN,x.bP.Reads,x.bP.dz⟩:ff)⟩:Request)=x:=rfl
def GD(x:bL):(⟨x.Pos,(⟨x.au.bX,x.au.bN,x.au.Rows⟩:au),x.cL,x.cV,(⟨x.Place.Version,x.Place.aL⟩:b1),x.bh,x.Queue,x.c_⟩:bL)=x:=rfl
def yg(l:List be):Bool:=(allI l.length λi=>!(decide (mS (l.getD i default)=[])||decide (16384<(((mS (l.getD i default)).length:Nat):Int)))&&(!decide (0<(i:Int))||Op.bytesLess (l.getD (pv i) default).Name (l.getD i default).Name))&&decide (l.length≤16)
def Nf(l:List Request):Bool:=(allI l.length λi=>decide (pS (l.getD i default)=0))&&decide (l.length≤64)
def n9(r:bL):Bool:=((((((((decide (0≤r.Pos)&&decide (r.Pos≤1099511627776))&&x6 r.au)&&decide (r.au.bN=r.Pos))&&yg r.cL)&&n8 r.cV)&&n7 r.Place)&&vg r.bh)&&Nf r.Queue)
structure p0(n:Nat)(r:bL):Prop where
 st:vj n r.au
 BU:r.cL.length<n
 p1:∀i,oY (r.cL.getD i default)
 BV:r.cV.length<n
 sd:∀i,qU n (r.cV.getD i default)
 pl:r.Place.aL.length<n
 BW:∀i,r8 n (r.Place.aL.getD i default)
 ax:r.bh.length<n
 kS:∀i,(r.bh.getD i default).Key.length<n
 qZ:r.Queue.length<n
 BX:∀i,pT n (r.Queue.getD i default)
def We:oY default:=by
 refine⟨⟨by show([]:auJ).length≤_;simp,by show([]:List Param).length≤_;simp,λi hi=>by exact absurd hi (by show¬ i<([]:List Param).length;simp),trivial⟩,by show([]:auJ).length≤_;simp,by show fM []≤_;simp [fM],by show dP []≤_;simp [dP]⟩
section
variable {n:Nat} (hn:100000000≤n) (aQ:n≤9223372036854775808)
include hn aQ
theorem arx{l:List be}(ae:l.length<n)(h:∀i,oY (l.getD i default)):JT n l=some (yg l):=by
 unfold JT yg;rw [iy (L:=z6 n l) (chk:=λi=>!(decide (mS (l.getD i default)=[])||decide (16384<(((mS (l.getD i default)).length:Nat):Int)))&&(!decide (0<(i:Int))||Op.bytesLess (l.getD (pv i) default).Name (l.getD i default).Name)) (no:=false) (yes:=true) ae,mr]
 ·simp only [gc];by_cases av:l.length≤16
  ·simp only [av,show¬ 16<l.length by omega,aus,aut,auv,Bool.and_true]
  ·simp only [av,show 16<l.length by omega,aus,aut,auu,Bool.and_false]
 ·intro m i hi;simp only [z6,JS,auB,hi,aus,auu,cv hi,bd,al,auA,dj (show i≤9223372036854775806 by omega),afh (h i) hn,mq hi (show l.length≤9223372036854775807 by omega)]
  exact iZ (by simp only [dL,ee,Bool.not_and,Bool.not_or,Bool.not_not,←ve])
 ·intro m;simp only [z6,JS,RH,auF,aut,auv]
theorem ary{l:List be}(ae:l.length<n)(h:∀i,oY (l.getD i default)):K1 n l=some (yg l):=by
 unfold K1 yg;rw [iy (L:=AI n l) (chk:=λi=>!(decide (mS (l.getD i default)=[])||decide (16384<(((mS (l.getD i default)).length:Nat):Int)))&&(!decide (0<(i:Int))||Op.bytesLess (l.getD (pv i) default).Name (l.getD i default).Name)) (no:=false) (yes:=decide (l.length≤16)) ae,r6]
 ·intro m i hi;simp only [AI,K0,auB,hi,aus,auu,cv hi,bd,al,auA,dj (show i≤9223372036854775806 by omega),afi (h i) hn,BK hi,mq hi (show l.length≤9223372036854775807 by omega),auG]
  exact iZ (by simp only [dL,ee,Bool.not_and,Bool.not_or,Bool.not_not])
 ·intro m;simp only [AI,K0,Tn,auF,aut,auv,l1]
theorem BY(x y:Int):decide (x<y) = !decide (y≤x):=by
 by_cases h:y≤x
 ·rw [decide_eq_true h,decide_eq_false (by omega)];rfl
 ·rw [decide_eq_false h,decide_eq_true (by omega)];rfl
theorem arz{r:bL}(h:p0 n r):z7 n r=some (n9 r):=by
 have e1:w5 n r n 0=some (if(allI r.Queue.length λi=>decide (pS (r.Queue.getD i default)=0)) then((n8 r.cV&&n7 r.Place)&&vg r.bh)else false):=by
  refine iy (L:=w5 n r) h.qZ ?_ ?_
  ·intro m i hi;simp only [w5,JU,auB,hi,aus,auu,cv hi,bd,auA,dj (show i≤9223372036854775806 by have:=h.qZ;omega)]
   rw [aeH (by omega) aQ (h.BX i),al]
   exact iZ rfl
  ·intro m;simp only [w5,JU,RI,auF,aut,auv];rw [aeR (by omega) aQ h.BV h.sd,aeL (by omega) aQ h.pl h.BW,aqM (by omega) aQ h.ax]
   simp only [al,oU,ee];cases n8 r.cV<;>cases n7 r.Place<;>rfl
 unfold z7;rw [e1,aq1 (by omega) aQ h.st,arx hn aQ h.BU h.p1]
 simp only [al,oU,dL,ee,gc];unfold n9 Nf;rw [show decide (r.Pos<0) = !decide (0≤r.Pos)from BY hn aQ _ _,show decide (1099511627776<r.Pos) = !decide (r.Pos≤1099511627776)from BY hn aQ _ _]
 by_cases av:r.Queue.length≤64
 ·simp only [av,show¬ 64<r.Queue.length by omega,aus,aut,Bool.and_true,Bool.or_false,r6]
  cases decide (0≤r.Pos)<;>cases decide (r.Pos≤1099511627776)<;>cases x6 r.au<;>cases decide (r.au.bN=r.Pos)<;>cases yg r.cL<;>cases n8 r.cV<;>cases n7 r.Place<;>cases vg r.bh<;>simp
 ·simp only [av,show 64<r.Queue.length by omega,aus,aut,Bool.and_false,auG,auu]
theorem arA{l:List Request}(ae:l.length<n)(h:∀i,pT n (l.getD i default)):K5 n l=some (Nf l):=by
 unfold K5 Nf;rw [iy (L:=AL n l) (chk:=λi=>decide (pS (l.getD i default)=0)) (no:=false) (yes:=decide (l.length≤64)) ae,r6]
 ·intro m i hi;simp only [AL,K4,auB,hi,aus,auu,cv hi,bd,al,auA,dj (show i≤9223372036854775806 by omega),aeI (show 2000≤n by omega) aQ (h i)]
  exact iZ rfl
 ·intro m;simp only [AL,K4,Tq,auF,aut,auv,l1]
theorem arB{r:bL}(h:p0 n r):AM n r=some (n9 r):=by
 unfold AM n9;rw [aq2 (by omega) aQ h.st,ary hn aQ h.BU h.p1,aeS (by omega) aQ h.BV h.sd,aeO (by omega) aQ h.pl h.BW,aqN (by omega) aQ h.ax h.kS,arA hn aQ h.qZ h.BX]
 simp only [al,oU,ee];cases decide (0≤r.Pos)<;>cases decide (r.Pos≤1099511627776)<;>cases x6 r.au<;>cases decide (r.au.bN=r.Pos)<;>cases yg r.cL<;>cases n8 r.cV<;>cases n7 r.Place<;>cases vg r.bh<;>rfl
omit hn aQ in
theorem se{L:Nat→Int→auN}{len:Nat}{m:Nat}(hm:len<m)(step:∀m i,i<len→L (m+1) (i:Int)=L m ((i+1:Nat):Int))(stop:∀m,L (m+1) (len:Int)=some true):L m 0=some true:=by
 have:=iy (chk:=λ_=>true) (no:=false) (yes:=true) hm (λm i hi=>by rw [step m i hi,if_pos rfl]) stop
 rw [this,mr]
 congr 1
 rw [Gi];exact λ_ _=>rfl
theorem arC{s:au}(h:vj n s):Kg n s s=some true:=by
 have Z:=h.rows;unfold Kg;simp only [aus,auw,auv];refine se (L:=uF n s s) Z (λm i hi=>?_) (λm=>?_)
 ·have ad:=(h.row i).V3;simp only [uF,Kf,auB,hi,aus,auu,cv hi,bd,auA,auw,auv]
  have:=aeM (L:=Am n (uF n s s m) (i:Int) s s) (len:=(s.Rows.getD i default).bZ.length) (chk:=λ_=>true) (no:=false) (yes:=uF n s s m ((i+1:Nat):Int)) (m:=n) ad (λarD k hk=>by
   simp only [Am,Ke,auB,auA,hk,aus,auu,cv hk,bd,Bool.and_self,auw,auv,auH,dj (show k≤9223372036854775806 by omega)]) (λarD=>by
   simp only [Am,Ke,Sn,auA,auF,aut,auv,dj (show i≤9223372036854775806 by omega)])
  rw [this,if_pos];rw [Gi];exact λ_ _=>rfl
 ·simp only [uF,Kf,Sm,auF,aut,auv]
theorem arE{l:List be}(ae:l.length<n)(h:∀i,oY (l.getD i default)):Kd n l l=some true:=by
 unfold Kd;simp only [aus,auw,auv];refine se (L:=Al n l l) ae (λm i hi=>?_) (λm=>?_)
 ·have Z:=h i;have ad:=Z.f;have am:=Z.b;have aR:=u7 (l.getD i default).Params;simp only [Al,Kc,auB,hi,aus,auu,cv hi,bd,auA,api (n:=n) (l.getD i default) (by omega) (by omega) (by omega) (by omega),al,auw,auv,dj (show i≤9223372036854775806 by omega)]
 ·simp only [Al,Kc,Sl,auF,aut,auv]
theorem arF{o:Outcome}(h:x4 n o):Ee n o o=some true:=by
 have Z:=h.out;unfold Ee;simp only [aus,auw,auv];refine se (L:=Aq n o o) Z (λm i hi=>?_) (λm=>?_)
 ·simp only [Aq,Kn,auB,hi,aus,auu,cv hi,bd,auA,Bool.and_self,auw,auv,dj (show i≤9223372036854775806 by omega)]
 ·simp only [Aq,Kn,Ss,auF,aut,auv]
theorem arG{s:bG}(h:qU n s):Kp n s.dn s.dn=some true:=by
 have Z:=h.rep;unfold Kp;simp only [aus,auw,auv];refine se (L:=Ar n s.dn s.dn) Z (λm i hi=>?_) (λm=>?_)
 ·have:=arF hn aQ (h.out i)
  simp only [Ar,Ko,St,auB,hi,aus,auu,cv hi,bd,auA];rw [show Ee n ⟨(s.dn.getD i default).Outcome.Status,(s.dn.getD i default).Outcome.Code,(s.dn.getD i default).Outcome.Out⟩ ⟨(s.dn.getD i default).Outcome.Status,(s.dn.getD i default).Outcome.Code,(s.dn.getD i default).Outcome.Out⟩=some true from this]
  simp only [al,auu,auw,auv,dj (show i≤9223372036854775806 by omega)]
 ·simp only [Ar,Ko,Su,auF,aut,auv]
theorem arH{l:List bG}(ae:l.length<n)(h:∀i,qU n (l.getD i default)):Kr n l l=some true:=by
 unfold Kr;simp only [aus,auw,auv];refine se (L:=As n l l) ae (λm i hi=>?_) (λm=>?_)
 ·simp only [As,Kq,auB,hi,aus,auu,cv hi,bd,auA,arG hn aQ (h i),al,auw,aux,auv,Bool.false_or,dj (show i≤9223372036854775806 by omega)]
 ·simp only [As,Kq,Sv,auF,aut,auv]
theorem arI{p:b1}(ae:p.aL.length<n):Ki n p p=some true:=by
 unfold Ki;simp only [aus,auw,auv];refine se (L:=An n p p) ae (λm i hi=>?_) (λm=>?_)
 ·simp only [An,Kh,auB,hi,aus,auu,cv hi,bd,auA,Bool.and_self,auw,auv,dj (show i≤9223372036854775806 by omega)]
 ·simp only [An,Kh,So,auF,aut,auv]
theorem arJ{l:List bh}(ae:l.length<n):Kk n l l=some true:=by
 unfold Kk;simp only [aus,auw,auv];refine se (L:=Ao n l l) ae (λm i hi=>?_) (λm=>?_)
 ·simp only [Ao,Kj,auB,hi,aus,auu,cv hi,bd,auA,Bool.and_self,auw,auv,dj (show i≤9223372036854775806 by omega)]
 ·simp only [Ao,Kj,Sp,auF,aut,auv]
theorem Wf{l:kr}(ae:l.length<n):xa n l l=some true:=by
 unfold xa;simp only [aus,auw,auv];refine se (L:=Af n l l) ae (λm i hi=>?_) (λm=>?_)
 ·simp only [Af,J6,auB,hi,aus,auu,cv hi,bd,auA,auw,auv,dj (show i≤9223372036854775806 by omega)]
 ·simp only [Af,J6,R2,auF,aut,auv]
theorem arK{r:Request}(h:pT n r):Km n r r=some true:=by
 have Z:=h.args;unfold Km Sq;rw [Wf hn aQ h.Gk,Wf hn aQ h.Gl];simp only [aus,auw,auv,beq_self_eq_true,aux,auu,al];refine se (L:=Ap n r r) Z (λm i hi=>?_) (λm=>?_)
 ·simp only [Ap,Kl,auB,hi,aus,auu,cv hi,bd,auA,Bool.and_self,auw,auv,dj (show i≤9223372036854775806 by omega)]
 ·simp only [Ap,Kl,Sr,auF,aut,auv]
theorem arL{r:bL}(h:p0 n r):Au n r r=some true:=by
 have Z:=h.qZ;unfold Au;rw [arC hn aQ h.st,arE hn aQ h.BU h.p1,arH hn aQ h.BV h.sd,arI hn aQ h.pl,arJ hn aQ h.ax];simp only [aus,auw,aux,auv,auu,al];refine se (L:=At n r r) Z (λm i hi=>?_) (λm=>?_)
 ·simp only [At,Ks,auB,hi,aus,auu,cv hi,bd,auA,arK hn aQ (h.BX i),al,auw,auv,dj (show i≤9223372036854775806 by omega)]
 ·simp only [At,Ks,Sw,auF,aut,auv]
end
abbrev oZ:=Int×List aY×kr×List bG×b1×List bh×List Request×Int
def sf:eJ oZ:=dM gD λ_=>dM r' λ_=>dM yd λ_=>dM pX λ_=>dM pV λ_=>dM qX λ_=>dM mR λ_=>gI
def sg(p:oZ):auJ:=qS p.1++(jl r9 p.2.1++(jl hC p.2.2.1++(jl BP p.2.2.2.1++(V5 p.2.2.2.2.1++(jl GA p.2.2.2.2.2.1++(jl BR p.2.2.2.2.2.2.1++l5 p.2.2.2.2.2.2.2))))))
structure BZ(p:oZ):Prop where
 pos:gr p.1
 p1:(p.2.1.length≤2147483647∧∀v∈p.2.1,vk v)∧pR p.2.1=true
 src:p.2.2.1.length≤16∧∀s∈p.2.2.1,s.length≤16384
 sd:(p.2.2.2.1.length≤32∧∀v∈p.2.2.2.1,x' v)∧n8 p.2.2.2.1=true
 Wg:(gr p.2.2.2.2.1.Version∧p.2.2.2.2.1.aL.length≤16∧∀v∈p.2.2.2.2.1.aL,vl v)∧n7 p.2.2.2.2.1=true
 ax:p.2.2.2.2.2.1.length≤32∧∀h∈p.2.2.2.2.2.1,h.Key.length≤24∧gr h.Count
 qZ:p.2.2.2.2.2.2.1.length≤64∧∀v∈p.2.2.2.2.2.2.1,sb v∧vm v=true
 arM:iX p.2.2.2.2.2.2.2
def B0:eh sf sg BZ:=
 (hD.dep λ_ _=>x7.dep λ_ _=>Nb.dep λ_ _=>ya.dep λ_ _=>x8.dep λ_ _=>Na.dep λ_ _=>yc.dep λ_ _=>ix).as _ _
  (λv=>⟨λh=>⟨h.pos,h.p1,h.src,h.sd,h.Wg,h.ax,h.qZ,h.arM⟩,λh=>⟨h.1,h.2.1,h.2.2.1,h.2.2.2.1,h.2.2.2.2.1,h.2.2.2.2.2.1,h.2.2.2.2.2.2.1,h.2.2.2.2.2.2.2⟩⟩) (λv _=>rfl)
def arN{k:Nat}{t:auJ}{e:Int}(h:pQ k t = .error e):e≠0:=by
 unfold pQ e' at h;cases ad:gt k t with
 |error f=>rw [ad]at h;cases h;exact kp ad
 |ok r=>rw [ad]at h;cases h
def ig{α:Type}(z:α)(s:auJ)(a:Int):Except Int (α×auJ)→α×Int×Int
 |.ok (v,t)=>(v,aS s t,0)
 |.error e=>(z,a,e)
section
variable {n:Nat} (hn:100000000≤n) (aQ:n≤9223372036854775808) {s:auJ} (hs:s.length<min n 1000000000)
theorem vn{α:Type}{z:α}{D:eJ α}{t:auJ}{a:Int}(h0:∀e,D t = .error e→e≠0):(bif (!decide ((res z s (D t)).2.2=0))then some (z,a,(res z s (D t)).2.2)else some ((res z s (D t)).1,(res z s (D t)).2.1,(res z s (D t)).2.2))=some (ig z s a (D t)):=by
 cases h:D t with
 |error e=>rw [b7];simp only [dg (h0 e h),auu];rfl
 |ok r=>obtain⟨v,bp⟩:=r;rfl
theorem arO{a e:Int}(he:e≠0):wV n ⟨s,a,e⟩=some (0,a,e):=by unfold wV;simp only [dg he,auu]
theorem arP{a e:Int}(he:e≠0):zz n ⟨s,a,e⟩=some ([],a,e):=by unfold zz;simp only [dg he,auu]
theorem GE{p a e:Int}(he:e≠0):wU n p ⟨s,a,e⟩=some (0,a,e):=by unfold wU;simp only [dg he,auu]
theorem arQ{a e:Int}(he:e≠0):zM n ⟨s,a,e⟩=some ([],a,e):=by unfold zM;simp only [dg he,auu]
theorem afj{a e:Int}(he:e≠0):zD n ⟨s,a,e⟩=some (⟨0,[]⟩,a,e):=by unfold zD;simp only [dg he,auu]
theorem arR{a e:Int}(he:e≠0):zJ n ⟨s,a,e⟩=some ([],a,e):=by unfold zJ;simp only [dg he,auu]
theorem afk{a e:Int}(he:e≠0):zN n ⟨s,a,e⟩=some (0,a,e):=by unfold zN;simp only [dg he,auu]
include hn aQ hs
theorem afl{t:auJ}(ax:t <:+ s):wV n ⟨s,aS s t,0⟩=some (ig 0 s (aS s t) (gD t)):=by
 unfold wV;simp only [aus,auw,auv];rw [VW ax (by omega) (by omega),al];exact vn (λe h=>hD.cb _ _ h)
theorem arS{t:auJ}(ax:t <:+ s):zz n ⟨s,aS s t,0⟩=some (ig [] s (aS s t) (r' t)):=by
 unfold zz;simp only [aus,auw,auv];rw [aq6 (by omega) aQ hs ax,al];exact vn (λe h=>x7.cb _ _ h)
theorem afm{k:Nat}(hk:k≤1000){t:auJ}(ax:t <:+ s):wU n (k:Int) ⟨s,aS s t,0⟩=some (ig 0 s (aS s t) (pQ k t)):=by
 unfold wU QW;simp only [aus,auw,auv];rw [tA ax (by omega) (by omega) (by omega),al,al];exact vn (λe h=>arN h)
theorem afn{k:Nat}(hk:k≤20000){t:auJ}(ax:t <:+ s):DJ n (k:Int) ⟨s,aS s t,0⟩=some (ig [] s (aS s t) (dR k t)):=by
 unfold DJ QX;simp only [aus,auw,auv];rw [BJ ax (by omega) (by omega) (by omega),al,al];exact vn (λe h=>(tx k (by omega)).cb _ _ h)
theorem arT{t:auJ}(ax:t <:+ s):zM n ⟨s,aS s t,0⟩=some (ig [] s (aS s t) (pX t)):=by
 unfold zM;simp only [aus,auw,auv];rw [ard (by omega) aQ hs ax,al];exact vn (λe h=>ya.cb _ _ h)
theorem arU{t:auJ}(ax:t <:+ s):zD n ⟨s,aS s t,0⟩=some (ig ⟨0,[]⟩ s (aS s t) (pV t)):=by
 unfold zD;simp only [aus,auw,auv];rw [aq9 (by omega) aQ hs ax,al];exact vn (λe h=>x8.cb _ _ h)
theorem arV{t:auJ}(ax:t <:+ s):zJ n ⟨s,aS s t,0⟩=some (ig [] s (aS s t) (mR t)):=by
 unfold zJ;simp only [aus,auw,auv];rw [arq (by omega) aQ hs ax,al];exact vn (λe h=>yc.cb _ _ h)
theorem arW{t:auJ}(ax:t <:+ s):zN n ⟨s,aS s t,0⟩=some (ig 0 s (aS s t) (gI t)):=by
 unfold zN;simp only [aus,auw,auv];rw [BI ax (by omega) (by omega),al];exact vn (λe h=>ix.cb _ _ h)
theorem arX{b:fz}(hb:b.s=s){r1 r26 r27 r2 v25}{a e:Int}{l:List bh}(he:e≠0):kq e (uy n b r1 r26 r27 r2 v25 a e l):=by
 unfold uy;rw [arR he,al,afk he,al];exact⟨_,_,rfl⟩
theorem B1{b:fz}(hb:b.s=s){r1 r26 r27 r2 v25}{a e c:Int}{l:List bh}{m:Nat}(he:e≠0):kq e (rH n b r1 r26 r27 r2 v25 (m+1) a e l c):=by
 have sB:decide (e=0)=false:=decide_eq_false he;simp only [rH,DL,sB,ee,Bool.and_false,auv];exact arX hn aQ hs hb he
theorem arY{b:fz}(hb:b.s=s){r1 r2}{a e:Int}{l:kr}(he:e≠0):kq e (uz n b r1 r2 a e l):=by
 unfold uz zu;rw [arQ he,al,afj he,al,al,GE he,al];obtain⟨m,rfl⟩:∃j,n=j+1:=⟨n-1,by omega⟩
 exact B1 hn aQ hs hb he
theorem Ng{b:fz}(hb:b.s=s){r1 r2}{a e c:Int}{l:kr}{m:Nat}(he:e≠0):kq e (uA n b r1 r2 (m+1) a e l c):=by
 have sB:decide (e=0)=false:=decide_eq_false he;simp only [uA,DM,sB,ee,Bool.and_false,auv];exact arY hn aQ hs hb he
theorem arZ{b:fz}(hb:b.s=s){r1:Int×Int×Int}{r26:List bG×Int×Int}{r27:b1×Int×Int}{r2:List aY×Int×Int}{v25:kr}{l:List bh}{t:auJ}(ax:t <:+ s):
 match dM mR (λ_=>gI) t with|.ok (p,bp)=>uy n b r1 r26 r27 r2 v25 (aS s t) 0 l=some (⟨⟨r1.1,⟨0,0,[]⟩,[],r26.1,r27.1,l,p.1,p.2⟩,r2.1,v25⟩,aS s bp,0)|.error e=>kq e (uy n b r1 r26 r27 r2 v25 (aS s t) 0 l):=by
 unfold uy dM;rw [hb,arV hn aQ hs ax,al];cases g1:mR t with
 |error e=>
  have he:=yc.cb _ _ g1;simp only [ig];rw [afk he,al];exact⟨_,_,rfl⟩
 |ok r=>
  obtain⟨dy,t1⟩:=r;have gu:=eT yc g1 ax;simp only [ig];rw [arW hn aQ hs gu,al];cases g2:gI t1 with
  |error e=>exact⟨_,_,rfl⟩
  |ok r=>rfl
theorem ar0{b:fz}(hb:b.s=s){r1:Int×Int×Int}{r26:List bG×Int×Int}{r27:b1×Int×Int}{r2:List aY×Int×Int}{v25:kr}{u:Nat}(hu:u<min n 1000000000){t:auJ}(ax:t <:+ s):
 match dM (e5 (e' (λp=>(⟨p.1,p.2⟩:bh)) (dM (dR 24) λ_=>gD)) u) (λ_=>dM mR (λ_=>gI)) t with|.ok (p,bp)=>rH n b r1 r26 r27 r2 v25 n (aS s t) 0 [] (u:Int)=some (⟨⟨r1.1,⟨0,0,[]⟩,[],r26.1,r27.1,p.1,p.2.1,p.2.2⟩,r2.1,v25⟩,aS s bp,0)|.error e=>kq e (rH n b r1 r26 r27 r2 v25 n (aS s t) 0 [] (u:Int)):=by
 have c7:=r_ (L:=λm i t acc=>rH n b r1 r26 r27 r2 v25 m (aS s t) 0 acc ((u-i:Nat):Int)) (f:=λ_ v=>v) (D:=e' (λp=>(⟨p.1,p.2⟩:bh)) (dM (dR 24) λ_=>gD)) (u:=u) (s:=s) (fin:=λacc t=>uy n b r1 r26 r27 r2 v25 (aS s t) 0 acc) (bad:=λe x=>kq e x) (λx v t hx=>M_.gU hx) (by
  intro m i t acc hm hi ha ax;have hc:(0:Int)<((u-i:Nat):Int):=by omega
  simp only [rH,DL,hc,aus,auu,DK,al];rw [hb,show(24:Int)=((24:Nat):Int)from rfl,afn hn aQ hs (by omega) ax,al]
  have fP:room (acc.length+1) 24=true:=iz (by omega)
  obtain⟨m,rfl⟩:∃j,m=j+1:=⟨m-1,by omega⟩
  unfold e' dM;cases g1:dR 24 t with
  |error e=>
   have he:=jV.cb _ _ g1;simp only [ig];rw [arO he,al];simp only [auD,show(((24:Nat):Int)).toNat=24 from rfl,fP,bd]
   exact B1 hn aQ hs hb he
  |ok r=>
   obtain⟨dy,t1⟩:=r;have gu:=eT jV g1 ax;simp only [ig];rw [afl hn aQ hs gu,al];cases g2:gD t1 with
   |error e=>
    have he:=hD.cb _ _ g2;simp only [ig,auD,fP,bd];exact B1 hn aQ hs hb he
   |ok r=>
    obtain⟨eo,t2⟩:=r;simp only [ig,auD,fP,bd];rw [show auL (((u-i:Nat):Int)-1)=((u-(i+1):Nat):Int)by rw [wr]<;>omega]) (by
  intro m t acc ha ax;simp only [rH,DL,Nat.sub_self,show¬ (0:Int)<((0:Nat):Int)by omega,aut,auv]) u n 0 t [] (by omega) (by omega) rfl ax
 simp only [Nat.sub_zero]at c7;unfold dM;cases ah:e5 (e' (λp=>(⟨p.1,p.2⟩:bh)) (dM (dR 24) λ_=>gD)) u t with
 |error e=>unfold dM at ah;rw [ah];unfold dM at c7;rw [ah]at c7;exact c7
 |ok r=>
  obtain⟨l,jW⟩:=r;have Wh:=eT (M_.rep u) ah ax;rw [ah]at c7;unfold dM at ah;rw [ah];simp only [List.nil_append,sa]at c7 ⊢;rw [c7];have hj:=arZ hn aQ hs hb (r1:=r1) (r26:=r26) (r27:=r27) (r2:=r2) (v25:=v25) (l:=l) Wh;unfold dM at hj;cases g:mR jW with
  |error e=>rw [g]at hj;exact hj
  |ok r=>
   obtain⟨q,t1⟩:=r;rw [g]at hj;simp only at hj ⊢
   cases fa:gI t1 with
   |error e=>rw [fa]at hj;exact hj
   |ok r=>rw [fa]at hj;exact hj
end
def jX{α β:Type}{D:eJ α}{k:α→eJ β}{t:auJ}{e:Int}(h:D t = .error e):dM D k t = .error e:=by unfold dM;rw [h]
def kP{α β:Type}{D:eJ α}{k:α→eJ β}{t bp:auJ}{v:α}(h:D t = .ok (v,bp)):dM D k t=match k v bp with|.ok (w,u)=>.ok ((v,w),u)|.error e=>.error e:=by unfold dM;rw [h];rfl
def afo{t:auJ}:qX t=match gt 32 t with|.ok (u,t)=>e5 (e' (λp=>(⟨p.1,p.2⟩:bh)) (dM (dR 24) λ_=>gD)) u t|.error e=>.error e:=rfl
abbrev tailD:eJ (List bG×b1×List bh×List Request×Int):=dM pX λ_=>dM pV λ_=>dM qX λ_=>dM mR λ_=>gI
section
variable {n:Nat} (hn:100000000≤n) (aQ:n≤9223372036854775808) {s:auJ} (hs:s.length<min n 1000000000)
include hn aQ hs
theorem ar1{b:fz}(hb:b.s=s){r1:Int×Int×Int}{r2:List aY×Int×Int}{v25:kr}{t:auJ}(ax:t <:+ s):
 match tailD t with|.ok (p,bp)=>uz n b r1 r2 (aS s t) 0 v25=some (⟨⟨r1.1,⟨0,0,[]⟩,[],p.1,p.2.1,p.2.2.1,p.2.2.2.1,p.2.2.2.2⟩,r2.1,v25⟩,aS s bp,0)|.error e=>kq e (uz n b r1 r2 (aS s t) 0 v25):=by
 unfold uz zu tailD;obtain⟨lD,kA⟩:∃j,n=j+1:=⟨n-1,by omega⟩
 rw [hb,arT hn aQ hs ax,al];cases g1:pX t with
 |error e=>
  have he:=ya.cb _ _ g1;rw [jX g1];simp only [ig];rw [afj he,al,al,GE he,al];have:=B1 hn aQ hs hb (r1:=r1) (r26:=([],aS s t,e)) (r27:=(⟨0,[]⟩,aS s t,e)) (r2:=r2) (v25:=v25) (a:=aS s t) (c:=0) (l:=[]) (m:=lD) he
  rw [←kA]at this;exact this
 |ok r=>
  obtain⟨dy,t1⟩:=r;have gu:=eT ya g1 ax;rw [kP g1];simp only [ig];rw [arU hn aQ hs gu,al,al];cases g2:pV t1 with
  |error e=>
   have he:=x8.cb _ _ g2;rw [jX g2];simp only [ig];rw [GE he,al];have:=B1 hn aQ hs hb (r1:=r1) (r26:=(dy,aS s t1,0)) (r27:=(⟨0,[]⟩,aS s t1,e)) (r2:=r2) (v25:=v25) (a:=aS s t1) (c:=0) (l:=[]) (m:=lD) he
   rw [←kA]at this;exact this
  |ok r=>
   obtain⟨eo,t2⟩:=r;have gl:=eT x8 g2 gu;rw [kP g2];simp only [ig];rw [show(32:Int)=((32:Nat):Int)from rfl,afm hn aQ hs (by omega) gl,al]
   cases h:gt 32 t2 with
   |error e=>
    have he:=kp h;have bB:qX t2 = .error e:=by rw [afo,h]
    rw [jX bB,kO h];simp only [ig];have:=B1 hn aQ hs hb (r1:=r1) (r26:=(dy,aS s t1,0)) (r27:=(eo,aS s t2,0)) (r2:=r2) (v25:=v25) (a:=aS s t2) (c:=0) (l:=[]) (m:=lD) he
    rw [←kA]at this;exact this
   |ok r=>
    obtain⟨u,bp⟩:=r;obtain⟨Z,ad,am⟩:=jD h;have dm:bp <:+ s:=List.IsSuffix.trans ⟨gi u,Z.symm⟩ gl;have hu:=dm.length_le;rw [kN h];simp only [ig];have c7:=ar0 hn aQ hs hb (r1:=r1) (r26:=(dy,aS s t1,0)) (r27:=(eo,aS s t2,0)) (r2:=r2) (v25:=v25) (u:=u) (by omega) dm
    have bB:qX t2=e5 (e' (λp=>(⟨p.1,p.2⟩:bh)) (dM (dR 24) λ_=>gD)) u bp:=by rw [afo,h]
    cases ah:e5 (e' (λp=>(⟨p.1,p.2⟩:bh)) (dM (dR 24) λ_=>gD)) u bp with
    |error e=>
     rw [jX ah]at c7;rw [ah]at bB;rw [jX bB];exact c7
    |ok r=>
     obtain⟨l,jW⟩:=r;rw [kP ah]at c7;rw [ah]at bB;rw [kP bB];cases g:dM mR (λ_=>gI) jW with
     |error e=>rw [g]at c7;exact c7
     |ok r=>rw [g]at c7;exact c7
theorem afp:match sf s with|.ok (p,bp)=>DN n ⟨s,0,0⟩=some (⟨⟨p.1,⟨0,0,[]⟩,[],p.2.2.2.1,p.2.2.2.2.1,p.2.2.2.2.2.1,p.2.2.2.2.2.2.1,p.2.2.2.2.2.2.2⟩,p.2.1,p.2.2.1⟩,aS s bp,0)|.error e=>kq e (DN n ⟨s,0,0⟩):=by
 unfold DN zu sf;obtain⟨lD,kA⟩:∃j,n=j+1:=⟨n-1,by omega⟩
 have hb:(⟨s,0,0⟩:fz).s=s:=rfl;have ax:s <:+ s:=List.suffix_refl s;rw [show(⟨s,0,0⟩:fz)=⟨s,aS s s,0⟩by rw [Gf],afl hn aQ hs ax,al]
 generalize e0:(⟨s,aS s s,0⟩:fz)=B
 have hb:B.s=s:=by rw [←e0]
 rw [hb];cases g1:gD s with
 |error e=>
  have he:=hD.cb _ _ g1;rw [jX g1];simp only [ig];rw [arP he,al,al,GE he,al];have:=Ng hn aQ hs hb (r1:=(0,aS s s,e)) (r2:=([],aS s s,e)) (a:=aS s s) (c:=0) (l:=[]) (m:=lD) he
  rw [←kA]at this;exact this
 |ok r=>
  obtain⟨dy,t1⟩:=r;have gu:=eT hD g1 ax;rw [kP g1];simp only [ig];rw [arS hn aQ hs gu,al,al];cases g2:r' t1 with
  |error e=>
   have he:=x7.cb _ _ g2;rw [jX g2];simp only [ig];rw [GE he,al];have:=Ng hn aQ hs hb (r1:=(dy,aS s t1,0)) (r2:=([],aS s t1,e)) (a:=aS s t1) (c:=0) (l:=[]) (m:=lD) he
   rw [←kA]at this;exact this
  |ok r=>
   obtain⟨eo,t2⟩:=r;have gl:=eT x7 g2 gu;rw [kP g2];simp only [ig];rw [show(16:Int)=((16:Nat):Int)from rfl,afm hn aQ hs (by omega) gl,al]
   have kb:yd t2=match gt 16 t2 with|.ok (u,t)=>e5 (dR 16384) u t|.error e=>.error e:=rfl
   cases h:gt 16 t2 with
   |error e=>
    have he:=kp h;rw [h]at kb;rw [jX kb,kO h];simp only [ig];have:=Ng hn aQ hs hb (r1:=(dy,aS s t1,0)) (r2:=(eo,aS s t2,0)) (a:=aS s t2) (c:=0) (l:=[]) (m:=lD) he
    rw [←kA]at this;exact this
   |ok r=>
    obtain⟨u,bp⟩:=r;obtain⟨Z,ad,am⟩:=jD h;have dm:bp <:+ s:=List.IsSuffix.trans ⟨gi u,Z.symm⟩ gl;have hu:=dm.length_le;rw [h]at kb;rw [kN h];simp only [ig]
    have c7:=r_ (L:=λm i t acc=>uA n B (dy,aS s t1,0) (eo,aS s t2,0) m (aS s t) 0 acc ((u-i:Nat):Int)) (f:=λ_ v=>v) (D:=dR 16384) (u:=u) (s:=s) (fin:=λacc t=>uz n B (dy,aS s t1,0) (eo,aS s t2,0) (aS s t) 0 acc) (bad:=λe x=>kq e x) (λx v t hx=>BS.gU hx) (by
     intro m i t acc hm hi ha ax;have hc:(0:Int)<((u-i:Nat):Int):=by omega
     simp only [uA,DM,hc,aus,auu,DK,al];rw [hb,show(16384:Int)=((16384:Nat):Int)from rfl,afn hn aQ hs (by omega) ax,al]
     have fP:room (acc.length+1) 16=true:=iz (by omega)
     obtain⟨m,rfl⟩:∃j,m=j+1:=⟨m-1,by omega⟩
     cases g1:dR 16384 t with
     |error e=>
      have he:=BS.cb _ _ g1;simp only [ig,auD,fP,bd];exact Ng hn aQ hs hb he
     |ok r=>
      obtain⟨dy,t1⟩:=r;simp only [ig,auD,fP,bd];rw [show auL (((u-i:Nat):Int)-1)=((u-(i+1):Nat):Int)by rw [wr]<;>omega]) (by
     intro m t acc ha ax;simp only [uA,DM,Nat.sub_self,show¬ (0:Int)<((0:Nat):Int)by omega,aut,auv]) u n 0 bp [] (by omega) (by omega) rfl dm
    simp only [Nat.sub_zero]at c7;cases ah:e5 (dR 16384) u bp with
    |error e=>
     rw [ah]at c7;simp only at kb
     rw [ah]at kb;rw [jX kb];exact c7
    |ok r=>
     obtain⟨l,jW⟩:=r;have Wh:=eT (BS.rep u) ah dm;rw [ah]at c7;simp only at kb
     rw [ah]at kb;rw [kP kb];simp only [List.nil_append,sa]at c7 ⊢;rw [c7];have hj:=ar1 hn aQ hs hb (r1:=(dy,aS s t1,0)) (r2:=(eo,aS s t2,0)) (v25:=l) Wh;unfold tailD at hj;cases g:(dM pX λ_=>dM pV λ_=>dM qX λ_=>dM mR λ_=>gI) jW with
     |error e=>rw [g]at hj;exact hj
     |ok r=>rw [g]at hj;exact hj
end
abbrev lE:bL:=⟨0,⟨0,0,[]⟩,[],[],⟨0,[]⟩,[],[],0⟩
def n_(p:oZ)(l:List be):bL:=⟨p.1,pU p.2.1 p.1,l,p.2.2.2.1,p.2.2.2.2.1,p.2.2.2.2.2.1,p.2.2.2.2.2.2.1,p.2.2.2.2.2.2.2⟩
def ar2(l:List aY)(a:Int)(i:Nat)(hi:i<l.length):((pU l a).Rows.getD i default)=⟨(l.getD i default).Key,[⟨a,(l.getD i default).bx⟩]⟩:=by
 unfold pU;simp [List.getD_eq_getElem?_getD,hi]
def ar3{n:Nat}(hn:2000≤n){l:List aY}(ae:l.length<n)(h:∀p∈l,vk p)(a:Int):vj n (pU l a):=by
 refine⟨by unfold pU;simpa using ae,λi=>?_⟩
 by_cases hi:i<l.length
 ·rw [ar2 l a i hi];have hp:=aeY hn (h _ (V1 hi));refine⟨hp.1,by show 1<n;omega,λk=>?_⟩
  refine oW (P:=λv:Version=>v.bx.S.length<n) (λx hx=>?_) (by show 0<n;omega) k
  rw [List.mem_singleton.1 hx];exact hp.2
 ·have:(pU l a).Rows.getD i default=default:=by
   unfold pU;rw [List.getD_eq_getElem?_getD,List.getElem?_eq_none (by simp;omega)];rfl
  rw [this];refine⟨by show 0<n;omega,by show 0<n;omega,λk=>?_⟩
  show(([]:List Version).getD k default).bx.S.length<n
  simp [List.getD];show 0<n
  omega
def Wi{n:Nat}(hn:2000≤n):pT n default:=BT hn ⟨by show iX 0;unfold iX;omega,by show iX 0;unfold iX;omega,by show([]:auJ).length≤16;simp,⟨by show([]:List bn).length≤6;simp,λv ao=>by cases ao⟩,rfl,rfl⟩
def Wj{n:Nat}(hn:2000≤n){p:oZ}(h:BZ p)(hp:p.2.1.length<n){l:List be}(ae:l.length≤1000)(hg:∀q∈l,sc q):p0 n (n_ p l) where
 st:=ar3 hn hp h.p1.1.2 p.1
 BU:=by show l.length<n;omega
 p1:=λi=>oW (P:=oY) (λx hx=>(hg x hx).fN) We i
 BV:=by have:=h.sd.1.1;show p.2.2.2.1.length<n;omega
 sd:=BQ hn h.sd.1.2
 pl:=by have:=h.Wg.1.2.1;show p.2.2.2.2.1.aL.length<n;omega
 BW:=M1 (by omega) h.Wg.1.2.2
 ax:=by have:=h.ax.1;show p.2.2.2.2.2.1.length<n;omega
 kS:=λi=>oW (P:=λx:bh=>x.Key.length<n) (λx hx=>by have:=(h.ax.2 x hx).1;omega) (by show 0<n;omega) i
 qZ:=by have:=h.qZ.1;show p.2.2.2.2.2.2.1.length<n;omega
 BX:=λi=>oW (P:=pT n) (λx hx=>BT hn (h.qZ.2 x hx).1) (Wi hn) i
def afq{α:Type}{E:α→auJ}:∀{l:List α} {x:α},x∈l→(E x).length≤(tw E l).length
 |y::l,x,h=>by
  rw [MT,auC];rcases List.mem_cons.1 h with rfl|h
  ·omega
  ·have:=afq (E:=E) h;omega
def ar4{p:oZ}{x:auJ}(h:x∈p.2.2.1):x.length≤(sg p).length:=by
 have Z:=afq (E:=hC) h;have ad:x.length≤(hC x).length:=by unfold hC;simp
 unfold sg jl;simp only [auC];omega
def Wk{p:oZ}(h:BZ p):p.2.1.length≤(sg p).length:=by
 have Z:=VR (E:=r9) (l:=p.2.1) λv _=>by unfold r9 hC;simp [r0]
 unfold sg;rw [show jl r9 p.2.1=gi p.2.1.length++tw r9 p.2.1 from rfl]
 simp only [auC];omega
def B2{n:Nat}(hn:2000≤n):p0 n lE:=by
 have h0:∀{α:Type} (l:List α),l=[]→l.length<n:=λl h=>by rw [h];show 0<n;omega
 exact {
  st:=by
   refine⟨h0 _ rfl,λi=>⟨?_,?_,λk=>?_⟩⟩
   ·show 0<n;omega
   ·exact h0 _ rfl
   ·show 0<n;omega
  BU:=h0 _ rfl
  p1:=λi=>oW (P:=oY) (λx hx=>absurd hx (by show¬ x∈([]:List be);simp)) We i
  BV:=h0 _ rfl
  sd:=BQ hn (λx hx=>by cases hx)
  pl:=h0 _ rfl
  BW:=M1 (by omega) (λx hx=>by cases hx)
  ax:=h0 _ rfl
  kS:=λi=>by show 0<n;omega
  qZ:=h0 _ rfl
  BX:=λi=>oW (P:=pT n) (λx hx=>absurd hx (by show¬ x∈([]:List Request);simp)) (Wi hn) i}
def B3{s t:auJ}(h:t <:+ s):(aS s t=((s.length:Nat):Int))↔t=[]:=by
 have:=h.length_le
 unfold aS;constructor
 ·intro e;have:t.length=0:=by omega
  exact List.eq_nil_of_length_eq_zero this
 ·intro e;subst e;simp
def vo(p:oZ)(t:auJ)(o:List be×Bool):bL×Int:=
 bif ((!decide (t=[]) || !(decide (0≤p.1)&&decide (p.1≤1099511627776))) || !o.2) || !n9 (n_ p o.1) then(lE,5) else(n_ p o.1,0)
section
variable {n:Nat} (hn:100000000≤n) (aQ:n≤9223372036854775808) {s:auJ} (hs:s.length≤4000)
include hn aQ hs
theorem afr{p:oZ}(hp:BZ p)(ae:p.2.1.length≤4000)(h0:(decide (0≤p.1)&&decide (p.1≤1099511627776))=true):z' n p.2.1 p.1=some (pU p.2.1 p.1,0)∧w_ n p.2.1 p.1=some (pU p.2.1 p.1,0):=by
 have e:BM p.2.1 p.1=(pU p.2.1 p.1,0):=by
  simp only [Bool.and_eq_true,decide_eq_true_eq]at h0;unfold BM;rw [hp.p1.2,decide_eq_false (show¬ p.1<0 by omega),decide_eq_false (show¬ 1099511627776<p.1 by omega)];rfl
 rw [aq3 (by omega) aQ (by omega) (by omega) (M0 (by omega) hp.p1.1.2),aq4 (by omega) aQ (by omega) (by omega) (M0 (by omega) hp.p1.1.2),e]
 exact⟨rfl,rfl⟩
theorem ar5{p:oZ}{t:auJ}(hd:sf s = .ok (p,t)){o:List be×Bool}(aq:JP n p.2.2.1=some o)(Gc:o.1.length≤1000)(hg:∀q∈o.1,sc q):w6 n s=some (vo p t o):=by
 have ah:=afp hn aQ (s:=s) (by omega)
 rw [hd]at ah;simp only at ah
 obtain⟨hc,hp⟩:=B0.eF _ _ _ hd;have GF:=B0.gU hd
 have hlen:p.2.1.length≤4000:=by
  have:=Wk hp;have ad:s.length=(sg p).length+t.length:=by rw [hc];simp
  omega
 have dC:=Wj (n:=n) (by omega) hp (by omega) Gc hg
 unfold w6 vo;rw [ah,al]
 have e1:decide (aS s t=((s.length:Nat):Int))=decide (t=[]):=by
  by_cases h:t=[]
  ·rw [decide_eq_true h,decide_eq_true ((B3 GF).2 h)]
  ·rw [decide_eq_false h,decide_eq_false (λg=>h ((B3 GF).1 g))]
 simp only [aus,auw,auv,dL];rw [e1,show decide (p.1<0) = !decide (0≤p.1)from BY hn aQ _ _,show decide (1099511627776<p.1) = !decide (p.1≤1099511627776)from BY hn aQ _ _]
 by_cases ax:t=[]
 ·rw [decide_eq_true ax];cases h0:decide (0≤p.1)&&decide (p.1≤1099511627776)
  ·have:(!true || !decide (0≤p.1) || !decide (p.1≤1099511627776))=true:=by
    cases Z:decide (0≤p.1)<;>cases ad:decide (p.1≤1099511627776)<;>rw [Z,ad]at h0<;>first|rfl|cases h0
   rw [this];rfl
  ·have:(!true || !decide (0≤p.1) || !decide (p.1≤1099511627776))=false:=by
    cases Z:decide (0≤p.1)<;>cases ad:decide (p.1≤1099511627776)<;>rw [Z,ad]at h0<;>first|rfl|cases h0
   rw [this,auv,aq,al,(afr hn aQ hs hp hlen h0).1];cases atZ:o.2
   ·rfl
   ·simp only [auw,auv,al,aus];refine(congrArg (λx=>Option.bind x _) (arz hn aQ dC)).trans ?_
    simp only [al];cases n9 (n_ p o.1)<;>rfl
 ·rw [decide_eq_false ax];rfl
theorem ar6{
 p:oZ} {t:auJ} (hd:sf s = .ok (p,t)) {o:List be×Bool} (aq:LJ n p.2.2.1=some o) (Gc:o.1.length≤1000) (hg:∀q∈o.1,sc q):rN n s=some (vo p t o):=by
 obtain⟨hc,hp⟩:=B0.eF _ _ _ hd;have GF:=B0.gU hd
 have hlen:p.2.1.length≤4000:=by
  have:=Wk hp;have ad:s.length=(sg p).length+t.length:=by rw [hc];simp
  omega
 have dC:=Wj (n:=n) (by omega) hp (by omega) Gc hg
 have o0:s.length<min n 1000000000:=by omega
 have nk:2000≤n:=by omega
 have bO:nR n s 0=nR n s (aS s s):=by rw [Gf]
 unfold rN;simp only [gc,show¬ 16384<s.length by omega,aut,auv]
 rw [bO,vd (List.suffix_refl s) (by omega) (by omega),al]
 unfold sf at hd;cases g1:gD s with
 |error e=>rw [jX g1]at hd;cases hd
 |ok r=>
  obtain⟨dy,t1⟩:=r;have gu:=eT hD g1 (List.suffix_refl s);rw [kP g1]at hd;rw [cY];simp only [aus,auw,auv];rw [aeZ nk aQ o0 gu,al];cases g2:r' t1 with
  |error e=>rw [jX g2]at hd;cases hd
  |ok r=>
   obtain⟨eo,t2⟩:=r;have gl:=eT x7 g2 gu;rw [kP g2]at hd;rw [cY];simp only [aus,auw,auv];rw [aff nk aQ o0 gl,al];cases g3:yd t2 with
   |error e=>rw [jX g3]at hd;cases hd
   |ok r=>
    obtain⟨iw,t3⟩:=r;have mt:=eT Nb g3 gl;rw [kP g3]at hd;rw [cY];simp only [aus,auw,auv];rw [ae5 nk aQ o0 mt,al];cases g4:pX t3 with
    |error e=>rw [jX g4]at hd;cases hd
    |ok r=>
     obtain⟨fB,t4⟩:=r;have nl:=eT ya g4 mt;rw [kP g4]at hd;rw [cY];simp only [aus,auw,auv];rw [ae1 nk aQ o0 nl,al];cases g5:pV t4 with
     |error e=>rw [jX g5]at hd;cases hd
     |ok r=>
      obtain⟨kh,t5⟩:=r;have qY:=eT x8 g5 nl;rw [kP g5]at hd;rw [cY];simp only [aus,auw,auv];rw [afg nk aQ o0 qY,al];cases g6:qX t5 with
      |error e=>rw [jX g6]at hd;cases hd
      |ok r=>
       obtain⟨mH,t6⟩:=r;have tG:=eT Na g6 qY;rw [kP g6]at hd;rw [cY];simp only [aus,auw,auv];rw [afe nk aQ o0 tG,al];cases g7:mR t6 with
       |error e=>rw [jX g7]at hd;cases hd
       |ok r=>
        obtain⟨rI,t7⟩:=r;have Wl:=eT yc g7 tG;rw [kP g7]at hd;rw [cY];simp only [aus,auw,auv];rw [tz Wl (by omega) (by omega),al]
        cases g8:gI t7 with
        |error e=>rw [g8]at hd;cases hd
        |ok r=>
         obtain⟨h',t8⟩:=r;rw [g8]at hd;cases hd;rw [cY];simp only [aus,auw,auv,dL]at aq ⊢;rw [aq,al]
         have e1:decide (aS s t=((s.length:Nat):Int))=decide (t=[]):=by
          by_cases h:t=[]
          ·rw [decide_eq_true h,decide_eq_true ((B3 GF).2 h)]
          ·rw [decide_eq_false h,decide_eq_false (λg=>h ((B3 GF).1 g))]
         unfold vo;rw [e1,show decide (dy<0) = !decide (0≤dy)from BY hn aQ _ _,show decide (1099511627776<dy) = !decide (dy≤1099511627776)from BY hn aQ _ _]
         cases h0:decide (0≤dy)&&decide (dy≤1099511627776)
         ·have:∀b c:Bool,(b || !decide (0≤dy) || !decide (dy≤1099511627776)||c)=true:=by
           intro b c;cases Z:decide (0≤dy)<;>cases ad:decide (dy≤1099511627776)<;>rw [Z,ad]at h0<;>first|(cases b<;>rfl)|cases h0
          rw [this];cases decide (t=[])<;>rfl
         ·have afs:decide (0≤dy)=true:=by cases Z:decide (0≤dy) with|true=>rfl|false=>rw [Z]at h0;cases h0
          have ar7:decide (dy≤1099511627776)=true:=by cases Z:decide (dy≤1099511627776) with|true=>rfl|false=>rw [Z,afs]at h0;cases h0
          have av:AM n ⟨dy,(pU (dy,eo,iw,fB,kh,mH,rI,h').2.1 (dy,eo,iw,fB,kh,mH,rI,h').1,(0:Int)).1,o.1,fB,kh,mH,rI,h'⟩=some (n9 (n_ (dy,eo,iw,fB,kh,mH,rI,h') o.1)):=arB hn aQ dC;rw [afs,ar7,(afr hn aQ hs hp hlen h0).2,al,av,al];cases decide (t=[])<;>cases o.2<;>cases n9 (n_ (dy,eo,iw,fB,kh,mH,rI,h') o.1)<;>rfl
theorem ar8{
 e:Int} (hd:sf s = .error e):rN n s=some (lE,e):=by
 have o0:s.length<min n 1000000000:=by omega
 have nk:2000≤n:=by omega
 have bO:nR n s 0=nR n s (aS s s):=by rw [Gf]
 unfold rN;simp only [gc,show¬ 16384<s.length by omega,aut,auv]
 rw [bO,vd (List.suffix_refl s) (by omega) (by omega),al]
 unfold sf at hd;cases g1:gD s with
 |error f=>rw [jX g1]at hd;cases hd;rw [b7];simp only [dg (hD.cb _ _ g1),auu]
 |ok r=>
  obtain⟨dy,t1⟩:=r;have gu:=eT hD g1 (List.suffix_refl s);rw [kP g1]at hd;rw [cY];simp only [aus,auw,auv];rw [aeZ nk aQ o0 gu,al];cases g2:r' t1 with
  |error f=>rw [jX g2]at hd;cases hd;rw [b7];simp only [dg (x7.cb _ _ g2),auu]
  |ok r=>
   obtain⟨eo,t2⟩:=r;have gl:=eT x7 g2 gu;rw [kP g2]at hd;rw [cY];simp only [aus,auw,auv];rw [aff nk aQ o0 gl,al];cases g3:yd t2 with
   |error f=>rw [jX g3]at hd;cases hd;rw [b7];simp only [dg (Nb.cb _ _ g3),auu]
   |ok r=>
    obtain⟨iw,t3⟩:=r;have mt:=eT Nb g3 gl;rw [kP g3]at hd;rw [cY];simp only [aus,auw,auv];rw [ae5 nk aQ o0 mt,al];cases g4:pX t3 with
    |error f=>rw [jX g4]at hd;cases hd;rw [b7];simp only [dg (ya.cb _ _ g4),auu]
    |ok r=>
     obtain⟨fB,t4⟩:=r;have nl:=eT ya g4 mt;rw [kP g4]at hd;rw [cY];simp only [aus,auw,auv];rw [ae1 nk aQ o0 nl,al];cases g5:pV t4 with
     |error f=>rw [jX g5]at hd;cases hd;rw [b7];simp only [dg (x8.cb _ _ g5),auu]
     |ok r=>
      obtain⟨kh,t5⟩:=r;have qY:=eT x8 g5 nl;rw [kP g5]at hd;rw [cY];simp only [aus,auw,auv];rw [afg nk aQ o0 qY,al];cases g6:qX t5 with
      |error f=>rw [jX g6]at hd;cases hd;rw [b7];simp only [dg (Na.cb _ _ g6),auu]
      |ok r=>
       obtain⟨mH,t6⟩:=r;have tG:=eT Na g6 qY;rw [kP g6]at hd;rw [cY];simp only [aus,auw,auv];rw [afe nk aQ o0 tG,al];cases g7:mR t6 with
       |error f=>rw [jX g7]at hd;cases hd;rw [b7];simp only [dg (yc.cb _ _ g7),auu]
       |ok r=>
        obtain⟨rI,t7⟩:=r;have Wl:=eT yc g7 tG;rw [kP g7]at hd;rw [cY];simp only [aus,auw,auv];rw [tz Wl (by omega) (by omega),al]
        cases g8:gI t7 with
        |error f=>rw [g8]at hd;cases hd;rw [b7];simp only [dg (ix.cb _ _ g8),auu]
        |ok r=>rw [g8]at hd;cases hd
theorem ar9:∃R,w6 n s=some R∧rN n s=some R∧p0 n R.1∧(R.2=0→∃p l,sf s = .ok (p,[])∧R.1=n_ p l∧l.map mS=p.2.2.1∧(∀q∈l,sc q)∧l.length≤1000∧n9 (n_ p l)=true∧0≤p.1∧p.1≤1099511627776)∧(R.2≠0→R.1=lE):=by
 cases hd:sf s with
 |error e=>
  have ah:=afp hn aQ (s:=s) (by omega)
  rw [hd]at ah;obtain⟨v,a,ah⟩:=ah;have he:=B0.cb _ _ hd;refine⟨(lE,e),?_,ar8 hn aQ hs hd,B2 (by omega),λh=>absurd h he,λ_=>rfl⟩
  unfold w6;rw [ah,al];simp only [dg he,auu]
 |ok r=>
  obtain⟨p,t⟩:=r;obtain⟨hc,hp⟩:=B0.eF _ _ _ hd;have ad:s.length=(sg p).length+t.length:=by rw [hc];simp
  have O4:=hp.src.1;obtain⟨o,c8,h6,at0,Nh,ar'⟩:=arv (n:=n) hn p.2.2.1 (by omega) (λx hx=>by have:=ar4 hx;omega)
  have hlen:=Wk hp;refine⟨vo p t o,ar5 hn aQ hs hd c8 (by omega) Nh,ar6 hn aQ hs hd h6 (by omega) Nh,?_,?_,?_⟩
  ·unfold vo;cases ((!decide (t=[]) || !(decide (0≤p.1)&&decide (p.1≤1099511627776))) || !o.2) || !n9 (n_ p o.1)
   ·exact Wj (by omega) hp (by omega) (by omega) Nh
   ·exact B2 (by omega)
  ·intro h;unfold vo at h ⊢;cases hb:((!decide (t=[]) || !(decide (0≤p.1)&&decide (p.1≤1099511627776))) || !o.2) || !n9 (n_ p o.1)
   ·simp only [Bool.or_eq_false_iff,Bool.not_eq_false',Bool.and_eq_true,decide_eq_true_eq]at hb;obtain⟨⟨⟨cl,jI,FZ⟩,ME⟩,ar_⟩:=hb;subst cl;exact⟨p,o.1,rfl,rfl,ar' ME,Nh,by omega,ar_,jI,FZ⟩
   ·rw [hb]at h;cases h
  ·intro h;unfold vo at h ⊢;cases hb:((!decide (t=[]) || !(decide (0≤p.1)&&decide (p.1≤1099511627776))) || !o.2) || !n9 (n_ p o.1)
   ·rw [hb]at h;exact absurd rfl h
   ·rfl
end
section
variable {n:Nat} (hn:2000≤n)
include hn
end
section
variable {n:Nat} (hn:2000≤n)
include hn
end
section
variable {n:Nat} (hn:100000000≤n) (aQ:n≤9223372036854775808)
include hn aQ
end
section
variable {n:Nat} (hn:100000000≤n) (aQ:n≤9223372036854775808) {s:auJ} (hs:s.length≤4000)
include hn aQ hs
end
section
variable {n:Nat} (hn:2000≤n)
include hn
end
section
variable {n:Nat} (hn:2000≤n)
include hn
end
def Ni(r:bL)(A:List aY):oZ:=(r.Pos,A,r.cL.map mS,r.cV,r.Place,r.bh,r.Queue,r.c_)
section
variable {n:Nat} (hn:2000≤n)
include hn
end
section
variable {n:Nat} (hn:100000000≤n) (aQ:n≤9223372036854775808) {r:bL} {A:List aY} (hp:BZ (Ni r A)) (hs:(sg (Ni r A)).length≤800000) (hg:∀q∈r.cL,oY q) (jF:r.cL.length≤1000)
include hn aQ hp hs hg jF
end
section
variable {n:Nat} (hn:100000000≤n) (aQ:n≤9223372036854775808) {r:bL} {A:List aY} (hp:BZ (Ni r A)) (hs:(sg (Ni r A)).length≤800000) (hg:∀q∈r.cL,oY q) (jF:r.cL.length≤1000)
include hn aQ hp hs hg jF
end
structure asa(f:ff):Prop where
 r:f.Reads.length≤100
 w:f.dz.length≤100
 rs:∀i,i<f.Reads.length→(f.Reads.getD i default).length≤100
 ws:∀i,i<f.dz.length→(f.dz.getD i default).length≤100
structure asb(r:Request):Prop where
 p:r.be.length≤300
 a:r.an.length≤40
 vs:∀i,i<r.an.length→(r.an.getD i default).S.length≤300
 f:asa r.bP
structure asc(n:Nat)(a:Int)(r:Row):Prop where
 l:r.bZ.length<n
 b:r.bZ.length≤1000000000
 p:0<r.bZ.length
 s:∀i,i<r.bZ.length→(r.bZ.getD i default).dD≤a
section
variable {n:Nat} {s:au} {a:Int} (ae:s.Rows.length≤1000) (hn:2000≤n) (h:∀i,i<s.Rows.length→asc n a (s.Rows.getD i default)) (cc:s.bX≤a) (ha:a≤s.bN)
include ae hn h cc ha
end
section
variable {H:Type} {enc:TypeId×Value→H} {W:World}
end
section
variable {H:Type} {enc:TypeId×Value→H} {W:World}
end
section
variable {H:Type} {enc:TypeId×Value→H} {W:World}
variable {n:Nat} {t:TypeId} {l:List Value} {x:DataW H×List MemPlace}
structure Nj(x:bn):Prop where
 at1:gr x.Kind
 at2:gr x.N
 Wm:x.S.length≤9223372036854775807
structure asd(x:Version):Prop where
 ase:gr x.dD
 Wn:Nj x.bx
structure asf(x:Row):Prop where
 GG:x.Key.length≤9223372036854775807
 Nk:x.bZ.length≤9223372036854775807∧∀i,i<x.bZ.length→asd (x.bZ.getD i default)
structure aft(x:au):Prop where
 at3:gr x.bX
 at4:gr x.bN
 afu:x.Rows.length≤9223372036854775807∧∀i,i<x.Rows.length→asf (x.Rows.getD i default)
structure asg(x:Outcome):Prop where
 at5:gr x.Status
 at6:gr x.Code
 ash:x.Out.length≤9223372036854775807∧∀i,i<x.Out.length→Nj (x.Out.getD i default)
structure asi(x:d'):Prop where
 afv:gr x.Client
 asj:gr x.Seq
 ask:asg x.Outcome
structure asl(x:bG):Prop where
 afv:gr x.Client
 Wo:gr x.Next
 afw:x.dn.length≤9223372036854775807∧∀i,i<x.dn.length→asi (x.dn.getD i default)
structure asm(x:Part):Prop where
 at7:gr x.Id
 asn:x.ed.length≤9223372036854775807
 at8:gr x.Node
 at9:gr x.fQ
 afx:x.eH.length≤9223372036854775807
structure aso(x:b1):Prop where
 aua:gr x.Version
 asp:x.aL.length≤9223372036854775807∧∀i,i<x.aL.length→asm (x.aL.getD i default)
structure asq(x:bh):Prop where
 GG:x.Key.length≤9223372036854775807
 aub:gr x.Count
structure asr(x:ff):Prop where
 auc:True
 aud:x.Reads.length≤9223372036854775807∧∀i,i<x.Reads.length→(x.Reads.getD i default).length≤9223372036854775807
 aue:x.dz.length≤9223372036854775807∧∀i,i<x.dz.length→(x.dz.getD i default).length≤9223372036854775807
structure ass(x:Request):Prop where
 afv:gr x.Client
 asj:gr x.Seq
 auf:x.be.length≤9223372036854775807
 fArgs:x.an.length≤9223372036854775807∧∀i,i<x.an.length→Nj (x.an.getD i default)
 aug:True
 auh:asr x.bP
structure GH(x:bL):Prop where
 aui:gr x.Pos
 ast:aft x.au
 afy:x.cL.length≤9223372036854775807∧∀i,i<x.cL.length→xW (x.cL.getD i default)
 asu:x.cV.length≤9223372036854775807∧∀i,i<x.cV.length→asl (x.cV.getD i default)
 asv:aso x.Place
 asw:x.bh.length≤9223372036854775807∧∀i,i<x.bh.length→asq (x.bh.getD i default)
 auj:x.Queue.length≤9223372036854775807∧∀i,i<x.Queue.length→ass (x.Queue.getD i default)
 auk:iX x.c_
structure asx(x:aY):Prop where
 GG:x.Key.length≤9223372036854775807
 Wn:Nj x.bx
structure afz(x:g_):Prop where
 ase:gr x.dD
 aul:GH x.Rest
 Wo:x.Next.length≤9223372036854775807
 afx:True
 aum:x.gE.length≤9223372036854775807∧∀i,i<x.gE.length→asx (x.gE.getD i default)
 aun:x.fR.length≤9223372036854775807∧∀i,i<x.fR.length→(x.fR.getD i default).length≤9223372036854775807
end
def oa{α:Type}[Inhabited α]{P:α→Prop}{l:List α}(h:∀i,i<l.length→P (l.getD i default))(h0:P default)(i:Nat):P (l.getD i default):=by
 by_cases hi:i<l.length
 ·exact h i hi
 ·rw [List.getD_eq_getElem?_getD,List.getElem?_eq_none (by omega)];exact h0
structure Wp(n:Nat)(r:bL):Prop where
 ce:p0 n r
 BL:r.au.Rows.length≤100
 vs:∀i,i<r.au.Rows.length→(r.au.Rows.getD i default).bZ.length≤1000
 pl:r.cL.length≤1000
 afA:r.cV.length≤10
section
variable {n:Nat} (hn:100000000≤n) (aQ:n≤9223372036854775808) {r:bL} (cc:Wp n r) (hi:GH r)
include hn aQ cc hi
end
section
variable {n:Nat} (hn:100000000≤n) (aQ:n≤9223372036854775808) {r:bL} (cc:Wp n r) (hi:GH r)
include hn aQ cc hi
end
section
variable {n:Nat} (hn:100000000≤n) (aQ:n≤9223372036854775808) {r:bL} (cc:Wp n r) (hi:GH r)
include hn aQ cc hi
end
section
variable {n:Nat} {a:Int} {r:Row} (ae:r.bZ.length<n) (aQ:n≤9223372036854775808)
include ae aQ
end
section
variable {n:Nat} {s:au} (hn:2000≤n) (aQ:n≤9223372036854775808) (h:vj n s) (ae:s.Rows.length≤5000)
include hn aQ h ae
end
structure Wq(s:au):Prop where
 BL:s.Rows.length≤60
 vs:∀i,i<s.Rows.length→(s.Rows.getD i default).bZ.length≤40
structure Wr(r:bL):Prop where
 st:Wq r.au
 pl:r.cL.length≤16
 cS:∀i,i<r.cL.length→apR (r.cL.getD i default) 600
 afA:r.cV.length≤10
 pn:∀i,i<r.cV.length→(r.cV.getD i default).dn.length≤20
 ae:r.bh.length≤40
 asy:r.Queue.length≤70
 asz:∀i,i<r.Queue.length→asb (r.Queue.getD i default)
 F2:r.Place.aL.length≤40
def Wr.ce{r:bL}(h:Wr r)(hi:GH r){n:Nat}(hn:n=9223372036854775808):p0 n r where
 st:=⟨by have:=h.st.BL;omega,λi=>oa (P:=Gr n) (λk hk=>by
  have Z:=hi.ast.afu.2 k hk;have ad:=Z.GG;have am:=Z.Nk.1;exact⟨by omega,by omega,λj=>oa (P:=λx:Version=>x.bx.S.length<n) (λm hm=>by have:=(Z.Nk.2 m hm).Wn.Wm;omega) (by show 0<n;omega) j⟩) ((B2 (n:=n) (by omega)).st.row 0) i⟩
 BU:=by have:=h.pl;omega
 p1:=λi=>oa (P:=oY) (λk hk=>by
  obtain⟨Z,ad,am,aR⟩:=h.cS k hk;have bv:=MK (r.cL.getD k default).Body (hi.afy.2 k hk).2.2.2;exact⟨hi.afy.2 k hk,by omega,by omega,by omega⟩) We i
 BV:=by have:=h.afA;omega
 sd:=λi=>oa (P:=qU n) (λk hk=>by
  have Z:=hi.asu.2 k hk;have ad:=Z.afw.1
  exact⟨by omega,λj=>oa (P:=λx:d'=>x4 n x.Outcome) (λm hm=>by
   have am:=(Z.afw.2 m hm).ask.ash;have aR:=am.1;exact⟨by omega,λq=>oa (P:=λx:bn=>x.S.length<n) (λm hm=>by have:=(am.2 m hm).Wm;omega) (by show 0<n;omega) q⟩) ((BQ (n:=n) (by omega) (l:=[]) (λx hx=>by cases hx) 0).out 0) j⟩) (BQ (n:=n) (by omega) (l:=[]) (λx hx=>by cases hx) 0) i
 pl:=by have:=h.F2;omega
 BW:=λi=>oa (P:=r8 n) (λk hk=>by
  have Z:=hi.asv.asp.2 k hk;have ad:=Z.asn;have am:=Z.afx;exact⟨by omega,by omega⟩) ((B2 (n:=n) (by omega)).BW 0) i
 ax:=by have:=h.ae;omega
 kS:=λi=>oa (P:=λx:bh=>x.Key.length<n) (λk hk=>by have:=(hi.asw.2 k hk).GG;omega) (by show 0<n;omega) i
 qZ:=by have:=h.asy;omega
 BX:=λi=>oa (P:=pT n) (λk hk=>by
  obtain⟨Z,ad,am,f1,f2,f3,f4⟩:=h.asz k hk
  exact⟨by omega,by omega,λj=>oa (P:=λx:bn=>x.S.length<n) (λm hm=>by have:=am m hm;omega) (by show 0<n;omega) j,by omega,by omega,by omega,by omega,
   λj=>oa (P:=λx:auJ=>x.length<n) (λm hm=>by have:=f3 m hm;omega) (by show 0<n;omega) j,
   λj=>oa (P:=λx:auJ=>x.length<n) (λm hm=>by have:=f4 m hm;omega) (by show 0<n;omega) j⟩) (Wi (by omega)) i
def afB:K6 9223372036854775808=some true:=by kernel_rfl
structure afC(n:Nat)(c:g_):Prop where
 nx:c.Next.length<n
 auo:c.Next.length≤9223372036854775807
 pl:c.gE.length≤100000
 F2:c.fR.length≤100000
section
variable {n:Nat} {s:au} (hn:2000≤n) (aQ:n≤9223372036854775808) (h:vj n s) (ae:s.Rows.length≤5000) {c:g_} (hc:afC n c)
include hn aQ h ae hc
end
structure Ws(c:g_):Prop where
 rest:Wr c.Rest
 pl:c.gE.length≤60
 F2:c.fR.length≤40
 ts:∀i,i<c.fR.length→(c.fR.getD i default).length≤5000
def Ws.ce{c:g_}(h:Ws c)(hi:afz c){n:Nat}(hn:n=9223372036854775808):afC n c:=
 ⟨by have:=hi.Wo;omega,hi.Wo,by have:=h.pl;omega,by have:=h.F2;omega⟩
def Wq.ce{s:au}(h:Wq s)(hi:aft s){n:Nat}(hn:n=9223372036854775808):vj n s:=
 ⟨by
  have:=h.BL;omega,λi=>oa (P:=Gr n) (λk hk=>by
  have Z:=hi.afu.2 k hk;have ad:=Z.GG;have am:=Z.Nk.1;exact⟨by omega,by omega,λj=>oa (P:=λx:Version=>x.bx.S.length<n) (λm hm=>by have:=(Z.Nk.2 m hm).Wn.Wm;omega) (by show 0<n;omega) j⟩) ((B2 (n:=n) (by omega)).st.row 0) i⟩
section
variable {W:List aY} {a:Int}
end
section
variable {n:Nat} (hn:100000000≤n) (aQ:n≤9223372036854775808) {c:g_} (e4:0≤c.dD∧c.dD≤1099511627776) (aT:c.fR.length≤4000) (ax:∀i,i<c.fR.length→(c.fR.getD i default).length≤5000)
include hn aQ e4 aT ax
end
section
variable {n:Nat} (hn:n=9223372036854775808) {c:g_} (cc:Ws c) (hi:afz c)
include hn cc hi
end
def yh(dec:auJ→bL×Int)(s:auJ):bL×List auJ×Int:=
 match dR 16384 s with
 |.error e=>(lE,[],e)
 |.ok (dU,t)=>bif !decide ((dec dU).2=0) then(lE,[],(dec dU).2) else
  match gt 16384 t with
  |.error e=>(lE,[],e)
  |.ok (k,u)=>match e5 (dR 4096) k u with
   |.error e=>(lE,[],e)
   |.ok (l,v)=>bif !decide (v=[])||decide (1099511627776-(dec dU).1.Pos<(k:Int)) then(lE,[],5) else((dec dU).1,l,0)
def yi:eh (dR 4096) hC (λs=>s.length≤4096):=tx 4096 (by omega)
def yj:eh (dR 16384) hC (λs=>s.length≤16384):=tx 16384 (by omega)
section
variable {n:Nat} (hn:100000000≤n) (aQ:n≤9223372036854775808) {s:auJ} (hs:s.length≤4000)
include hn aQ hs
theorem afD{most:Nat}(hm:most<9223372036854775808)(FM:most<18446744073709551616){t:auJ}(ax:t <:+ s):
 w7 n (most:Int) s (aS s t)=some (match dR most t with|.error e=>([],e,aS s t)|.ok (x,u)=>(x,0,aS s u)):=by
 unfold w7;rw [BJ ax (by omega) hm (by omega),al]
 cases hx:dR most t with
 |error e=>
  have:=(tx most FM).cb _ _ hx
  rw [b7,show decide (((([],0,e):auJ×Int×Int)).2.2=0)=false from decide_eq_false this]
  rfl
 |ok r=>obtain⟨x,u⟩:=r;rfl
theorem asA{aU:Int×Int×Int}{aB:bL×Int}{k:Nat}(hk:aU.1=(k:Int))(fx:k≤100000):∀j m i t acc,i+j=k→j<m→t <:+ s→acc.length=i→
 w8 n aU s aB m (aS s t) acc (i:Int)=match e5 (dR 4096) j t with|.error e=>some (lE,[],e)|.ok (l,v)=>JW n aU s aB (aS s v) (acc++l):=by
 intro j;induction j with
 |zero=>
  intro m i t acc Z ad ax ha;obtain⟨m,rfl⟩:∃q,m=q+1:=⟨m-1,by omega⟩
  obtain rfl:i=k:=by omega
  simp only [w8,JX,hk,auF,aut,auv,e5,List.append_nil]
 |succ j aW=>
  intro m i t acc Z ad ax ha;obtain⟨m,rfl⟩:∃q,m=q+1:=⟨m-1,by omega⟩
  simp only [w8,JX,hk,auB,show i<k by omega,aus,auu,e5]
  rw [show w7 n 4096 s (aS s t)=_ from afD hn aQ hs (most:=4096) (by omega) (by omega) ax,al]
  cases hx:dR 4096 t with
  |error e=>simp only [dg (yi.cb _ _ hx),auu]
  |ok r=>
   obtain⟨x,u⟩:=r;simp only [aus,auw,auv,auD,iz (show(acc.length+1)*16≤140737488355328 by omega),bd,dj (show i≤9223372036854775806 by omega)]
   rw [aW m (i+1) u (acc++[x]) (by omega) (by omega) ((yi.gU hx).trans ax) (by rw [auC,auD,ha])]
   cases e5 (dR 4096) j u with
   |error e=>rfl
   |ok r=>obtain⟨l,v⟩:=r;simp only [List.append_assoc,List.singleton_append]
theorem asB{aU:Int×Int×Int}{aB:bL×Int}{k:Nat}(hk:aU.1=(k:Int))(fx:k≤100000):∀j m i t acc,i+j=k→j<m→t <:+ s→acc.length=i→
 xt n s aU aB m acc (i:Int) (aS s t)=match e5 (dR 4096) j t with|.error e=>some (lE,[],e)|.ok (l,v)=>LM n s aU aB (acc++l) (aS s v):=by
 intro j;induction j with
 |zero=>
  intro m i t acc Z ad ax ha;obtain⟨m,rfl⟩:∃q,m=q+1:=⟨m-1,by omega⟩
  obtain rfl:i=k:=by omega
  simp only [xt,LN,hk,auF,aut,auv,e5,List.append_nil]
 |succ j aW=>
  intro m i t acc Z ad ax ha;obtain⟨m,rfl⟩:∃q,m=q+1:=⟨m-1,by omega⟩
  simp only [xt,LN,hk,auB,show i<k by omega,aus,auu,e5]
  rw [show nb n s (aS s t) 4096=_ from r5 (most:=4096) ax (by omega) (by omega) (by omega),al]
  cases hx:dR 4096 t with
  |error e=>
   rw [b7];simp only [dg (yi.cb _ _ hx),auu]
  |ok r=>
   obtain⟨x,u⟩:=r;simp only [cY,aus,auw,auv,auD,iz (show(acc.length+1)*16≤140737488355328 by omega),bd,dj (show i≤9223372036854775806 by omega)]
   rw [aW m (i+1) u (acc++[x]) (by omega) (by omega) ((yi.gU hx).trans ax) (by rw [auC,auD,ha])]
   cases e5 (dR 4096) j u with
   |error e=>rfl
   |ok r=>obtain⟨l,v⟩:=r;simp only [List.append_assoc,List.singleton_append]
theorem afE{v:auJ}(ao:v <:+ s):decide (aS s v=((s.length:Nat):Int))=decide (v=[]):=by
 by_cases h:v=[]
 ·rw [decide_eq_true h,decide_eq_true ((B3 ao).2 h)]
 ·rw [decide_eq_false h,decide_eq_false (λe=>h ((B3 ao).1 e))]
theorem afF{D:eJ auJ}{E:auJ→auJ}{ok:auJ→Prop}(h:eh D E ok){k:Nat}{u:auJ}{l:List auJ}{v:auJ}(hx:e5 D k u = .ok (l,v)):v <:+ u:=(eh.rep h k).gU hx
theorem asC{dec:auJ→bL×Int}(hd:∀dU,dU.length≤4000→nM n dU=some (dec dU)∧((dec dU).2=0→0≤(dec dU).1.Pos∧(dec dU).1.Pos≤1099511627776)):D8 n s=some (yh dec s):=by
 unfold D8 yh
 (try simp only [GD])
 rw [decide_eq_false (show¬ (16384:Int)<((s.length:Nat):Int)by omega)]
 simp only [auv];rw [show w7 n 16384 s 0=_ from(Gf s) ▸ afD hn aQ hs (most:=16384) (by omega) (by omega) (List.suffix_refl s),al]
 cases hx:dR 16384 s with
 |error e=>simp only [dg (yj.cb _ _ hx),auu]
 |ok r=>
  obtain⟨dU,t⟩:=r;have hc:=(yj.eF _ _ _ hx).1
  have ae:dU.length≤4000:=by
   have:=congrArg List.length hc
   rw [auC,hC,auC]at this;omega
  have ax:=yj.gU hx;obtain⟨Z,ad⟩:=hd dU ae;simp only [aus,auw,auv];rw [Z,al];cases h0:decide ((dec dU).2=0)
  ·rfl
  ·obtain⟨a_,a2⟩:=ad (of_decide_eq_true h0);simp only [auw,auv];rw [show oD n s (aS s t) 16384=_ from tA (most:=16384) ax (by omega) (by omega) (by omega),al]
   cases hk:gt 16384 t with
   |error e=>
    rw [kO hk,b7];simp only [dg (kp hk),auu]
   |ok r=>
    obtain⟨k,u⟩:=r;obtain⟨ef,aj,fW⟩:=jD hk;have hu:u <:+ s:=(show u <:+ t from⟨gi k,ef.symm⟩).trans ax
    simp only [kN hk,cY,aus,auw,auv];rw [show w8 n ((k:Int),aS s u,0) s (dec dU) n (aS s u) [] 0=_ from asA hn aQ hs (k:=k) rfl (by omega) k n 0 u [] (by omega) (by omega) hu rfl]
    cases ah:e5 (dR 4096) k u with
    |error e=>rfl
    |ok r=>
     obtain⟨l,v⟩:=r;have ao:=(afF hn aQ hs yi ah).trans hu;simp only [JW,List.nil_append,afE hn aQ hs ao,dL,show auL (1099511627776-(dec dU).1.Pos)=1099511627776-(dec dU).1.Pos from by rw [wr]<;>omega]
     cases !decide (v=[])||decide (1099511627776-(dec dU).1.Pos<(k:Int))<;>rfl
theorem asD{dec:auJ→bL×Int}(hd:∀dU,dU.length≤4000→rN n dU=some (dec dU)∧((dec dU).2=0→0≤(dec dU).1.Pos∧(dec dU).1.Pos≤1099511627776)):LO n s=some (yh dec s):=by
 unfold LO yh
 (try simp only [GD])
 rw [decide_eq_false (show¬ (16384:Int)<((s.length:Nat):Int)by omega)]
 simp only [auv];rw [show nb n s 0 16384=_ from(Gf s) ▸ r5 (most:=16384) (List.suffix_refl s) (by omega) (by omega) (by omega),al]
 cases hx:dR 16384 s with
 |error e=>
  rw [b7];simp only [dg (yj.cb _ _ hx),auu]
 |ok r=>
  obtain⟨dU,t⟩:=r;have hc:=(yj.eF _ _ _ hx).1
  have ae:dU.length≤4000:=by
   have:=congrArg List.length hc
   rw [auC,hC,auC]at this;omega
  have ax:=yj.gU hx;obtain⟨Z,ad⟩:=hd dU ae;simp only [cY,aus,auw,auv];rw [Z,al];cases h0:decide ((dec dU).2=0)
  ·rfl
  ·obtain⟨a_,a2⟩:=ad (of_decide_eq_true h0);simp only [auw,auv];rw [show nQ n s (aS s t) 16384=_ from r4 (most:=16384) ax (by omega) (by omega) (by omega),al]
   cases hk:gt 16384 t with
   |error e=>
    rw [kO hk,b7];simp only [dg (kp hk),auu]
   |ok r=>
    obtain⟨k,u⟩:=r;obtain⟨ef,aj,fW⟩:=jD hk;have hu:u <:+ s:=(show u <:+ t from⟨gi k,ef.symm⟩).trans ax
    simp only [kN hk,cY,aus,auw,auv];rw [show xt n s ((k:Int),aS s u,0) (dec dU) n [] 0 (aS s u)=_ from asB hn aQ hs (k:=k) rfl (by omega) k n 0 u [] (by omega) (by omega) hu rfl]
    cases ah:e5 (dR 4096) k u with
    |error e=>rfl
    |ok r=>
     obtain⟨l,v⟩:=r;have ao:=(afF hn aQ hs yi ah).trans hu;simp only [LM,List.nil_append,afE hn aQ hs ao,dL,show auL (1099511627776-(dec dU).1.Pos)=1099511627776-(dec dU).1.Pos from by rw [wr]<;>omega]
     cases !decide (v=[])||decide (1099511627776-(dec dU).1.Pos<(k:Int))<;>rfl
end
section
variable {n:Nat} (hn:100000000≤n) (aQ:n≤9223372036854775808)
include hn aQ
theorem asE{p:oZ}{l:List be}(h:n9 (n_ p l)=true):0≤(n_ p l).Pos∧(n_ p l).Pos≤1099511627776:=by
 unfold n9 at h;simp only [Bool.and_eq_true,decide_eq_true_eq]at h;exact h.1.1.1.1.1.1.1
theorem asF:∃dec:auJ→bL×Int,∀dU:auJ,dU.length≤4000→(nM n dU=some (dec dU)∧rN n dU=some (dec dU)∧p0 n (dec dU).1∧((dec dU).2=0→0≤(dec dU).1.Pos∧(dec dU).1.Pos≤1099511627776)):=by
 refine⟨λdU=>(nM n dU).getD (lE,1),λdU ae=>?_⟩
 obtain⟨R,Z,ad,am,aR,bv⟩:=ar9 hn aQ (s:=dU) ae
 have e:nM n dU=some R:=by
  unfold nM;rw [decide_eq_false (show¬ (16384:Int)<((dU.length:Nat):Int)by omega)]
  simp only [auv];rw [Z,al]
 show nM n dU=some ((nM n dU).getD (lE,1))∧rN n dU=some ((nM n dU).getD (lE,1))∧p0 n ((nM n dU).getD (lE,1)).1∧(((nM n dU).getD (lE,1)).2=0→0≤((nM n dU).getD (lE,1)).1.Pos∧((nM n dU).getD (lE,1)).1.Pos≤1099511627776)
 rw [e,ad];refine⟨rfl,rfl,am,λh0=>?_⟩
 obtain⟨p,l,_,e2,_,_,_,dC,_⟩:=aR h0;show 0≤R.1.Pos∧R.1.Pos≤1099511627776
 rw [e2];exact asE hn aQ dC
theorem asG{dec:auJ→bL×Int}{s:auJ}(hs:s.length≤4000)(hd:∀dU,dU.length≤4000→p0 n (dec dU).1):p0 n (yh dec s).1∧(yh dec s).2.1.length≤16384:=by
 unfold yh;have dG:=B2 (n:=n) (by omega)
 cases hx:dR 16384 s with
 |error e=>exact⟨dG,by simp⟩
 |ok r=>
  obtain⟨dU,t⟩:=r;have hc:=(yj.eF _ _ _ hx).1
  have ae:dU.length≤4000:=by
   have:=congrArg List.length hc
   rw [auC,hC,auC]at this;omega
  dsimp only
  cases !decide ((dec dU).2=0)
  ·simp only [auv];cases hk:gt 16384 t with
   |error e=>exact⟨dG,by simp⟩
   |ok r=>
    obtain⟨k,u⟩:=r;obtain⟨ef,aj,fW⟩:=jD hk
    dsimp only
    cases ah:e5 (dR 4096) k u with
    |error e=>exact⟨dG,by simp⟩
    |ok r=>
     obtain⟨l,v⟩:=r;have eQ:=((eh.rep yi k).eF _ _ _ ah).2.1
     dsimp only
     cases !decide (v=[])||decide (1099511627776-(dec dU).1.Pos<(k:Int))
     ·exact⟨hd dU ae,by show l.length≤16384;omega⟩
     ·exact⟨dG,by simp⟩
  ·exact⟨dG,by simp⟩
end
def asH(s:auJ):T4 9223372036854775808 s=some true:=by
 unfold T4
 (try simp only [GD])
 by_cases hs:s.length≤4000
 ·rw [decide_eq_false (show¬ (4000:Int)<((s.length:Nat):Int)by omega)]
  simp only [auv];obtain⟨dec,hd⟩:=asF (n:=9223372036854775808) (by omega) (by omega)
  obtain⟨Z,ad⟩:=asG (n:=9223372036854775808) (by omega) (by omega) hs (dec:=dec) λdU ae=>(hd dU ae).2.2.1
  rw [asC (by omega) (by omega) hs (dec:=dec) (λdU ae=>⟨(hd dU ae).1,(hd dU ae).2.2.2⟩),al,asD (by omega) (by omega) hs (dec:=dec) (λdU ae=>⟨(hd dU ae).2.1,(hd dU ae).2.2.2⟩),al]
  rw [show Au 9223372036854775808 _ _=some true from arL (by omega) (by omega) Z,al]
  simp only [auu];rw [Wf (by omega) (by omega) (by omega),al]
  simp only [aus,auu,afB,al]
 ·rw [decide_eq_true (show(4000:Int)<((s.length:Nat):Int)by omega)]
  simp only [auu,afB,al]
end Go.Ab.Y

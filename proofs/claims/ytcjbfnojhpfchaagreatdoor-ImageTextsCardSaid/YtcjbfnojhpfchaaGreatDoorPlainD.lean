/- The plain law: what the functions compute answers as the statement says. -/
import Derived.Test.YtcjbfnojhpfchaaGreatDoorPlainC
set_option linter.all false
namespace Go.Ab.Y
open Go Go.Ab Go.Proofs
def Rq(x:aR):(⟨x.dn,x.dd,x.Rows⟩:aR)=x:=rfl
def Rr(x:cD):(⟨x.Version,x.bb⟩:cD)=x:=rfl
def Rs(x:Request):(⟨x.Client,x.Seq,x.aZ,x.ao,x.fv,(⟨x.bW.fo,x.bW.Reads,x.bW.es⟩:gS)⟩:Request)=x:=rfl
def zO(x:cV):(⟨x.Pos,(⟨x.aR.dn,x.aR.dd,x.aR.Rows⟩:aR),x.eh,x.ea,(⟨x.Place.Version,x.Place.bb⟩:cD),x.bn,x.Queue,x.dT⟩:cV)=x:=rfl
def JJ(l:List aZ):Bool:=(allI l.length λi=>!(decide (lj (l.getD i default)=[])||decide (16384<(((lj (l.getD i default)).length:Nat):Int)))&&(!decide (0<(i:Int))||Op.bytesLess (l.getD (pv i) default).Name (l.getD i default).Name))&&decide (l.length≤16)
def ZB(l:List Request):Bool:=(allI l.length λi=>decide (wN (l.getD i default)=0))&&decide (l.length≤64)
def q5(r:cV):Bool:=((((((((decide (0≤r.Pos)&&decide (r.Pos≤1099511627776))&&Jt r.aR)&&decide (r.aR.dd=r.Pos))&&JJ r.eh)&&q1 r.ea)&&q0 r.Place)&&DR r.bn)&&ZB r.Queue)
structure D3(n:Nat)(r:cV):Prop where
 st:Ju n r.aR
 JK:r.eh.length<n
 o6:∀i,q4 (r.eh.getD i default)
 D4:r.ea.length<n
 pY:∀i,uj n (r.ea.getD i default)
 pl:r.Place.bb.length<n
 Rt:∀i,zH (r.Place.bb.getD i default)
 aB:r.bn.length<n
 kX:∀i,(r.bn.getD i default).Key.length≤1000
 ol:r.Queue.length<n
 JL:∀i,ui n (r.Queue.getD i default)
def ZC:q4 default:=by
 refine⟨⟨by show([]:ano).length≤_;simp,by show([]:List Param).length≤_;simp,λi hi=>by exact absurd hi (by show¬ i<([]:List Param).length;simp),trivial⟩,by show([]:ano).length≤_;simp,by show fw []≤_;simp [fw],by show di []≤_;simp [di]⟩
section
variable {n:Nat} (hn:3000000≤n) (aU:n≤1000000000)
include hn aU
theorem akS{l:List aZ}(ab:l.length<n)(h:∀i,q4 (l.getD i default)):Gz n l=some (JJ l):=by
 unfold Gz JJ;rw [mf (L:=yb n l) (chk:=λi=>!(decide (lj (l.getD i default)=[])||decide (16384<(((lj (l.getD i default)).length:Nat):Int)))&&(!decide (0<(i:Int))||Op.bytesLess (l.getD (pv i) default).Name (l.getD i default).Name)) (no:=false) (yes:=true) ab,qZ]
 ·simp only [f'];by_cases ak:l.length≤16
  ·simp only [ak,show¬ 16<l.length by omega,am8,am9,am_,Bool.and_true]
  ·simp only [ak,show 16<l.length by omega,am8,am9,am',Bool.and_false]
 ·intro m i hi;simp only [yb,Gy,ang,hi,am8,am',b3 hi,aM,ai,anf,bg (show i≤4611686018427387904 by omega),Rp (h i) hn,pW hi (show l.length≤1000000000 by omega)]
  exact mL (by simp only [eo,eT,Bool.not_and,Bool.not_or,Bool.not_not,←zD])
 ·intro m;simp only [yb,Gy,M5,ank,am9,am_]
theorem JM(x y:Int):decide (x<y) = !decide (y≤x):=by
 by_cases h:y≤x
 ·rw [decide_eq_true h,decide_eq_false (by omega)];rfl
 ·rw [decide_eq_false h,decide_eq_true (by omega)];rfl
theorem ZD{r:cV}(h:D3 n r):rM n r=some (q5 r):=by
 have e1:vC n r n 0=some (if(allI r.Queue.length λi=>decide (wN (r.Queue.getD i default)=0)) then((q1 r.ea&&q0 r.Place)&&DR r.bn)else false):=by
  refine mf (L:=vC n r) h.ol ?_ ?_
  ·intro m i hi;simp only [vC,GE,ang,hi,am8,am',b3 hi,aM,anf,bg (show i≤4611686018427387904 by have:=h.ol;omega)]
   rw [Q4 (by omega) aU (h.JL i),ai]
   exact mL rfl
  ·intro m;simp only [vC,GE,Nc,ank,am9,am_];rw [Q8 (by omega) aU h.D4 h.pY,Zg (by omega) aU h.pl h.Rt,aj6 (by omega) aU h.aB]
   simp only [ai,uh,eT];cases q1 r.ea<;>cases q0 r.Place<;>rfl
 unfold rM;rw [e1,Zl (by omega) aU h.st,akS hn aU h.JK h.o6]
 simp only [ai,uh,eo,eT,f'];unfold q5 ZB;rw [show decide (r.Pos<0) = !decide (0≤r.Pos)from JM hn aU _ _,show decide (1099511627776<r.Pos) = !decide (r.Pos≤1099511627776)from JM hn aU _ _]
 by_cases ak:r.Queue.length≤64
 ·simp only [ak,show¬ 64<r.Queue.length by omega,am8,am9,Bool.and_true,Bool.or_false,zF]
  cases decide (0≤r.Pos)<;>cases decide (r.Pos≤1099511627776)<;>cases Jt r.aR<;>cases decide (r.aR.dd=r.Pos)<;>cases JJ r.eh<;>cases q1 r.ea<;>cases q0 r.Place<;>cases DR r.bn<;>simp
 ·simp only [ak,show 64<r.Queue.length by omega,am8,am9,Bool.and_false,anl,am']
omit hn aU in
theorem q6{L:Nat→Int→ans}{len:Nat}{m:Nat}(hm:len<m)(step:∀m i,i<len→L (m+1) (i:Int)=L m ((i+1:Nat):Int))(stop:∀m,L (m+1) (len:Int)=some true):L m 0=some true:=by
 have:=mf (chk:=λ_=>true) (no:=false) (yes:=true) hm (λm i hi=>by rw [step m i hi,if_pos rfl]) stop
 rw [this,qZ]
 congr 1
 rw [zE];exact λ_ _=>rfl
theorem akT{s:aR}(h:Ju n s):Hw n s s=some true:=by
 have Z:=h.rows;unfold Hw;simp only [am8,ana,am_];refine q6 (L:=tv n s s) Z (λm i hi=>?_) (λm=>?_)
 ·have aa:=(h.row i).Zk;simp only [tv,Hv,ang,hi,am8,am',b3 hi,aM,anf,ana,am_]
  have:=aj_ (L:=yI n (tv n s s m) (i:Int) s s) (len:=(s.Rows.getD i default).cU.length) (chk:=λ_=>true) (no:=false) (yes:=tv n s s m ((i+1:Nat):Int)) (m:=n) aa (λakU k hk=>by
   simp only [yI,Hu,ang,anf,hk,am8,am',b3 hk,aM,Bool.and_self,ana,am_,anm,bg (show k≤4611686018427387904 by omega)]) (λakU=>by
   simp only [yI,Hu,N9,anf,ank,am9,am_,bg (show i≤4611686018427387904 by omega)])
  rw [this,if_pos];rw [zE];exact λ_ _=>rfl
 ·simp only [tv,Hv,N8,ank,am9,am_]
theorem akV{l:List aZ}(ab:l.length<n)(h:∀i,q4 (l.getD i default)):Ht n l l=some true:=by
 unfold Ht;simp only [am8,ana,am_];refine q6 (L:=yH n l l) ab (λm i hi=>?_) (λm=>?_)
 ·have Z:=h i;have aa:=Z.f;have aj:=Z.b;have aD:=ww (l.getD i default).Params;simp only [yH,Hs,ang,hi,am8,am',b3 hi,aM,anf,ah8 (n:=n) (l.getD i default) (by omega) (by omega) (by omega) (by omega),ai,ana,am_,bg (show i≤4611686018427387904 by omega)]
 ·simp only [yH,Hs,N7,ank,am9,am_]
theorem akW{o:Outcome}(h:DV n o):CC n o o=some true:=by
 have Z:=h.out;unfold CC;simp only [am8,ana,am_];refine q6 (L:=yN n o o) Z (λm i hi=>?_) (λm=>?_)
 ·simp only [yN,HE,ang,hi,am8,am',b3 hi,aM,anf,Bool.and_self,ana,am_,bg (show i≤4611686018427387904 by omega)]
 ·simp only [yN,HE,Od,ank,am9,am_]
theorem akX{s:bY}(h:uj n s):HG n s.cM s.cM=some true:=by
 have Z:=h.rep;unfold HG;simp only [am8,ana,am_];refine q6 (L:=yO n s.cM s.cM) Z (λm i hi=>?_) (λm=>?_)
 ·have:=akW hn aU (h.out i)
  simp only [yO,HF,Oe,ang,hi,am8,am',b3 hi,aM,anf];rw [show CC n ⟨(s.cM.getD i default).Outcome.Status,(s.cM.getD i default).Outcome.Code,(s.cM.getD i default).Outcome.Out⟩ ⟨(s.cM.getD i default).Outcome.Status,(s.cM.getD i default).Outcome.Code,(s.cM.getD i default).Outcome.Out⟩=some true from this]
  simp only [ai,am',ana,am_,bg (show i≤4611686018427387904 by omega)]
 ·simp only [yO,HF,Of,ank,am9,am_]
theorem akY{l:List bY}(ab:l.length<n)(h:∀i,uj n (l.getD i default)):HI n l l=some true:=by
 unfold HI;simp only [am8,ana,am_];refine q6 (L:=yP n l l) ab (λm i hi=>?_) (λm=>?_)
 ·simp only [yP,HH,ang,hi,am8,am',b3 hi,aM,anf,akX hn aU (h i),ai,ana,anb,am_,Bool.false_or,bg (show i≤4611686018427387904 by omega)]
 ·simp only [yP,HH,Og,ank,am9,am_]
theorem akZ{p:cD}(ab:p.bb.length<n):Hy n p p=some true:=by
 unfold Hy;simp only [am8,ana,am_];refine q6 (L:=yJ n p p) ab (λm i hi=>?_) (λm=>?_)
 ·simp only [yJ,Hx,ang,hi,am8,am',b3 hi,aM,anf,Bool.and_self,ana,am_,bg (show i≤4611686018427387904 by omega)]
 ·simp only [yJ,Hx,N',ank,am9,am_]
theorem ak0{l:List bn}(ab:l.length<n):HA n l l=some true:=by
 unfold HA;simp only [am8,ana,am_];refine q6 (L:=yK n l l) ab (λm i hi=>?_) (λm=>?_)
 ·simp only [yK,Hz,ang,hi,am8,am',b3 hi,aM,anf,Bool.and_self,ana,am_,bg (show i≤4611686018427387904 by omega)]
 ·simp only [yK,Hz,N_,ank,am9,am_]
theorem ZE{l:jD}(ab:l.length<n):CB n l l=some true:=by
 unfold CB;simp only [am8,ana,am_];refine q6 (L:=yL n l l) ab (λm i hi=>?_) (λm=>?_)
 ·simp only [yL,HB,ang,hi,am8,am',b3 hi,aM,anf,ana,am_,bg (show i≤4611686018427387904 by omega)]
 ·simp only [yL,HB,Oa,ank,am9,am_]
theorem ak1{r:Request}(h:ui n r):HD n r r=some true:=by
 have Z:=h.args;unfold HD Ob;rw [ZE hn aU h.Q2,ZE hn aU h.Q3];simp only [am8,ana,am_,beq_self_eq_true,anb,am',ai];refine q6 (L:=yM n r r) Z (λm i hi=>?_) (λm=>?_)
 ·simp only [yM,HC,ang,hi,am8,am',b3 hi,aM,anf,Bool.and_self,ana,am_,bg (show i≤4611686018427387904 by omega)]
 ·simp only [yM,HC,Oc,ank,am9,am_]
theorem ak2{r:cV}(h:D3 n r):vU n r r=some true:=by
 have Z:=h.ol;unfold vU;rw [akT hn aU h.st,akV hn aU h.JK h.o6,akY hn aU h.D4 h.pY,akZ hn aU h.pl,ak0 hn aU h.aB];simp only [am8,ana,anb,am_,am',ai];refine q6 (L:=yQ n r r) Z (λm i hi=>?_) (λm=>?_)
 ·simp only [yQ,HJ,ang,hi,am8,am',b3 hi,aM,anf,ak1 hn aU (h.JL i),ai,ana,am_,bg (show i≤4611686018427387904 by omega)]
 ·simp only [yQ,HJ,Oh,ank,am9,am_]
end
abbrev pZ:=Int×List bC×jD×List bY×cD×List bn×List Request×Int
def zP:dV pZ:=dx ir λ_=>dx zK λ_=>dx Rm λ_=>dx ur λ_=>dx un λ_=>dx wW λ_=>dx o5 λ_=>hX
def p0(p:pZ):ano:=mJ p.1++(dE lM p.2.1++(dE fV p.2.2.1++(dE mg p.2.2.2.1++(o4 p.2.2.2.2.1++(dE oj p.2.2.2.2.2.1++(dE kw p.2.2.2.2.2.2.1++iV p.2.2.2.2.2.2.2))))))
structure D5(p:pZ):Prop where
 pos:h8 p.1
 o6:(p.2.1.length≤2147483647∧∀v∈p.2.1,ss v)∧o3 p.2.1=true
 src:p.2.2.1.length≤16∧∀s∈p.2.2.1,s.length≤16384
 pY:(p.2.2.2.1.length≤32∧∀v∈p.2.2.2.1,uq v)∧q1 p.2.2.2.1=true
 zQ:(h8 p.2.2.2.2.1.Version∧p.2.2.2.2.1.bb.length≤16∧∀v∈p.2.2.2.2.1.bb,su v)∧q0 p.2.2.2.2.1=true
 aB:p.2.2.2.2.2.1.length≤32∧∀h∈p.2.2.2.2.2.1,h.Key.length≤24∧h8 h.Count
 ol:p.2.2.2.2.2.2.1.length≤64∧∀v∈p.2.2.2.2.2.2.1,pX v∧wU v=true
 ZF:hD p.2.2.2.2.2.2.2
def D6:dM zP p0 D5:=
 (kv.dep λ_ _=>Jv.dep λ_ _=>aky.dep λ_ _=>JC.dep λ_ _=>Jw.dep λ_ _=>akx.dep λ_ _=>JF.dep λ_ _=>md).as _ _
  (λv=>⟨λh=>⟨h.pos,h.o6,h.src,h.pY,h.zQ,h.aB,h.ol,h.ZF⟩,λh=>⟨h.1,h.2.1,h.2.2.1,h.2.2.2.1,h.2.2.2.2.1,h.2.2.2.2.2.1,h.2.2.2.2.2.2.1,h.2.2.2.2.2.2.2⟩⟩) (λv _=>rfl)
def ak3{k:Nat}{t:ano}{e:Int}(h:pV k t = .error e):e≠0:=by
 unfold pV fr at h;cases aa:iG k t with
 |error f=>rw [aa]at h;cases h;exact oh aa
 |ok r=>rw [aa]at h;cases h
def hE{α:Type}(z:α)(s:ano)(a:Int):Except Int (α×ano)→α×Int×Int
 |.ok (v,t)=>(v,a_ s t,0)
 |.error e=>(z,a,e)
section
variable {n:Nat} (hn:3000000≤n) (aU:n≤1000000000) {s:ano} (hs:s.length<n)
theorem uu{α:Type}{z:α}{D:dV α}{t:ano}{a:Int}(h0:∀e,D t = .error e→e≠0):(bif (!decide ((res z s (D t)).2.2=0))then some (z,a,(res z s (D t)).2.2)else some ((res z s (D t)).1,(res z s (D t)).2.1,(res z s (D t)).2.2))=some (hE z s a (D t)):=by
 cases h:D t with
 |error e=>rw [fg];simp only [gd (h0 e h),am'];rfl
 |ok r=>obtain⟨v,bE⟩:=r;rfl
theorem ak4{a e:Int}(he:e≠0):vM n ⟨s,a,e⟩=some (0,a,e):=by unfold vM;simp only [gd he,am']
theorem ak5{a e:Int}(he:e≠0):yj n ⟨s,a,e⟩=some ([],a,e):=by unfold yj;simp only [gd he,am']
theorem D7{p a e:Int}(he:e≠0):vL n p ⟨s,a,e⟩=some (0,a,e):=by unfold vL;simp only [gd he,am']
theorem ak6{a e:Int}(he:e≠0):yv n ⟨s,a,e⟩=some ([],a,e):=by unfold yv;simp only [gd he,am']
theorem ZG{a e:Int}(he:e≠0):yl n ⟨s,a,e⟩=some (⟨0,[]⟩,a,e):=by unfold yl;simp only [gd he,am']
theorem ak7{a e:Int}(he:e≠0):yr n ⟨s,a,e⟩=some ([],a,e):=by unfold yr;simp only [gd he,am']
theorem ZH{a e:Int}(he:e≠0):yw n ⟨s,a,e⟩=some (0,a,e):=by unfold yw;simp only [gd he,am']
include hn aU hs
theorem ZI{t:ano}(aB:t <:+ s):vM n ⟨s,a_ s t,0⟩=some (hE 0 s (a_ s t) (ir t)):=by
 unfold vM;simp only [am8,ana,am_];rw [QZ aB (by omega) (by omega),ai];exact uu (λe h=>kv.cv _ _ h)
theorem ak8{t:ano}(aB:t <:+ s):yj n ⟨s,a_ s t,0⟩=some (hE [] s (a_ s t) (zK t)):=by
 unfold yj;simp only [am8,ana,am_];rw [akm (by omega) aU hs aB,ai];exact uu (λe h=>Jv.cv _ _ h)
theorem ZJ{k:Nat}(hk:k≤1000){t:ano}(aB:t <:+ s):vL n (k:Int) ⟨s,a_ s t,0⟩=some (hE 0 s (a_ s t) (pV k t)):=by
 unfold vL Nm;simp only [am8,ana,am_];rw [uf aB (by omega) (by omega) (by omega),ai,ai];exact uu (λe h=>ak3 h)
theorem ZK{k:Nat}(hk:k≤20000){t:ano}(aB:t <:+ s):B2 n (k:Int) ⟨s,a_ s t,0⟩=some (hE [] s (a_ s t) (fz k t)):=by
 unfold B2 Nn;simp only [am8,ana,am_];rw [DP aB (by omega) (by omega) (by omega),ai,ai];exact uu (λe h=>(zA k (by omega)).cv _ _ h)
theorem ak9{t:ano}(aB:t <:+ s):yv n ⟨s,a_ s t,0⟩=some (hE [] s (a_ s t) (ur t)):=by
 unfold yv;simp only [am8,ana,am_];rw [aku (by omega) aU hs aB,ai];exact uu (λe h=>JC.cv _ _ h)
theorem ak'{t:ano}(aB:t <:+ s):yl n ⟨s,a_ s t,0⟩=some (hE ⟨0,[]⟩ s (a_ s t) (un t)):=by
 unfold yl;simp only [am8,ana,am_];rw [akp (by omega) aU hs aB,ai];exact uu (λe h=>Jw.cv _ _ h)
theorem ak_{t:ano}(aB:t <:+ s):yr n ⟨s,a_ s t,0⟩=some (hE [] s (a_ s t) (o5 t)):=by
 unfold yr;simp only [am8,ana,am_];rw [akJ (by omega) aU hs aB,ai];exact uu (λe h=>JF.cv _ _ h)
theorem ala{t:ano}(aB:t <:+ s):yw n ⟨s,a_ s t,0⟩=some (hE 0 s (a_ s t) (hX t)):=by
 unfold yw;simp only [am8,ana,am_];rw [zC aB (by omega) (by omega),ai];exact uu (λe h=>md.cv _ _ h)
theorem alb{b:eX}(hb:b.s=s){r1 r26 r27 r2 v25}{a e:Int}{l:List bn}(he:e≠0):li e (tj n b r1 r26 r27 r2 v25 a e l):=by
 unfold tj;rw [ak7 he,ai,ZH he,ai];exact⟨_,_,rfl⟩
theorem zR{b:eX}(hb:b.s=s){r1 r26 r27 r2 v25}{a e c:Int}{l:List bn}{m:Nat}(he:e≠0):li e (qA n b r1 r26 r27 r2 v25 (m+1) a e l c):=by
 have ru:decide (e=0)=false:=decide_eq_false he;simp only [qA,B4,ru,eT,Bool.and_false,am_];exact alb hn aU hs hb he
theorem alc{b:eX}(hb:b.s=s){r1 r2}{a e:Int}{l:jD}(he:e≠0):li e (tk n b r1 r2 a e l):=by
 unfold tk ye;rw [ak6 he,ai,ZG he,ai,ai,D7 he,ai];obtain⟨m,rfl⟩:∃j,n=j+1:=⟨n-1,by omega⟩
 exact zR hn aU hs hb he
theorem JN{b:eX}(hb:b.s=s){r1 r2}{a e c:Int}{l:jD}{m:Nat}(he:e≠0):li e (tl n b r1 r2 (m+1) a e l c):=by
 have ru:decide (e=0)=false:=decide_eq_false he;simp only [tl,B5,ru,eT,Bool.and_false,am_];exact alc hn aU hs hb he
theorem ald{b:eX}(hb:b.s=s){r1:Int×Int×Int}{r26:List bY×Int×Int}{r27:cD×Int×Int}{r2:List bC×Int×Int}{v25:jD}{l:List bn}{t:ano}(aB:t <:+ s):
 match dx o5 (λ_=>hX) t with|.ok (p,bE)=>tj n b r1 r26 r27 r2 v25 (a_ s t) 0 l=some (⟨⟨r1.1,⟨0,0,[]⟩,[],r26.1,r27.1,l,p.1,p.2⟩,r2.1,v25⟩,a_ s bE,0)|.error e=>li e (tj n b r1 r26 r27 r2 v25 (a_ s t) 0 l):=by
 unfold tj dx;rw [hb,ak_ hn aU hs aB,ai];cases g1:o5 t with
 |error e=>
  have he:=JF.cv _ _ g1;simp only [hE];rw [ZH he,ai];exact⟨_,_,rfl⟩
 |ok r=>
  obtain⟨f5,t1⟩:=r;have jY:=iH JF g1 aB;simp only [hE];rw [ala hn aU hs jY,ai];cases g2:hX t1 with
  |error e=>exact⟨_,_,rfl⟩
  |ok r=>rfl
theorem ale{b:eX}(hb:b.s=s){r1:Int×Int×Int}{r26:List bY×Int×Int}{r27:cD×Int×Int}{r2:List bC×Int×Int}{v25:jD}{u:Nat}(hu:u<n){t:ano}(aB:t <:+ s):
 match dx (gK (fr (λp=>(⟨p.1,p.2⟩:bn)) (dx (fz 24) λ_=>ir)) u) (λ_=>dx o5 (λ_=>hX)) t with|.ok (p,bE)=>qA n b r1 r26 r27 r2 v25 n (a_ s t) 0 [] (u:Int)=some (⟨⟨r1.1,⟨0,0,[]⟩,[],r26.1,r27.1,p.1,p.2.1,p.2.2⟩,r2.1,v25⟩,a_ s bE,0)|.error e=>li e (qA n b r1 r26 r27 r2 v25 n (a_ s t) 0 [] (u:Int)):=by
 have cT:=ul (L:=λm i t acc=>qA n b r1 r26 r27 r2 v25 m (a_ s t) 0 acc ((u-i:Nat):Int)) (f:=λ_ v=>v) (D:=fr (λp=>(⟨p.1,p.2⟩:bn)) (dx (fz 24) λ_=>ir)) (u:=u) (s:=s) (fin:=λacc t=>tj n b r1 r26 r27 r2 v25 (a_ s t) 0 acc) (bad:=λe x=>li e x) (λx v t hx=>Rl.kQ hx) (by
  intro m i t acc hm hi ha aB;have hc:(0:Int)<((u-i:Nat):Int):=by omega
  simp only [qA,B4,hc,am8,am',B3,ai];rw [hb,show(24:Int)=((24:Nat):Int)from rfl,ZK hn aU hs (by omega) aB,ai]
  have fZ:room (acc.length+1) 24=true:=lL (by omega)
  obtain⟨m,rfl⟩:∃j,m=j+1:=⟨m-1,by omega⟩
  unfold fr dx;cases g1:fz 24 t with
  |error e=>
   have he:=ny.cv _ _ g1;simp only [hE];rw [ak4 he,ai];simp only [ani,show(((24:Nat):Int)).toNat=24 from rfl,fZ,aM]
   exact zR hn aU hs hb he
  |ok r=>
   obtain⟨f5,t1⟩:=r;have jY:=iH ny g1 aB;simp only [hE];rw [ZI hn aU hs jY,ai];cases g2:ir t1 with
   |error e=>
    have he:=kv.cv _ _ g2;simp only [hE,ani,fZ,aM];exact zR hn aU hs hb he
   |ok r=>
    obtain⟨gt,t2⟩:=r;simp only [hE,ani,fZ,aM];rw [show anq (((u-i:Nat):Int)-1)=((u-(i+1):Nat):Int)by rw [wr]<;>omega]) (by
  intro m t acc ha aB;simp only [qA,B4,Nat.sub_self,show¬ (0:Int)<((0:Nat):Int)by omega,am9,am_]) u n 0 t [] (by omega) hu rfl aB
 simp only [Nat.sub_zero]at cT;unfold dx;cases ah:gK (fr (λp=>(⟨p.1,p.2⟩:bn)) (dx (fz 24) λ_=>ir)) u t with
 |error e=>unfold dx at ah;rw [ah];unfold dx at cT;rw [ah]at cT;exact cT
 |ok r=>
  obtain⟨l,mK⟩:=r;have Ru:=iH (Rl.rep u) ah aB;rw [ah]at cT;unfold dx at ah;rw [ah];simp only [List.nil_append,um]at cT ⊢;rw [cT];have hj:=ald hn aU hs hb (r1:=r1) (r26:=r26) (r27:=r27) (r2:=r2) (v25:=v25) (l:=l) Ru;unfold dx at hj;cases g:o5 mK with
  |error e=>rw [g]at hj;exact hj
  |ok r=>
   obtain⟨q,t1⟩:=r;rw [g]at hj;simp only at hj ⊢
   cases ew:hX t1 with
   |error e=>rw [ew]at hj;exact hj
   |ok r=>rw [ew]at hj;exact hj
end
def sw{α β:Type}{D:dV α}{k:α→dV β}{t:ano}{e:Int}(h:D t = .error e):dx D k t = .error e:=by unfold dx;rw [h]
def wY{α β:Type}{D:dV α}{k:α→dV β}{t bE:ano}{v:α}(h:D t = .ok (v,bE)):dx D k t=match k v bE with|.ok (w,u)=>.ok ((v,w),u)|.error e=>.error e:=by unfold dx;rw [h];rfl
def ZL{t:ano}:wW t=match iG 32 t with|.ok (u,t)=>gK (fr (λp=>(⟨p.1,p.2⟩:bn)) (dx (fz 24) λ_=>ir)) u t|.error e=>.error e:=rfl
abbrev tailD:dV (List bY×cD×List bn×List Request×Int):=dx ur λ_=>dx un λ_=>dx wW λ_=>dx o5 λ_=>hX
section
variable {n:Nat} (hn:3000000≤n) (aU:n≤1000000000) {s:ano} (hs:s.length<n)
include hn aU hs
theorem alf{b:eX}(hb:b.s=s){r1:Int×Int×Int}{r2:List bC×Int×Int}{v25:jD}{t:ano}(aB:t <:+ s):
 match tailD t with|.ok (p,bE)=>tk n b r1 r2 (a_ s t) 0 v25=some (⟨⟨r1.1,⟨0,0,[]⟩,[],p.1,p.2.1,p.2.2.1,p.2.2.2.1,p.2.2.2.2⟩,r2.1,v25⟩,a_ s bE,0)|.error e=>li e (tk n b r1 r2 (a_ s t) 0 v25):=by
 unfold tk ye tailD;obtain⟨q2,jJ⟩:∃j,n=j+1:=⟨n-1,by omega⟩
 rw [hb,ak9 hn aU hs aB,ai];cases g1:ur t with
 |error e=>
  have he:=JC.cv _ _ g1;rw [sw g1];simp only [hE];rw [ZG he,ai,ai,D7 he,ai];have:=zR hn aU hs hb (r1:=r1) (r26:=([],a_ s t,e)) (r27:=(⟨0,[]⟩,a_ s t,e)) (r2:=r2) (v25:=v25) (a:=a_ s t) (c:=0) (l:=[]) (m:=q2) he
  rw [←jJ]at this;exact this
 |ok r=>
  obtain⟨f5,t1⟩:=r;have jY:=iH JC g1 aB;rw [wY g1];simp only [hE];rw [ak' hn aU hs jY,ai,ai];cases g2:un t1 with
  |error e=>
   have he:=Jw.cv _ _ g2;rw [sw g2];simp only [hE];rw [D7 he,ai];have:=zR hn aU hs hb (r1:=r1) (r26:=(f5,a_ s t1,0)) (r27:=(⟨0,[]⟩,a_ s t1,e)) (r2:=r2) (v25:=v25) (a:=a_ s t1) (c:=0) (l:=[]) (m:=q2) he
   rw [←jJ]at this;exact this
  |ok r=>
   obtain⟨gt,t2⟩:=r;have jt:=iH Jw g2 jY;rw [wY g2];simp only [hE];rw [show(32:Int)=((32:Nat):Int)from rfl,ZJ hn aU hs (by omega) jt,ai]
   cases h:iG 32 t2 with
   |error e=>
    have he:=oh h;have bh:wW t2 = .error e:=by rw [ZL,h]
    rw [sw bh,qY h];simp only [hE];have:=zR hn aU hs hb (r1:=r1) (r26:=(f5,a_ s t1,0)) (r27:=(gt,a_ s t2,0)) (r2:=r2) (v25:=v25) (a:=a_ s t2) (c:=0) (l:=[]) (m:=q2) he
    rw [←jJ]at this;exact this
   |ok r=>
    obtain⟨u,bE⟩:=r;obtain⟨Z,aa,aj⟩:=o2 h;have ez:bE <:+ s:=List.IsSuffix.trans ⟨eD u,Z.symm⟩ jt;have hu:=ez.length_le;rw [qX h];simp only [hE];have cT:=ale hn aU hs hb (r1:=r1) (r26:=(f5,a_ s t1,0)) (r27:=(gt,a_ s t2,0)) (r2:=r2) (v25:=v25) (u:=u) (by omega) ez
    have bh:wW t2=gK (fr (λp=>(⟨p.1,p.2⟩:bn)) (dx (fz 24) λ_=>ir)) u bE:=by rw [ZL,h]
    cases ah:gK (fr (λp=>(⟨p.1,p.2⟩:bn)) (dx (fz 24) λ_=>ir)) u bE with
    |error e=>
     rw [sw ah]at cT;rw [ah]at bh;rw [sw bh];exact cT
    |ok r=>
     obtain⟨l,mK⟩:=r;rw [wY ah]at cT;rw [ah]at bh;rw [wY bh];cases g:dx o5 (λ_=>hX) mK with
     |error e=>rw [g]at cT;exact cT
     |ok r=>rw [g]at cT;exact cT
theorem ZM:match zP s with|.ok (p,bE)=>B6 n ⟨s,0,0⟩=some (⟨⟨p.1,⟨0,0,[]⟩,[],p.2.2.2.1,p.2.2.2.2.1,p.2.2.2.2.2.1,p.2.2.2.2.2.2.1,p.2.2.2.2.2.2.2⟩,p.2.1,p.2.2.1⟩,a_ s bE,0)|.error e=>li e (B6 n ⟨s,0,0⟩):=by
 unfold B6 ye zP;obtain⟨q2,jJ⟩:∃j,n=j+1:=⟨n-1,by omega⟩
 have hb:(⟨s,0,0⟩:eX).s=s:=rfl;have aB:s <:+ s:=List.suffix_refl s;rw [show(⟨s,0,0⟩:eX)=⟨s,a_ s s,0⟩by rw [ajH],ZI hn aU hs aB,ai]
 generalize cJ:(⟨s,a_ s s,0⟩:eX)=B
 have hb:B.s=s:=by rw [←cJ]
 rw [hb];cases g1:ir s with
 |error e=>
  have he:=kv.cv _ _ g1;rw [sw g1];simp only [hE];rw [ak5 he,ai,ai,D7 he,ai];have:=JN hn aU hs hb (r1:=(0,a_ s s,e)) (r2:=([],a_ s s,e)) (a:=a_ s s) (c:=0) (l:=[]) (m:=q2) he
  rw [←jJ]at this;exact this
 |ok r=>
  obtain⟨f5,t1⟩:=r;have jY:=iH kv g1 aB;rw [wY g1];simp only [hE];rw [ak8 hn aU hs jY,ai,ai];cases g2:zK t1 with
  |error e=>
   have he:=Jv.cv _ _ g2;rw [sw g2];simp only [hE];rw [D7 he,ai];have:=JN hn aU hs hb (r1:=(f5,a_ s t1,0)) (r2:=([],a_ s t1,e)) (a:=a_ s t1) (c:=0) (l:=[]) (m:=q2) he
   rw [←jJ]at this;exact this
  |ok r=>
   obtain⟨gt,t2⟩:=r;have jt:=iH Jv g2 jY;rw [wY g2];simp only [hE];rw [show(16:Int)=((16:Nat):Int)from rfl,ZJ hn aU hs (by omega) jt,ai]
   have iy:Rm t2=match iG 16 t2 with|.ok (u,t)=>gK (fz 16384) u t|.error e=>.error e:=rfl
   cases h:iG 16 t2 with
   |error e=>
    have he:=oh h;rw [h]at iy;rw [sw iy,qY h];simp only [hE];have:=JN hn aU hs hb (r1:=(f5,a_ s t1,0)) (r2:=(gt,a_ s t2,0)) (a:=a_ s t2) (c:=0) (l:=[]) (m:=q2) he
    rw [←jJ]at this;exact this
   |ok r=>
    obtain⟨u,bE⟩:=r;obtain⟨Z,aa,aj⟩:=o2 h;have ez:bE <:+ s:=List.IsSuffix.trans ⟨eD u,Z.symm⟩ jt;have hu:=ez.length_le;rw [h]at iy;rw [qX h];simp only [hE]
    have cT:=ul (L:=λm i t acc=>tl n B (f5,a_ s t1,0) (gt,a_ s t2,0) m (a_ s t) 0 acc ((u-i:Nat):Int)) (f:=λ_ v=>v) (D:=fz 16384) (u:=u) (s:=s) (fin:=λacc t=>tk n B (f5,a_ s t1,0) (gt,a_ s t2,0) (a_ s t) 0 acc) (bad:=λe x=>li e x) (λx v t hx=>JG.kQ hx) (by
     intro m i t acc hm hi ha aB;have hc:(0:Int)<((u-i:Nat):Int):=by omega
     simp only [tl,B5,hc,am8,am',B3,ai];rw [hb,show(16384:Int)=((16384:Nat):Int)from rfl,ZK hn aU hs (by omega) aB,ai]
     have fZ:room (acc.length+1) 16=true:=lL (by omega)
     obtain⟨m,rfl⟩:∃j,m=j+1:=⟨m-1,by omega⟩
     cases g1:fz 16384 t with
     |error e=>
      have he:=JG.cv _ _ g1;simp only [hE,ani,fZ,aM];exact JN hn aU hs hb he
     |ok r=>
      obtain⟨f5,t1⟩:=r;simp only [hE,ani,fZ,aM];rw [show anq (((u-i:Nat):Int)-1)=((u-(i+1):Nat):Int)by rw [wr]<;>omega]) (by
     intro m t acc ha aB;simp only [tl,B5,Nat.sub_self,show¬ (0:Int)<((0:Nat):Int)by omega,am9,am_]) u n 0 bE [] (by omega) (by omega) rfl ez
    simp only [Nat.sub_zero]at cT;cases ah:gK (fz 16384) u bE with
    |error e=>
     rw [ah]at cT;simp only at iy
     rw [ah]at iy;rw [sw iy];exact cT
    |ok r=>
     obtain⟨l,mK⟩:=r;have Ru:=iH (JG.rep u) ah ez;rw [ah]at cT;simp only at iy
     rw [ah]at iy;rw [wY iy];simp only [List.nil_append,um]at cT ⊢;rw [cT];have hj:=alf hn aU hs hb (r1:=(f5,a_ s t1,0)) (r2:=(gt,a_ s t2,0)) (v25:=l) Ru;unfold tailD at hj;cases g:(dx ur λ_=>dx un λ_=>dx wW λ_=>dx o5 λ_=>hX) mK with
     |error e=>rw [g]at hj;exact hj
     |ok r=>rw [g]at hj;exact hj
end
abbrev JO:cV:=⟨0,⟨0,0,[]⟩,[],[],⟨0,[]⟩,[],[],0⟩
def jZ(p:pZ)(l:List aZ):cV:=⟨p.1,jX p.2.1 p.1,l,p.2.2.2.1,p.2.2.2.2.1,p.2.2.2.2.2.1,p.2.2.2.2.2.2.1,p.2.2.2.2.2.2.2⟩
def alg(l:List bC)(a:Int)(i:Nat)(hi:i<l.length):((jX l a).Rows.getD i default)=⟨(l.getD i default).Key,[⟨a,(l.getD i default).b2⟩]⟩:=by
 unfold jX;simp [List.getD_eq_getElem?_getD,hi]
def alh{n:Nat}(hn:2000≤n){l:List bC}(ab:l.length<n)(h:∀p∈l,ss p)(a:Int):Ju n (jX l a):=by
 refine⟨by unfold jX;simpa using ab,λi=>?_⟩
 by_cases hi:i<l.length
 ·rw [alg l a i hi];have hp:=Zm (h _ (Q9 hi));refine⟨hp.1,by show 1<n;omega,λk=>?_⟩
  refine oi (P:=λv:Version=>v.b2.S.length≤1000) (λx hx=>?_) (by show([]:ano).length≤1000;simp) k
  rw [List.mem_singleton.1 hx];exact hp.2
 ·have:(jX l a).Rows.getD i default=default:=by
   unfold jX;rw [List.getD_eq_getElem?_getD,List.getElem?_eq_none (by simp;omega)];rfl
  rw [this];refine⟨by show([]:ano).length≤1000;simp,by show 0<n;omega,λk=>?_⟩
  show(([]:List Version).getD k default).b2.S.length≤1000
  simp [List.getD];show([]:ano).length≤1000
  simp
def ZN{n:Nat}(hn:2000≤n):ui n default:=D0 hn ⟨by show hD 0;unfold hD;omega,by show hD 0;unfold hD;omega,by show([]:ano).length≤16;simp,⟨by show([]:List br).length≤6;simp,λv am=>by cases am⟩,rfl,rfl⟩
def Rv{n:Nat}(hn:2000≤n){p:pZ}(h:D5 p)(hp:p.2.1.length<n){l:List aZ}(ab:l.length≤1000)(hg:∀q∈l,q3 q):D3 n (jZ p l) where
 st:=alh hn hp h.o6.1.2 p.1
 JK:=by show l.length<n;omega
 o6:=λi=>oi (P:=q4) (λx hx=>(hg x hx).e0) ZC i
 D4:=by have:=h.pY.1.1;show p.2.2.2.1.length<n;omega
 pY:=Rg hn h.pY.1.2
 pl:=by have:=h.zQ.1.2.1;show p.2.2.2.2.1.bb.length<n;omega
 Rt:=Rc h.zQ.1.2.2
 aB:=by have:=h.aB.1;show p.2.2.2.2.2.1.length<n;omega
 kX:=λi=>oi (P:=λx:bn=>x.Key.length≤1000) (λx hx=>by have:=(h.aB.2 x hx).1;omega) (by show([]:ano).length≤1000;simp) i
 ol:=by have:=h.ol.1;show p.2.2.2.2.2.2.1.length<n;omega
 JL:=λi=>oi (P:=ui n) (λx hx=>D0 hn (h.ol.2 x hx).1) (ZN hn) i
def ZO{α:Type}{E:α→ano}:∀{l:List α} {x:α},x∈l→(E x).length≤(iF E l).length
 |y::l,x,h=>by
  rw [zy,anh];rcases List.mem_cons.1 h with rfl|h
  ·omega
  ·have:=ZO (E:=E) h;omega
def ali{p:pZ}{x:ano}(h:x∈p.2.2.1):x.length≤(p0 p).length:=by
 have Z:=ZO (E:=fV) h;have aa:x.length≤(fV x).length:=by unfold fV;simp
 unfold p0 dE;simp only [anh];omega
def Rw{p:pZ}(h:D5 p):p.2.1.length≤(p0 p).length:=by
 have Z:=Jp (E:=lM) (l:=p.2.1) λv _=>by unfold lM fV;simp [pU]
 unfold p0;rw [show dE lM p.2.1=eD p.2.1.length++iF lM p.2.1 from rfl]
 simp only [anh];omega
def ZP{n:Nat}(hn:2000≤n):D3 n JO:=by
 have h0:∀{α:Type} (l:List α),l=[]→l.length<n:=λl h=>by rw [h];show 0<n;omega
 exact {
  st:=by
   refine⟨h0 _ rfl,λi=>⟨?_,?_,λk=>?_⟩⟩
   ·show([]:ano).length≤1000;simp
   ·exact h0 _ rfl
   ·show([]:ano).length≤1000;simp
  JK:=h0 _ rfl
  o6:=λi=>oi (P:=q4) (λx hx=>absurd hx (by show¬ x∈([]:List aZ);simp)) ZC i
  D4:=h0 _ rfl
  pY:=Rg hn (λx hx=>by cases hx)
  pl:=h0 _ rfl
  Rt:=Rc (λx hx=>by cases hx)
  aB:=h0 _ rfl
  kX:=λi=>by show([]:ano).length≤1000;simp
  ol:=h0 _ rfl
  JL:=λi=>oi (P:=ui n) (λx hx=>absurd hx (by show¬ x∈([]:List Request);simp)) (ZN hn) i}
def ZQ{s t:ano}(h:t <:+ s):(a_ s t=((s.length:Nat):Int))↔t=[]:=by
 have:=h.length_le
 unfold a_;constructor
 ·intro e;have:t.length=0:=by omega
  exact List.eq_nil_of_length_eq_zero this
 ·intro e;subst e;simp
def zS(p:pZ)(t:ano)(o:List aZ×Bool):cV×Int:=
 bif ((!decide (t=[]) || !(decide (0≤p.1)&&decide (p.1≤1099511627776))) || !o.2) || !q5 (jZ p o.1) then(JO,5) else(jZ p o.1,0)
section
variable {n:Nat} (hn:3000000≤n) (aU:n≤1000000000) {s:ano} (hs:s.length≤2000)
include hn aU hs
theorem alj{p:pZ}(hp:D5 p)(ab:p.2.1.length≤2000)(h0:(decide (0≤p.1)&&decide (p.1≤1099511627776))=true):Cw n p.2.1 p.1=some (jX p.2.1 p.1,0)∧OT n p.2.1 p.1=some (jX p.2.1 p.1,0):=by
 have e:zI p.2.1 p.1=(jX p.2.1 p.1,0):=by
  simp only [Bool.and_eq_true,decide_eq_true_eq]at h0;unfold zI;rw [hp.o6.2,decide_eq_false (show¬ p.1<0 by omega),decide_eq_false (show¬ 1099511627776<p.1 by omega)];rfl
 rw [akj (by omega) aU (by omega) (Ra hp.o6.1.2),akk (by omega) aU (by omega) (Ra hp.o6.1.2),e]
 exact⟨rfl,rfl⟩
theorem alk{p:pZ}{t:ano}(hd:zP s = .ok (p,t)){o:List aZ×Bool}(an:Hp n p.2.2.1=some o)(QJ:o.1.length≤1000)(hg:∀q∈o.1,q3 q):vS n s=some (zS p t o):=by
 have ah:=ZM hn aU (s:=s) (by omega)
 rw [hd]at ah;simp only at ah
 obtain⟨hc,hp⟩:=D6.fy _ _ _ hd;have ZR:=D6.kQ hd
 have hlen:p.2.1.length≤2000:=by
  have:=Rw hp;have aa:s.length=(p0 p).length+t.length:=by rw [hc];simp
  omega
 have cS:=Rv (n:=n) (by omega) hp (by omega) QJ hg
 unfold vS zS;rw [ah,ai]
 have e1:decide (a_ s t=((s.length:Nat):Int))=decide (t=[]):=by
  by_cases h:t=[]
  ·rw [decide_eq_true h,decide_eq_true ((ZQ ZR).2 h)]
  ·rw [decide_eq_false h,decide_eq_false (λg=>h ((ZQ ZR).1 g))]
 simp only [am8,ana,am_,eo];rw [e1,show decide (p.1<0) = !decide (0≤p.1)from JM hn aU _ _,show decide (1099511627776<p.1) = !decide (p.1≤1099511627776)from JM hn aU _ _]
 by_cases aB:t=[]
 ·rw [decide_eq_true aB];cases h0:decide (0≤p.1)&&decide (p.1≤1099511627776)
  ·have:(!true || !decide (0≤p.1) || !decide (p.1≤1099511627776))=true:=by
    cases Z:decide (0≤p.1)<;>cases aa:decide (p.1≤1099511627776)<;>rw [Z,aa]at h0<;>first|rfl|cases h0
   rw [this];rfl
  ·have:(!true || !decide (0≤p.1) || !decide (p.1≤1099511627776))=false:=by
    cases Z:decide (0≤p.1)<;>cases aa:decide (p.1≤1099511627776)<;>rw [Z,aa]at h0<;>first|rfl|cases h0
   rw [this,am_,an,ai,(alj hn aU hs hp hlen h0).1];cases amZ:o.2
   ·rfl
   ·simp only [ana,am_,ai,am8];refine(congrArg (λx=>Option.bind x _) (ZD hn aU cS)).trans ?_
    simp only [ai];cases q5 (jZ p o.1)<;>rfl
 ·rw [decide_eq_false aB];rfl
end
def alm:CD 10000000=some true:=by kernel_rfl
def q7{α R:Type}[Inhabited α]{l:List α}{E:α→ano}{B:Nat}{L:Nat→ano→Nat→Option R}{fin:ano→Option R}
 (hs:∀m i acc,i<l.length→acc.length+(E (l.getD i default)).length≤B→L (m+1) acc i=L m (acc++E (l.getD i default)) (i+1))
 (he:∀m acc,acc.length≤B→L (m+1) acc l.length=fin acc):
 ∀m i acc,l.length<m+i→i≤l.length→acc.length+(iF E (l.drop i)).length≤B→L m acc i=fin (acc++iF E (l.drop i)):=by
 intro m;induction m with
 |zero=>intro i acc Z aa;omega
 |succ m aF=>
  intro i acc Z aa aj;by_cases hi:i<l.length
  ·rw [eS l i default hi,zy]at aj ⊢;rw [anh]at aj;rw [hs m i acc hi (by omega),aF (i+1) _ (by omega) (by omega) (by rw [anh];omega),List.append_assoc]
  ·obtain rfl:i=l.length:=by omega
   rw [gi l _ hi,ajF]at aj ⊢;rw [he m acc (by simpa using aj),List.append_nil]
def zT{n:Nat}(hn:10≤n){z:Int}(h:hD z):hf n (IntKind.u64.wrap z)=some (iV z):=by
 obtain⟨Z,aa⟩:=h;have e:IntKind.u64.wrap z=((z.toNat:Nat):Int):=by rw [IntKind.wrap_u64];omega
 rw [e];exact uc hn (by omega)
def sx{n:Nat}(hn:10≤n){k:Nat}(h:k<18446744073709551616):hf n (IntKind.u64.wrap (k:Int))=some (eD k):=by
 rw [qT h];exact uc hn h
def lk{n:Nat}{s t:ano}(h:t.length+s.length≤1000000):jQ n s (gE t)=some (((s.length:Nat):Int),gE (t++s)):=by
 unfold jQ x1;simp only [ai,Jh,QG (show t.length+s.length≤140737488355328 by omega),aM]
 rw [QD];rfl
def Rx{n:Nat}{t:ano}(h:t.length≤1000000):rJ n (gE t)=some (t,gE t):=by
 unfold rJ;simp only [QC,QB,Jh,show t.length≤9223372036854775807 by omega,am8,Bool.and_self,aM]
def q8{α:Type}[Inhabited α]{P:α→Prop}{l:List α}(h:∀x∈l,P x){i:Nat}(hi:i<l.length):P (l.getD i default):=by
 rw [List.getD_eq_getElem?_getD,List.getElem?_eq_getElem hi];exact h _ (List.getElem_mem hi)
def aln{n:Nat}(hn:2000≤n){l:List bC}(ab:l.length<n)(h:∀p∈l,ss p)(cJ:(dE lM l).length≤100000):Gr n l=some (dE lM l):=by
 have hlen:l.length≤(iF lM l).length:=Jp λv _=>by unfold lM fV;simp [pU]
 unfold dE at cJ ⊢;rw [anh]at cJ
 have key:=q7 (l:=l) (E:=lM) (B:=200000) (L:=λm acc i=>x8 n l m (gE acc) (i:Int)) (fin:=λacc=>some acc)
  (λm i acc hi hb=>by
   obtain⟨Z,aa⟩:=q8 h hi;have aj:=uk aa;unfold lM at hb ⊢;rw [anh]at hb;simp only [x8,Gq,hi,b3 hi,anf,ang,am8,am',aM,bg (show i≤4611686018427387904 by omega)]
   rw [ud (by omega) (by omega),ai,lk (by omega),ai,
    show vn n (⟨((l.getD i default).b2).Kind,((l.getD i default).b2).N,((l.getD i default).b2).S⟩:br)=_ from QL (v:=(l.getD i default).b2) (by omega) aa.2 (by omega),ai,
    lk (by rw [anh];omega),ai,List.append_assoc])
  (λm acc ha=>by
   simp only [x8,Gq,ang,Nat.lt_irrefl,am9,am_,M3];rw [Rx (by omega),ai])
 unfold Gr;rw [sx (by omega) (by omega),ai,QE,lk (by simp;omega),ai]
 exact key n 0 _ (by omega) (by omega) (by simp;omega)
def alo{n:Nat}(hn:2000≤n){p:cD}(h0:h8 p.Version)(ab:p.bb.length≤16)(h:∀x∈p.bb,su x)(cJ:(o4 p).length≤100000):Bn n p=some (o4 p):=by
 have am:=Ji h0;unfold o4 dE at cJ ⊢;simp only [anh]at cJ
 have key:=q7 (l:=p.bb) (E:=wP) (B:=200000) (L:=λm acc i=>xT n p m (i:Int) acc) (fin:=λacc=>some acc)
  (λm i acc hi hb=>by
   obtain⟨Z,aa,aj,aD,aV⟩:=q8 h hi;unfold wP at hb ⊢;simp only [anh]at hb;simp only [xT,FQ,hi,b3 hi,anf,ang,am8,am',aM,bg (show i≤4611686018427387904 by omega)]
   rw [wG (by omega) Z,ai,ud (by omega) (by omega),ai,wG (by omega) aj,ai,wG (by omega) aD,ai,ud (by omega) (by omega),ai]
   simp (disch:=omega) only [List.length_append,gc,aM,List.append_assoc])
  (λm acc ha=>by simp only [xT,FQ,ang,Nat.lt_irrefl,am9,am_,Me])
 unfold Bn;rw [wG (by omega) h0,ai,sx (by omega) (by omega),ai,gc (by omega),aM,←List.append_assoc]
 exact key n 0 _ (by omega) (by omega) (by simp only [anh,List.drop_zero];omega)
def ZS{n:Nat}(hn:2000≤n){l:jD}(ab:l.length≤64)(h:∀x∈l,x.length≤24)(cJ:(dE fV l).length≤100000):Bh n l=some (dE fV l):=by
 unfold dE at cJ ⊢;simp only [anh]at cJ
 have key:=q7 (l:=l) (E:=fV) (B:=200000) (L:=λm acc i=>xN n l m (i:Int) acc) (fin:=λacc=>some acc)
  (λm i acc hi hb=>by
   have Z:=q8 h hi;simp only [xN,FG,hi,b3 hi,anf,ang,am8,am',aM,bg (show i≤4611686018427387904 by omega)]
   rw [ud (by omega) (by omega),ai]
   simp (disch:=omega) only [gc,aM])
  (λm acc ha=>by simp only [xN,FG,ang,Nat.lt_irrefl,am9,am_,L6])
 unfold Bh;rw [sx (by omega) (by omega),ai]
 exact key n 0 _ (by omega) (by omega) (by rw [List.drop_zero];omega)
def wZ{z:Int}(h:hD z):(iV z).length≤10:=nv (by obtain⟨Z,aa⟩:=h;omega)
def alp{o:Outcome}(h:sv o):hD o.Status∧hD o.Code:=⟨⟨h.1.1,by have:=h.1.2;omega⟩,⟨h.2.1.1,by have:=h.2.1.2;omega⟩⟩
def ZT{α β:Type}(E:β→ano)(f:α→β)(l:List α):iF E (l.map f)=iF (λx=>E (f x)) l:=by
 unfold iF;rw [List.map_map];rfl
section
variable {n:Nat} (hn:2000≤n)
include hn
theorem alq(gB al:List Int→Int→Option ano)(l:List bY)(i j:Nat)(hj:j≤4611686018427387904)(an:sv ((((l.getD i default).cM).getD j default).Outcome))(acc:ano)
 (cJ:acc.length+(iF cO ((((l.getD i default).cM).getD j default).Outcome.Out)).length≤200000):
 vx n gB al l (i:Int) (j:Int) n (gE acc) 0=gB (gE (acc++iF cO ((((l.getD i default).cM).getD j default).Outcome.Out))) ((j+1:Nat):Int):=by
 have ab:=an.2.2.1
 have key:=q7 (l:=(((l.getD i default).cM).getD j default).Outcome.Out) (E:=cO) (B:=200000) (L:=λm acc k=>vx n gB al l (i:Int) (j:Int) m (gE acc) (k:Int)) (fin:=λacc=>gB (gE acc) ((j+1:Nat):Int))
  (λm k acc hk hb=>by
   have aa:=q8 an.2.2.2 hk;have aj:=uk aa;simp only [vx,Gl,anf,hk,b3 hk,ang,am8,am',aM,bg (show k≤4611686018427387904 by omega)]
   rw [QL (by omega) aa.2 (by omega),ai,lk (by omega),ai])
  (λm acc ha=>by
   simp only [vx,Gl,anf,ang,Nat.lt_irrefl,am9,am_,MZ,bg hj])
 have:=key n 0 acc (by omega) (by omega) (by rw [List.drop_zero];exact cJ)
 rw [List.drop_zero]at this;exact this
theorem alr(al:List Int→Int→Option ano)(l:List bY)(i:Nat)(hi:i≤4611686018427387904)(ab:(l.getD i default).cM.length≤1000)(an:∀r∈(l.getD i default).cM,sv r.Outcome)(acc:ano)
 (cJ:acc.length+(iF (λr:eK=>wR r.Outcome) (l.getD i default).cM).length≤200000):
 vz n al l (i:Int) n (gE acc) 0=al (gE (acc++iF (λr:eK=>wR r.Outcome) (l.getD i default).cM)) ((i+1:Nat):Int):=by
 have key:=q7 (l:=(l.getD i default).cM) (E:=λr:eK=>wR r.Outcome) (B:=200000) (L:=λm acc j=>vz n al l (i:Int) m (gE acc) (j:Int)) (fin:=λacc=>al (gE acc) ((i+1:Nat):Int))
  (λm j acc hj hb=>by
   have aa:=q8 (P:=λr:eK=>sv r.Outcome) an hj
   obtain⟨aj,aD⟩:=alp aa;have aV:=aa.2.2.1;have g':=wZ aj;have jK:=wZ aD;have am0:=nv (u:=(((l.getD i default).cM).getD j default).Outcome.Out.length) (by omega)
   unfold wR dE at hb ⊢;simp only [anh]at hb;simp only [vz,Gm,anf,hj,b3 hj,ang,am8,am',aM]
   rw [zT (by omega) aj,ai,zT (by omega) aD,ai,gc (by omega),aM,sx (by omega) (by omega),ai,gc (by rw [anh];omega),aM,
    lk (by simp only [anh];omega),ai]
   refine(alq hn _ al l i j (by omega) aa _ (by simp only [anh];omega)).trans ?_
   simp only [List.append_assoc])
  (λm acc ha=>by
   simp only [vz,Gm,anf,ang,Nat.lt_irrefl,am9,am_,MY,bg hi])
 have:=key n 0 acc (by omega) (by omega) (by rw [List.drop_zero];exact cJ)
 rw [List.drop_zero]at this;exact this
theorem als{l:List bY}(am:tb n l=some true)(ab:l.length≤32)(h:∀s∈l,uq s)(cJ:(dE mg l).length≤100000):BI n l=some (dE mg l):=by
 unfold dE at cJ ⊢;simp only [anh]at cJ
 have key:=q7 (l:=l) (E:=mg) (B:=200000) (L:=λm acc i=>x7 n l m (gE acc) (i:Int)) (fin:=λacc=>some acc)
  (λm i acc hi hb=>by
   have aa:=q8 h hi;obtain⟨⟨c1,c2⟩,⟨d1,d2⟩,aV,bP,dF⟩:=aa;have db:hD (l.getD i default).Client:=⟨by omega,by omega⟩
   have al:hD (l.getD i default).Next:=⟨by omega,by omega⟩
   have g':=wZ db;have jK:=wZ al;have hk:=Rf ⟨d1,d2⟩;have ah:(l.getD i default).cM.length≤1000:=by rw [List.length_map]at bP;omega
   have an:∀r∈(l.getD i default).cM,sv r.Outcome:=λr ah=>dF _ (List.mem_map_of_mem ah)
   unfold mg at hb ⊢;rw [ZT]at hb ⊢;simp only [anh]at hb;simp only [x7,Gp,anf,hi,b3 hi,ang,am8,am',aM];rw [zT (by omega) db,ai,zT (by omega) al,ai,gc (by omega),aM,lk (by simp only [anh];omega),ai]
   refine(alr hn _ l i (by omega) ah an _ (by simp only [anh];omega)).trans ?_
   simp only [List.append_assoc])
  (λm acc ha=>by
   simp only [x7,Gp,ang,Nat.lt_irrefl,am9,am_,MX];rw [Rx (by omega),ai])
 unfold BI;rw [am,ai,ana,am_,sx (by omega) (by omega),ai,QE,lk (by simp;omega),ai]
 have:=key n 0 (eD l.length) (by omega) (by omega) (by rw [List.drop_zero];omega)
 rw [List.drop_zero]at this;exact this
theorem alt(k:ano)(v:br)(a:Int):FO n ⟨k,[⟨a,v⟩]⟩ a=some v:=by
 obtain⟨m,rfl⟩:∃m,n=m+3:=⟨n-3,by omega⟩
 unfold FO Mb
 have e:Bk (m+3) a ⟨k,[⟨a,v⟩]⟩ (m+3) 0=some 1:=by
  have w:anq (0+1)=1:=rfl;simp only [Bk,Ma,L_,w];have h0:decide ((0:Int)<(([⟨a,v⟩]:List Version).length:Nat))=true:=rfl;have Z:decide ((1:Int)<(([⟨a,v⟩]:List Version).length:Nat))=false:=rfl;have aa:aH 0 ([⟨a,v⟩]:List Version).length=true:=rfl;have aj:(([⟨a,v⟩]:List Version).getD (0:Int).toNat default).gu=a:=rfl;simp only [h0,Z,aa,aj,Int.le_refl,am8,ana,anb,Bool.true_or,Bool.false_or,aM,am',am_]
 rw [e,ai];rfl
theorem alu{l:List bC}{a:Int}(ab:l.length≤2000)(ep:l.length<n)(hk:∀i,i<l.length→(l.getD i default).b2.Kind≠0)(am:vo n (jX l a)=some true):Bm n (jX l a) a=some (l,0):=by
 have hg:∀i,i<l.length→(jX l a).Rows.getD i default=⟨(l.getD i default).Key,[⟨a,(l.getD i default).b2⟩]⟩:=λi hi=>by
  unfold jX;simp only [List.getD_eq_getElem?_getD,List.getElem?_map,List.getElem?_eq_getElem hi,Option.map_some,Option.getD_some]
 have hlen:(jX l a).Rows.length=l.length:=by unfold jX;simp
 have key:∀m i acc,l.length<m+i→i≤l.length→acc.length≤i→Bl n a (jX l a) m (i:Int) acc=some (acc++l.drop i,0):=by
  intro m;induction m with
  |zero=>intro i acc Z aa;omega
  |succ m aF=>
   intro i acc Z aa aj;simp only [Bl,Md,hlen,ang];by_cases hi:i<l.length
   ·simp only [hi,b3 hi,anf,am8,am',aM];rw [hg i hi,alt hn,ai];simp only [hk i hi,am9,anb,am',ani,FP,bg (show i≤4611686018427387904 by omega),lL (show(acc.length+1)*48≤140737488355328 by omega),aM]
    rw [aF (i+1) _ (by omega) (by omega) (by rw [anh,ani];omega),eS l i default hi]
    simp
   ·obtain rfl:i=l.length:=by omega
    simp only [Nat.lt_irrefl,am9,am_,Mc,gi l _ hi,List.append_nil]
 unfold Bm;rw [am,ai]
 have ah:FN n (jX l a) a=some 0:=by
  unfold FN jX;simp only [ank,am9,am_]
 simp only [ana,am_,ah,ai,am8];exact key n 0 [] (by omega) (by omega) (by simp)
end
def alv{n:Nat}(hn:10≤n){z:Int}(h:hD z):hf n z=some (iV z):=by
 obtain⟨Z,aa⟩:=h;have e:z=((z.toNat:Nat):Int):=by omega
 have:=uc (n:=n) (u:=z.toNat) hn (by omega)
 rw [←e]at this;exact this
def alw{n:Nat}(b:Bool):L7 n b=some (wL b):=by cases b<;>rfl
def ZU(b:Bool):(wL b).length=1:=by cases b<;>rfl
section
variable {n:Nat} (hn:2000≤n)
include hn
theorem alx{r:Request}(h:pX r)(acc:ano)(cJ:acc.length+(wL r.fv++ut r.fv (r.bW.Reads,r.bW.es)).length≤200000)(l8:(ut r.fv (r.bW.Reads,r.bW.es)).length≤100000):
 Bj n r acc=some (acc++(wL r.fv++ut r.fv (r.bW.Reads,r.bW.es))):=by
 have aV:=h.2.2.2.2.1;rw [anh]at cJ;unfold Bj;rw [alw,ai,gc (by omega),aM]
 cases hd:r.fv
 ·simp only [am_,Bi,ut,ann,Bool.false_eq_true,List.append_nil]
 ·rw [hd]at aV cJ l8;obtain⟨⟨aW,a2⟩,cG,gz⟩:=aV;simp only at aW a2 cG gz
  simp only [ut,anm,anh]at cJ l8;rw [am',ZS hn aW a2 (by omega),ai,ZS hn cG gz (by omega),ai]
  simp (disch:=omega) only [List.length_append,gc,aM,Bi,ut,if_true,List.append_assoc]
theorem aly{r:Request}(am:qu n r=some 0)(h:pX r)(cJ:(kw r).length≤100000):FI n r=some (kw r):=by
 obtain⟨c1,c2,c3,⟨c4,c5⟩,am1,am2⟩:=id h;have g':=wZ c1;have jK:=wZ c2;unfold kw dE at cJ ⊢;simp only [anh]at cJ
 have key:=q7 (l:=r.ao) (E:=cO) (B:=90000) (L:=λm acc i=>xO n r m acc (i:Int)) (fin:=λacc=>Bj n r acc)
  (λm i acc hi hb=>by
   have aa:=q8 c5 hi;have aj:=uk aa;simp only [xO,FH,hi,b3 hi,anf,ang,am8,am',aM,bg (show i≤4611686018427387904 by omega)]
   rw [QL (by omega) aa.2 (by omega),ai,gc (by omega),aM])
  (λm acc ha=>by simp only [xO,FH,ang,Nat.lt_irrefl,am9,am_])
 unfold FI;rw [am,ai];simp only [am8,ana,am_];have t1:=QI (s:=r.aZ) (by omega)
 have ZV:=nv (u:=r.ao.length) (by omega)
 have v1:(iF cO r.ao).length≤1000:=by
  have:∀l:List br,(∀v∈l,sq v)→(iF cO l).length≤100*l.length:=by
   intro l;induction l with
   |nil=>intro _;simp [iF]
   |cons v l aF=>
    intro bh;have g:=bh v (by simp)
    have g2:=ajf g.2 (by have:=uk g;omega)
    have g3:=uk g;have g4:=aF λw hw=>bh w (by simp [hw])
    rw [zy,anh,anc];omega
  have:=this r.ao c5
  omega
 rw [zT (by omega) c1,ai,zT (by omega) c2,ai,gc (by omega),aM,ud (by omega) (by omega),ai,gc (by simp only [anh];omega),aM,
  sx (by omega) (by omega),ai,gc (by simp only [anh];omega),aM]
 have:=key n 0 (((iV r.Client++iV r.Seq)++fV r.aZ)++eD r.ao.length) (by omega) (by omega) (by rw [List.drop_zero];simp only [anh];omega)
 rw [List.drop_zero]at this;refine this.trans ?_;rw [alx hn h _ (by simp only [anh,ZU];simp only [anh,ZU]at cJ;omega) (by omega)]
 simp only [List.append_assoc]
theorem alz{l:List Request}(ab:l.length≤64)(h:∀r∈l,pX r∧qu n r=some 0)(cJ:(dE kw l).length≤90000):xQ n l=some (dE kw l):=by
 unfold dE at cJ ⊢;simp only [anh]at cJ
 have key:=q7 (l:=l) (E:=kw) (B:=100000) (L:=λm acc i=>xP n l m (i:Int) acc) (fin:=λacc=>some acc)
  (λm i acc hi hb=>by
   obtain⟨Z,aa⟩:=q8 h hi;simp only [xP,FJ,hi,b3 hi,anf,ang,am8,am',aM,bg (show i≤4611686018427387904 by omega)]
   rw [aa,ai];simp only [am8,ana,am_];rw [aly hn aa Z (by omega),ai,gc (by omega),aM])
  (λm acc ha=>by simp only [xP,FJ,ang,Nat.lt_irrefl,am9,am_,L8])
 unfold xQ;simp only [f',show¬ 64<l.length by omega,am9,am_]
 rw [sx (by omega) (by omega),ai]
 have:=key n 0 (eD l.length) (by omega) (by omega) (by rw [List.drop_zero];omega)
 rw [List.drop_zero]at this;exact this
theorem alA{r:cV}(ak:xQ n r.Queue=some (dE kw r.Queue))(hc:hD r.dT)(acc:ano)(cJ:acc.length+(dE kw r.Queue).length≤300000):
 BJ n r (gE acc)=some (acc++(dE kw r.Queue++iV r.dT)):=by
 have:=wZ hc
 unfold BJ;rw [ak,ai,lk (by omega),ai,alv (by omega) hc,ai,lk (by rw [anh];omega),ai,Rx (by simp only [anh];omega),ai]
 simp only [List.append_assoc]
theorem alB{r:cV}(Z:BI n r.ea=some (dE mg r.ea))(aa:Bn n r.Place=some (o4 r.Place))(aj:r.bn.length≤32∧∀h∈r.bn,h.Key.length≤24∧h8 h.Count)
 (ak:xQ n r.Queue=some (dE kw r.Queue)) (hc:hD r.dT) (acc:ano) (cJ:acc.length+(dE mg r.ea).length+(o4 r.Place).length+(dE oj r.bn).length+(dE kw r.Queue).length≤200000):
 x' n r (gE acc)=some (acc++(dE mg r.ea++(o4 r.Place++(dE oj r.bn++(dE kw r.Queue++iV r.dT))))):=by
 obtain⟨aj,aD⟩:=aj;have ZV:=nv (u:=r.bn.length) (by omega)
 have l8:=cJ;rw [show(dE oj r.bn).length=(eD r.bn.length).length+(iF oj r.bn).length by unfold dE;simp]at l8
 have key:=q7 (l:=r.bn) (E:=oj) (B:=200000) (L:=λm acc i=>x9 n r m (gE acc) (i:Int)) (fin:=λacc=>BJ n r (gE acc))
  (λm i acc hi hb=>by
   obtain⟨g1,g2⟩:=q8 aD hi;unfold oj at hb ⊢;rw [anh]at hb;simp only [x9,Gu,hi,b3 hi,anf,ang,am8,am',aM,bg (show i≤4611686018427387904 by omega)]
   rw [ud (by omega) (by omega),ai,lk (by omega),ai,wG (by omega) g2,ai,lk (by rw [anh];omega),ai,List.append_assoc])
  (λm acc ha=>by simp only [x9,Gu,ang,Nat.lt_irrefl,am9,am_])
 unfold x';rw [Z,ai,lk (by omega),ai,aa,ai,lk (by rw [anh];omega),ai,sx (by omega) (by omega),ai,lk (by simp only [anh];omega),ai]
 have:=key n 0 (((acc++dE mg r.ea)++o4 r.Place)++eD r.bn.length) (by omega) (by omega) (by rw [List.drop_zero];simp only [anh];omega)
 rw [List.drop_zero]at this;refine this.trans ?_;rw [alA hn ak hc _ (by simp only [anh];omega)]
 unfold dE;simp only [List.append_assoc]
end
section
variable {n:Nat} (hn:3000000≤n) (aU:n≤1000000000)
include hn aU
theorem alC{p:pZ}{l:List aZ}(hp:D5 p)(hs:(p0 p).length≤2000)(ab:l.map lj=p.2.2.1)(hg:∀q∈l,q3 q)(lJ:l.length≤1000)(cS:q5 (jZ p l)=true):tf n (jZ p l)=some (p0 p):=by
 have pg:=Rw hp;have hsh:=Rv (n:=n) (by omega) hp (by omega) lJ hg
 have acU:=hs;unfold p0 at hs;simp only [anh]at hs;have Ry:=cS;unfold q5 at Ry;simp only [Bool.and_eq_true]at Ry;obtain⟨⟨⟨⟨⟨⟨⟨_,s1⟩,_⟩,_⟩,s2⟩,_⟩,_⟩,_⟩:=Ry
 have alD:vo n (jX p.2.1 p.1)=some true:=by
  have:=Zl (by omega) aU hsh.st
  rw [s1]at this;exact this
 have alE:tb n p.2.2.2.1=some true:=by
  have:=Q8 (by omega) aU hsh.D4 hsh.pY
  rw [s2]at this;exact this
 have kinds:∀i,i<p.2.1.length→(p.2.1.getD i default).b2.Kind≠0:=by
  have:=hp.o6.2
  unfold o3 at this;rw [Bool.and_eq_true,zE]at this;intro i hi;have:=this.2 i hi
  simpa using this
 have alF:=als (by omega) alE hp.pY.1.1 hp.pY.1.2 (by omega)
 have alG:=alo (n:=n) (by omega) hp.zQ.1.1 hp.zQ.1.2.1 hp.zQ.1.2.2 (by omega)
 have alH:=alz (n:=n) (by omega) hp.ol.1 (λr ah=>⟨(hp.ol.2 r ah).1,by
  have Z:=(hp.ol.2 r ah).2;unfold wU at Z;simp only [Bool.and_eq_true,decide_eq_true_eq]at Z;rw [Q4 (by omega) aU (D0 (by omega) (hp.ol.2 r ah).1),Z.2]⟩) (by omega)
 have bj:=aln (n:=n) (by omega) (by omega) hp.o6.1.2 (by omega)
 have i1:=Ji hp.pos;have ZV:=nv (u:=l.length) (by omega)
 have iy:dE fV p.2.2.1=eD l.length++iF (λq=>fV (lj q)) l:=by
  rw [←ab];unfold dE;rw [ZT,List.length_map]
 rw [iy]at hs;simp only [anh]at hs
 have key:=q7 (l:=l) (E:=λq=>fV (lj q)) (B:=100000) (L:=λm acc i=>x_ n (jZ p l) m (gE acc) (i:Int)) (fin:=λacc=>x' n (jZ p l) (gE acc))
  (λm i acc hi hb=>by
   have g:=q8 hg hi;have g2:=akQ g.e0;simp only [x_,Gv,show(jZ p l).eh=l from rfl,hi,b3 hi,anf,ang,am8,am',aM,bg (show i≤4611686018427387904 by omega)]
   rw [Rp g.e0 hn,ai,ud (by omega) (by omega),ai,lk (by omega),ai])
  (λm acc ha=>by simp only [x_,Gv,show(jZ p l).eh=l from rfl,ang,Nat.lt_irrefl,am9,am_])
 unfold tf
 rw [show Bm n (jZ p l).aR (jZ p l).Pos=_ from alu (by omega) (by omega) (by omega) kinds alD,ai,
  show pB n (jZ p l).Pos=some (mJ p.1)from wG (by omega) hp.pos,ai,QE,lk (by simp;omega),ai,bj,ai,lk (by simp;omega),ai,
  show hf n (IntKind.u64.wrap (((jZ p l).eh.length:Nat):Int))=some (eD l.length)from sx (k:=l.length) (by omega) (by omega),ai,lk (by simp only [anh,ane];omega),ai]
 have:=key n 0 ((([]++mJ p.1)++dE lM p.2.1)++eD l.length) (by omega) (by omega) (by rw [List.drop_zero];simp only [anh,ane];omega)
 rw [List.drop_zero]at this;refine this.trans ?_
 have j:∀A:ano,A.length≤100000→x' n (jZ p l) (gE A)=some (A++(dE mg p.2.2.2.1++(o4 p.2.2.2.2.1++(dE oj p.2.2.2.2.2.1++(dE kw p.2.2.2.2.2.2.1++iV p.2.2.2.2.2.2.2))))):=λA ev=>
  alB (r:=jZ p l) (by omega) alF alG hp.aB alH hp.ZF A (by
   show A.length+(dE mg p.2.2.2.1).length+(o4 p.2.2.2.2.1).length+(dE oj p.2.2.2.2.2.1).length+(dE kw p.2.2.2.2.2.2.1).length≤_
   omega)
 rw [j _ (by simp only [anh,ane];omega)]
 unfold p0;rw [iy];simp only [List.append_assoc,List.nil_append]
end
section
variable {n:Nat} (hn:3000000≤n) (aU:n≤1000000000) {s:ano} (hs:s.length≤2000)
include hn aU hs
theorem alI:∃R,vS n s=some R∧D3 n R.1∧(R.2=0→∃p l,zP s = .ok (p,[])∧R.1=jZ p l∧l.map lj=p.2.2.1∧(∀q∈l,q3 q)∧l.length≤1000∧q5 (jZ p l)=true)∧(R.2≠0→R.1=JO):=by
 cases hd:zP s with
 |error e=>
  have ah:=ZM hn aU (s:=s) (by omega)
  rw [hd]at ah;obtain⟨v,a,ah⟩:=ah;have he:=D6.cv _ _ hd;refine⟨(JO,e),?_,ZP (by omega),λh=>absurd h he,λ_=>rfl⟩
  unfold vS;rw [ah,ai];simp only [gd he,am']
 |ok r=>
  obtain⟨p,t⟩:=r;obtain⟨hc,hp⟩:=D6.fy _ _ _ hd;have aa:s.length=(p0 p).length+t.length:=by rw [hc];simp
  have xy:=hp.src.1;obtain⟨o,dr,hN,am3,Rz,alJ⟩:=akR (n:=n) hn p.2.2.1 (by omega) (λx hx=>by have:=ali hx;omega)
  have hlen:=Rw hp;refine⟨zS p t o,alk hn aU hs hd dr (by omega) Rz,?_,?_,?_⟩
  ·unfold zS;cases ((!decide (t=[]) || !(decide (0≤p.1)&&decide (p.1≤1099511627776))) || !o.2) || !q5 (jZ p o.1)
   ·exact Rv (by omega) hp (by omega) (by omega) Rz
   ·exact ZP (by omega)
  ·intro h;unfold zS at h ⊢;cases hb:((!decide (t=[]) || !(decide (0≤p.1)&&decide (p.1≤1099511627776))) || !o.2) || !q5 (jZ p o.1)
   ·simp only [Bool.or_eq_false_iff,Bool.not_eq_false',Bool.and_eq_true,decide_eq_true_eq]at hb;obtain⟨⟨⟨cG,gz,oa⟩,t_⟩,alK⟩:=hb;subst cG;exact⟨p,o.1,rfl,rfl,alJ t_,Rz,by omega,alK⟩
   ·rw [hb]at h;cases h
  ·intro h;unfold zS at h ⊢;cases hb:((!decide (t=[]) || !(decide (0≤p.1)&&decide (p.1≤1099511627776))) || !o.2) || !q5 (jZ p o.1)
   ·rw [hb]at h;exact absurd rfl h
   ·rfl
end
def alL(s:ano):Pb 10000000 s=some true:=by
 unfold Pb;simp only [f',alm,ai];by_cases Z:s.length≤2000
 ·simp only [show¬ 2000<s.length by omega,am9,am_]
  obtain⟨R,e1,e3,gk,lU⟩:=alI (n:=10000000) (by omega) (by omega) Z
  have alM:Cx 10000000 s=some R:=by
   unfold Cx;simp only [f',show¬ 16384<s.length by omega,am9,am_]
   rw [e1];rfl
  have RA:=ak2 (n:=10000000) (by omega) (by omega) e3
  rw [alM,ai];by_cases h0:R.2=0
  ·obtain⟨p,l,hd,sV,ab,hg,lJ,cS⟩:=gk h0;obtain⟨hc,hp⟩:=D6.fy _ _ _ hd;rw [List.append_nil]at hc;have zh:rM 10000000 R.1=some true:=by rw [ZD (by omega) (by omega) e3,sV,cS]
   have bK:tf 10000000 R.1=some s:=by
    rw [sV,alC (by omega) (by omega) hp (by rw [←hc];exact Z) ab hg lJ cS,hc]
   have alN:BQ 10000000 R.1=some (s,0):=by
    unfold BQ;rw [zh,ai,bK,ai];simp only [f',show¬ 16384<s.length by omega,am9,am_,ana]
   have du:Im 10000000 R.1=some R:=by
    unfold Im;rw [zh,ai,bK,ai,e1,ai];rfl
   simp only [h0,am8,ana,am_];rw [alN,ai,du,ai];simp only [am8,am'];rw [RA];simp only [ai,h0,am8,am']
  ·simp only [h0,am9,anb,am'];rw [lU h0];rw [lU h0]at RA;rw [show vU 10000000 _ _=_ from RA]
   simp only [ai,am']
 ·simp only [show 2000<s.length by omega,am8,am']
end Go.Ab.Y

/- The plain law: what the functions compute answers as the statement says. -/
import Derived.Test.YtcjbfnojhpfchaaGreatDoorPlainB
set_option linter.all false
namespace Go.Ab.Y
open Go Go.Ab Go.Proofs
def oG{β:Type}{c k:Bool}{x y:β}(h:c = !k):(bif c then x else y)=if k then y else x:=by subst h;cases k<;>rfl
def qM{i len:Nat}{b:Bool}(hi:i<len)(ab:len≤1000000000):(b||(!(decide (0<(i:Int)))||a7 (anV ((i:Int)-1)) len))=true:=by
 cases i with
 |zero=>simp
 |succ i=>
  rw [show((i+1:Nat):Int)-1=(i:Int)by omega,zl (by omega),b4 (by omega)];simp
def allI(len:Nat)(chk:Nat→Bool):Bool:=(List.range len).all chk
def hW{len:Nat}{chk:Nat→Bool}:allI len chk=true↔∀i,i<len→chk i=true:=by
 unfold allI;simp
def rV(b:Bool):(if b then true else false)=b:=by cases b<;>rfl
def IQ(b c:Bool):(if b then c else false)=(b&&c):=by cases b<;>rfl
def nc{β:Type}{L:Nat→Int→Option β}{len:Nat}{chk:Nat→Bool}{no yes:β}{m:Nat}(hm:len<m)
 (step:∀m i,i<len→L (m+1) (i:Int)=if chk i then L m ((i+1:Nat):Int)else some no) (stop:∀m,L (m+1) (len:Int)=some yes):
 L m 0=some (if allI len chk then yes else no):=Xx hm step stop
abbrev pv(i:Nat):Nat:=(anV ((i:Int)-1)).toNat
def PZ(i:Nat)(h:i≤1000000000):pv (i+1)=i:=by
 unfold pv;(rw [show((i+1:Nat):Int)-1=(i:Int)by omega,zl (by omega)];simp only [anK])
def aiN{L:Nat→Int→anY}{len:Nat}{p:Nat→Bool}
 (step:∀m i,i<len→L (m+1) (i:Int)=if p i then some (i:Int)else L m ((i+1:Nat):Int)) (stop:∀m,L (m+1) (len:Int)=some (-1)):
 ∀m i,len<i+m→i≤len→∃r,L m (i:Int)=some r∧decide (0≤r)=(List.range' i (len-i)).any p:=by
 intro m;induction m with
 |zero=>intro i h aa;omega
 |succ m aG=>
  intro i h aa;by_cases hi:i<len
  ·rw [step m i hi,show len-i=(len-(i+1))+1 by omega,List.range'_succ,List.any_cons]
   cases hp:p i
   ·obtain⟨r,ai,ay⟩:=aG (i+1) (by omega) (by omega)
    exact⟨r,by rw [if_neg (by simp)];exact ai,by rw [ay];simp⟩
   ·exact⟨(i:Int),by simp,by simp⟩
  ·obtain rfl:i=len:=by omega
   exact⟨-1,stop m,by simp⟩
def P0{L:Nat→Int→anY}{len:Nat}{p:Nat→Bool}{m:Nat}(hm:len<m)
 (step:∀m i,i<len→L (m+1) (i:Int)=if p i then some (i:Int)else L m ((i+1:Nat):Int)) (stop:∀m,L (m+1) (len:Int)=some (-1)):
 ∃r,L m 0=some r∧decide (0≤r) = !allI len λi=>!p i:=by
 obtain⟨r,Z,aa⟩:=aiN step stop m 0 (by omega) (by omega)
 refine⟨r,Z,?_⟩
 rw [aa,Nat.sub_zero,←List.range_eq_range'];unfold allI;rw [List.not_all_eq_any_not];simp
section
variable {n:Nat} (hn:2000≤n) (aQ:n≤1000000000)
include hn aQ
def zn(l:List bI):Bool:=allI l.length λi=>nS (l.getD i default).Key&&lw (l.getD i default).b0&&(!decide (0<(i:Int))||Op.bytesLess (l.getD (pv i) default).Key (l.getD i default).Key)
def nU(l:List bI):Bool:=zn l&&allI l.length λi=>!decide ((l.getD i default).b0.Kind=0)
def zo(p:bI):Prop:=p.Key.length≤1000∧p.b0.S.length≤1000
theorem aiO{l:List bI}(ab:l.length<n)(h:∀i,zo (l.getD i default)):F' n l=some (zn l):=by
 unfold F' zn;rw [nc (L:=xW n l) (no:=false) (yes:=true) ab,rV]
 ·intro m i hi;have Z:=h i;simp only [xW,F9,anL,hi,anC,anE,b4 hi,aX,ak,anK,bD (show i≤4611686018427387904 by omega),IM (show 24<n by omega),qM hi (show l.length≤1000000000 by omega)]
  rw [show rr n (⟨((l.getD i default).b0).Kind,((l.getD i default).b0).N,((l.getD i default).b0).S⟩:bq)=_ from IN (v:=(l.getD i default).b0) (by have:=Z.2;omega) (by have:=Z.2;omega)]
  cases hk:nS (l.getD i default).Key
  ·simp only [anH,anG,anF,anE,ak,Bool.true_or,aX,Bool.false_and];rfl
  ·simp only [anH,anG,anF,anE,ak,qM hi (show l.length≤1000000000 by omega),aX,Bool.true_and]
   exact oG (by simp only [eS,fr,Bool.not_and,Bool.not_or,Bool.not_not])
 ·intro m;simp only [xW,F9,MR,anP,anD,anF]
theorem XS{l:List bI}(ab:l.length<n)(h:∀i,zo (l.getD i default)):BE n l=some (nU l):=by
 unfold BE MQ MP nU;rw [aiO hn aQ ab h,ak]
 obtain⟨r,Z,aa⟩:=P0 (L:=xV n l) (len:=l.length) (p:=λi=>decide ((l.getD i default).b0.Kind=0)) ab (by
  intro m i hi;simp only [xV,F8,MN,anL,hi,anC,anE,b4 hi,aX,ak,anK,bD (show i≤4611686018427387904 by omega),anO,anR]) (by
  intro m;simp only [xV,F8,MO,anP,anD,anF])
 rw [Z];simp only [ak,aa];cases zn l<;>simp
def v8(l:List be):Bool:=(allI l.length λi=>nS (l.getD i default).Key && !decide ((l.getD i default).Count<1) && !decide (1099511627776<(l.getD i default).Count)&&(!decide (0<(i:Int))||Op.bytesLess (l.getD (pv i) default).Key (l.getD i default).Key))&&decide (((l.length:Nat):Int)≤32)
theorem aiP{l:List be}(ab:l.length<n):F0 n l=some (v8 l):=by
 unfold F0 v8;rw [nc (L:=xQ n l) (no:=false) (yes:=decide (((l.length:Nat):Int)≤32)) ab,IQ]
 ·intro m i hi;simp only [xQ,FZ,anL,hi,anC,anE,b4 hi,aX,ak,anK,bD (show i≤4611686018427387904 by omega),IM (show 24<n by omega),qM hi (show l.length≤1000000000 by omega)]
  exact oG (by simp only [eS,fr,Bool.not_and,Bool.not_or,Bool.not_not])
 ·intro m;simp only [xQ,FZ,MD,anP,anD,anF]
def v'(l:List anT):Bool:=(allI l.length λi=>nS (l.getD i default)&&(!decide (0<(i:Int))||Op.bytesLess (l.getD (pv i) default) (l.getD i default)))
theorem XT{l:List anT}(ab:l.length<n):A1 n l=some (v' l&&decide (((l.length:Nat):Int)≤64)):=by
 unfold A1 v';rw [nc (L:=xk n l) (no:=false) (yes:=decide (((l.length:Nat):Int)≤64)) ab,IQ]
 ·intro m i hi;simp only [xk,E5,anL,hi,anC,anE,b4 hi,aX,ak,anK,bD (show i≤4611686018427387904 by omega),IM (show 24<n by omega),qM hi (show l.length≤1000000000 by omega)]
  exact oG (by simp only [eS,fr,Bool.not_and,Bool.not_or,Bool.not_not,←Df])
 ·intro m;simp only [xk,E5,LC,anP,anD,anF]
def zp(f:fg):Bool:=bif f.eI then decide (f.Reads.length=0)&&decide (f.cT.length=0) else(v' f.Reads&&decide (f.Reads.length≤64))&&(v' f.cT&&decide (f.cT.length≤64))
theorem aiQ{f:fg}(Z:f.Reads.length<n)(aa:f.cT.length<n):A2 n f=some (zp f):=by
 unfold A2 zp;rw [XT hn aQ Z,XT hn aQ aa];simp only [ak,fU,lU,fr];cases f.eI
 ·simp only [anF];cases v' f.Reads&&decide (f.Reads.length≤64)<;>rfl
 ·rfl
end
def tx(c b:Bool):(bif c then some b else some default)=some (c&&b):=by cases c<;>rfl
def aiR{l:Nat}{b:Bool}:(b||decide (l<1)||decide (16<l)||a7 0 l)=true:=by
 by_cases h:l<1
 ·rw [decide_eq_true h];simp
 ·rw [mp (by omega)];simp
def XU{α:Type}(l:List α)(d:α){i k:Nat}(h:k<i):(l.take i).getD k d=l.getD k d:=by
 simp [List.getD_eq_getElem?_getD,List.getElem?_take,h]
section
variable {n:Nat} (hn:2000≤n) (aQ:n≤1000000000)
include hn aQ
def tz(l:List bq):Bool:=allI l.length λi=>lw (l.getD i default) && !decide ((l.getD i default).Kind=0)
def rW(r:Request):Int:=
 bif (((decide (r.Client<1)||decide (32<r.Client))||decide (r.Seq<1))||decide (1099511627776<r.Seq))then 1 else
 bif !gx r.bd then 7 else
 bif decide (6<r.aw.length)then 2 else
 bif !tz r.aw then 1 else
 bif ((!zp r.bx||r.bx.eI)||(!r.eW&&decide (0<r.bx.Reads.length+r.bx.cT.length)))then 1 else 0
structure tA(n:Nat)(r:Request):Prop where
 proc:r.bd.length≤1000
 args:r.aw.length<n
 vals:∀i,(r.aw.getD i default).S.length≤1000
 P1:r.bx.Reads.length<n
 P2:r.bx.cT.length<n
 rd:∀i,(r.bx.Reads.getD i default).length≤1000
 wr:∀i,(r.bx.cT.getD i default).length≤1000
theorem IR{r:Request}(h:tA n r):nG n r=some (rW r):=by
 have Z:=h.proc;have aa:=h.args
 obtain⟨c,e1,e2⟩:=P0 (L:=xl n r.aw) (len:=r.aw.length) (p:=λi=>!(lw (r.aw.getD i default) && !decide ((r.aw.getD i default).Kind=0))) aa (by
  intro m i hi;have:=h.vals i
  simp only [xl,E6,LF,anL,hi,anC,anE,b4 hi,aX,anK,bD (show i≤4611686018427387904 by omega),IN (show(r.aw.getD i default).S.length<n by omega) (by omega),tx,ak]
  cases lw (r.aw.getD i default)<;>cases decide ((r.aw.getD i default).Kind=0)<;>rfl) (by
  intro m;simp only [xl,E6,LG,anP,anD,anF])
 have e3:(allI r.aw.length λi=>!!(lw (r.aw.getD i default) && !decide ((r.aw.getD i default).Kind=0)))=tz r.aw:=by simp only [Bool.not_not];rfl
 rw [e3]at e2;unfold nG LI LH rW;rw [yY n _ (by omega),e1,show A2 n ⟨r.bx.eI,r.bx.Reads,r.bx.cT⟩=_ from aiQ hn aQ (f:=r.bx) h.P1 h.P2]
 have ai:=h.P1;have ay:=h.P2;have o2:anV (((r.bx.Reads.length:Nat):Int)+((r.bx.cT.length:Nat):Int))=((r.bx.Reads.length+r.bx.cT.length:Nat):Int):=by rw [wr]<;>omega
 simp only [ak,e2,o2,eS,fr,fq];cases ((decide (r.Client<1)||decide (32<r.Client))||decide (r.Seq<1))||decide (1099511627776<r.Seq)<;>cases gx r.bd<;>cases decide (6<r.aw.length)<;>cases tz r.aw<;>cases ((!zp r.bx||r.bx.eI)||(!r.eW&&decide (0<r.bx.Reads.length+r.bx.cT.length)))<;>rfl
def XV(c:UInt8):Bool:=!(decide (c.toNat<33)||decide (126<c.toNat))
def rX(s:anT):Bool:=(allI s.length λi=>XV (s.getD i 0))&&decide (s.length≤24)
theorem XW{s:anT}(hs:s.length<n):BB n s=some (rX s):=by
 unfold BB rX;rw [nc (L:=xS n s) (no:=false) (yes:=decide (s.length≤24)) hs,IQ]
 ·intro m i hi;simp only [xS,F3,anL,hi,anC,anE,b4 hi,aX,anK,bD (show i≤4611686018427387904 by omega),anQ,s_,fq]
  exact oG (by simp only [eS,XV,Bool.not_not])
 ·intro m;simp only [xS,F3,MF,anP,anD,anF,lU]
def zq(n:Int):Bool:=decide (1≤n)&&decide (n≤16)
def XX(n:Int):Bool:=decide (1≤n)&&decide (n≤1099511627776)
def zr(l:List Part)(i:Nat):Bool:=
 let x:=l.getD i default
 bif decide (x.h2=0)then decide (x.ir=[]) else((((zq x.h2 && !decide (x.h2=x.Node))&&rX x.ir) && !Op.bytesLess x.ir x.fQ)&&(decide (i+1=l.length)||Op.bytesLess x.ir (l.getD (i+1) default).fQ))
def Dg(l:List Part)(i:Nat):Bool:=
 let x:=l.getD i default
 (!decide (0<(i:Int))||(rX x.fQ&&Op.bytesLess (l.getD (pv i) default).fQ x.fQ))&&(((XX x.Id&&zq x.Node)&&zr l i)&&allI i λk=>!decide ((l.getD k default).Id=x.Id))
def oH(p:b7):Bool:=!((((decide (p.Version<0)||decide (1099511627776<p.Version))||decide (p.aW.length<1))||decide (16<p.aW.length)) || !decide ((p.aW.getD 0 default).fQ=[]))&&allI p.aW.length (Dg p.aW)
def v_(x:Part):Prop:=x.fQ.length≤1000∧x.ir.length≤1000
theorem aiS{l:List Part}(ab:l.length<n){i:Nat}(hi:i<l.length)(h:∀i,v_ (l.getD i default)):F5 n l (i:Int)=some (zr l i):=by
 unfold F5 BC zr;have Z:=(h i).2
 (rw [b4 hi,aX];simp only [anK];rw [XW hn aQ (by omega),bD (by omega)])
 simp only [ak,fr,eS,tx,Int.ofNat_inj,show(decide (1≤(l.getD i default).h2)&&decide ((l.getD i default).h2≤16))=zq (l.getD i default).h2 from rfl]
 cases decide ((l.getD i default).h2=0)
 ·simp only [anF];by_cases e:i+1=l.length
  ·simp only [e,anC,Bool.true_or,anQ,aX];cases zq (l.getD i default).h2<;>cases decide ((l.getD i default).h2=(l.getD i default).Node)<;>rfl
  ·rw [b4 (show i+1<l.length by omega)]
   simp only [e,anK,anD,Bool.false_or,anQ,aX];cases zq (l.getD i default).h2<;>cases decide ((l.getD i default).h2=(l.getD i default).Node)<;>rfl
 ·rfl
theorem XY{p:b7}(ab:p.aW.length<n)(h:∀i,v_ (p.aW.getD i default)):BD n p=some (oH p):=by
 have e1:u6 n p n 0=some (allI p.aW.length (Dg p.aW)):=by
  rw [nc (L:=u6 n p) (chk:=Dg p.aW) (no:=false) (yes:=true) ab,rV]
  ·intro m i hi;have Z:=h i;have aa:=Z.1;have cK:(p.aW.take i).length<n:=by simp;omega
   obtain⟨c,f1,f2⟩:=P0 (L:=xT n (p.aW.take i) (p.aW.getD i default).Id) (len:=(p.aW.take i).length) (p:=λk=>decide (((p.aW.take i).getD k default).Id=(p.aW.getD i default).Id)) cK (by
    intro m k hk;have p4:k≤4611686018427387904:=by omega
    simp only [xT,F4,MG,anL,hk,anC,anE,b4 hk,aX,ak,anK,bD p4];cases decide (((p.aW.take i).getD k default).Id=(p.aW.getD i default).Id)<;>rfl) (by
    intro m;simp only [xT,F4,MH,anP,anD,anF])
   have f3:(allI (p.aW.take i).length λk=>!decide (((p.aW.take i).getD k default).Id=(p.aW.getD i default).Id))=allI i λk=>!decide ((p.aW.getD k default).Id=(p.aW.getD i default).Id):=by
    rw [show(p.aW.take i).length=i by simp;omega,Bool.eq_iff_iff,hW,hW]
    constructor
    ·intro g k hk;have:=g k hk;rwa [XU _ _ hk]at this
    ·intro g k hk;have:=g k hk;rwa [XU _ _ hk]
   rw [f3]at f2;simp only [u6,F6,MJ,MI,MK,BC,anL,hi,anC,anE,b4 hi,aX,ak,anK,bD (show i≤4611686018427387904 by omega),XW hn aQ (show(p.aW.getD i default).fQ.length<n by omega),tx,f1,aiS hn aQ ab hi h,vK (Nat.le_of_lt hi),anQ]
   have g1:(!decide (0<(i:Int))||(!(decide (0<(i:Int))&&rX (p.aW.getD i default).fQ)||a7 (anV ((i:Int)-1)) p.aW.length))=true:=by
    have:=qM (b:=!(decide (0<(i:Int))&&rX (p.aW.getD i default).fQ)) hi (show p.aW.length≤1000000000 by omega)
    rw [←this];cases decide (0<(i:Int))<;>simp
   simp only [g1,aX,←Df,eS,fr];unfold Dg XX zq;simp only
   cases hd:decide (0<(i:Int))
   ·simp only [Bool.false_and,anF,anH,Bool.true_or,Bool.true_and];cases (decide (1≤(p.aW.getD i default).Id)&&decide ((p.aW.getD i default).Id≤1099511627776))
    ·rfl
    ·cases (decide (1≤(p.aW.getD i default).Node)&&decide ((p.aW.getD i default).Node≤16))
     ·rfl
     ·cases zr p.aW i
      ·rfl
      ·simp only [anG,Bool.or_self,anH,anE,ak,f2,Bool.false_or,Bool.true_and];exact oG rfl
   ·simp only [Bool.true_and,anE,anG,Bool.false_or];cases rX (p.aW.getD i default).fQ
    ·rfl
    ·cases Op.bytesLess (p.aW.getD (pv i) default).fQ (p.aW.getD i default).fQ
     ·rfl
     ·cases (decide (1≤(p.aW.getD i default).Id)&&decide ((p.aW.getD i default).Id≤1099511627776))
      ·rfl
      ·cases (decide (1≤(p.aW.getD i default).Node)&&decide ((p.aW.getD i default).Node≤16))
       ·rfl
       ·cases zr p.aW i
        ·rfl
        ·simp only [anG,Bool.or_self,anH,anE,anF,ak,f2,Bool.false_or,Bool.true_and];exact oG rfl
  ·intro m;simp only [u6,F6,ML,anP,anD,anF]
 unfold BD oH;rw [e1];simp only [eS,s_,fq,aiR,aX];cases (((decide (p.Version<0)||decide (1099511627776<p.Version))||decide (p.aW.length<1))||decide (16<p.aW.length)) || !decide ((p.aW.getD 0 default).fQ=[])<;>rfl
end
def aiT{β:Type}{L:Nat→Int→Option β}{len:Nat}{chk:Nat→Bool}{no:β}{yes:Option β}
 (step:∀m i,i<len→L (m+1) (i:Int)=if chk i then L m ((i+1:Nat):Int)else some no) (stop:∀m,L (m+1) (len:Int)=yes):
 ∀m i,len<i+m→i≤len→L m (i:Int)=if(List.range' i (len-i)).all chk then yes else some no:=by
 intro m;induction m with
 |zero=>intro i h aa;omega
 |succ m aG=>
  intro i h aa;by_cases hi:i<len
  ·rw [step m i hi,aG (i+1) (by omega) (by omega),show len-i=(len-(i+1))+1 by omega,List.range'_succ,List.all_cons]
   cases chk i
   ·rfl
   ·rw [if_pos rfl,Bool.true_and]
  ·obtain rfl:i=len:=by omega
   rw [stop m];simp
def XZ{β:Type}{L:Nat→Int→Option β}{len:Nat}{chk:Nat→Bool}{no:β}{yes:Option β}{m:Nat}(hm:len<m)
 (step:∀m i,i<len→L (m+1) (i:Int)=if chk i then L m ((i+1:Nat):Int)else some no) (stop:∀m,L (m+1) (len:Int)=yes):
 L m 0=if allI len chk then yes else some no:=by
 have:=aiT step stop m 0 (by omega) (by omega)
 rwa [Nat.sub_zero,←List.range_eq_range']at this
section
variable {n:Nat} (hn:2000≤n) (aQ:n≤1000000000)
include hn aQ
def zt(o:Outcome):Bool:=bif decide (o.Status=1) then(decide (o.Code=0)&&decide (o.Out.length≤16))&&tz o.Out else((decide (o.Status=2)&&decide (0≤o.Code))&&decide (o.Code≤1009))&&decide (o.Out.length=0)
structure zu(n:Nat)(o:Outcome):Prop where
 out:o.Out.length<n
 vals:∀i,(o.Out.getD i default).S.length≤1000
theorem aiU{o:Outcome}(h:zu n o):Bs n o=some (zt o):=by
 have Z:=h.out
 have e1:u0 n o n 0=some (tz o.Out):=by
  rw [nc (L:=u0 n o) (no:=false) (yes:=true) Z,rV]
  ·rfl
  ·intro m i hi;have:=h.vals i
   simp only [u0,FJ,anL,hi,anC,anE,b4 hi,aX,anK,bD (show i≤4611686018427387904 by omega),IN (show(o.Out.getD i default).S.length<n by omega) (by omega),ak]
   exact oG (by simp only [eS,Bool.not_and,Bool.not_not])
  ·intro m;simp only [u0,FJ,Mu,anP,anD,anF]
 unfold Bs Mt zt;rw [e1];simp only [eS,fr,fq,fU];cases decide (o.Status=1)
 ·simp only [anF];cases decide (o.Status=2)<;>rfl
 ·simp only [anE];by_cases g:o.Out.length≤16
  ·simp only [show¬ 16<o.Out.length by omega,g,anC,anD]
   cases decide (o.Code=0)<;>rfl
  ·simp only [show 16<o.Out.length by omega,g,anC,anD,anQ,anE,Bool.and_false,Bool.false_and]
def kA(e6:Int):Int:=bif (decide ((anV (e6-1))<8)) then(anV (e6-1))else 8
def Dh(s:bG):Bool:=((decide (s.Client<1)||decide (32<s.Client))||decide (s.Next<1))||decide (1099511627776<s.Next)
omit hn aQ in
theorem X0{s:bG}(h:Dh s=false):1≤s.Client∧s.Client≤32∧1≤s.Next∧s.Next≤1099511627776:=by
 simp only [Dh,Bool.or_eq_false_iff,decide_eq_false_iff_not]at h;omega
def IS(s:bG)(i:Nat):Bool:=(decide ((s.bS.getD i default).Client=s.Client)&&decide ((s.bS.getD i default).Seq=s.Next-(s.bS.length:Int)+(i:Int)))&&zt (s.bS.getD i default).Outcome
def Di(s:bG):Bool:=(!Dh s&&decide ((s.bS.length:Int)=kA s.Next))&&allI s.bS.length (IS s)
structure rY(n:Nat)(s:bG):Prop where
 rep:s.bS.length<n
 out:∀i,zu n (s.bS.getD i default).Outcome
theorem aiV{s:bG}(h:rY n s):FL n s=some (Di s):=by
 have Z:=h.rep;unfold FL Br Di;simp only [eS];rw [show(((decide (s.Client<1)||decide (32<s.Client))||decide (s.Next<1))||decide (1099511627776<s.Next))=Dh s from rfl]
 cases aI:Dh s
 ·have hb:=X0 aI;simp only [anH,anE,ak,Bool.false_or,Bool.true_and];rw [show(bif (decide ((anV (s.Next-1))<8)) then(anV (s.Next-1))else 8)=kA s.Next from rfl]
  rw [nc (L:=xH n s) (chk:=IS s) (no:=false) (yes:=true) Z,rV]
  ·cases decide ((s.bS.length:Int)=kA s.Next)<;>rfl
  ·intro m i hi;simp only [xH,FK,anL,hi,anC,anE,b4 hi,aX,anK,bD (show i≤4611686018427387904 by omega)]
   rw [show Bs n (⟨((s.bS.getD i default).Outcome).Status,((s.bS.getD i default).Outcome).Code,((s.bS.getD i default).Outcome).Out⟩:Outcome)=_ from aiU hn aQ (h.out i),tx,ak,wr (x:=s.Next-((s.bS.length:Nat):Int)) (by omega) (by omega),wr (x:=s.Next-((s.bS.length:Nat):Int)+(i:Int)) (by omega) (by omega)]
   refine oG ?_;unfold IS;simp only [eS,Bool.and_true,Bool.not_not];cases decide ((s.bS.getD i default).Client=s.Client)<;>cases decide ((s.bS.getD i default).Seq=s.Next-(s.bS.length:Int)+(i:Int))<;>rfl
  ·intro m;simp only [xH,FK,Mv,anP,anD,anF]
 ·rfl
def pJ(l:List bG):Bool:=allI l.length λi=>Di (l.getD i default)&&(!decide (0<(i:Int)) || !decide ((l.getD i default).Client≤(l.getD (pv i) default).Client))
theorem IT{l:List bG}(ab:l.length<n)(h:∀i,rY n (l.getD i default)):rv n l=some (pJ l):=by
 unfold rv pJ;rw [nc (L:=xI n l) (no:=false) (yes:=true) ab,rV]
 ·intro m i hi;simp only [xI,FM,anL,hi,anC,anE,b4 hi,aX,anK,bD (show i≤4611686018427387904 by omega),aiV hn aQ (h i),ak,qM hi (show l.length≤1000000000 by omega)]
  exact oG (by simp only [eS,fr,Bool.not_and,Bool.not_or,Bool.not_not])
 ·intro m;simp only [xI,FM,Mw,anP,anD,anF]
end
def aiW{β:Type}{c d k:Bool}{x y:β}(h:k=(!c && !d)):(bif c then x else(bif d then x else y))=if k then y else x:=by subst h;cases c<;>cases d<;>rfl
def aiX{α σ R:Type}[Inhabited α]{l:List α}{g:σ→α→σ}{I:Nat→σ→Prop}{L:Nat→σ→Int→Option R}{fin:σ→Option R}
 (step:∀m acc i,i<l.length→I i acc→L (m+1) acc (i:Int)=L m (g acc (l.getD i default)) ((i+1:Nat):Int)∧I (i+1) (g acc (l.getD i default)))
 (stop:∀m acc,I l.length acc→L (m+1) acc (l.length:Int)=fin acc):
 ∀m i acc,l.length<i+m→i≤l.length→I i acc→L m acc (i:Int)=fin ((l.drop i).foldl g acc):=by
 intro m;induction m with
 |zero=>intro i acc h aa;omega
 |succ m aG=>
  intro i acc h aa nw;by_cases hi:i<l.length
  ·obtain⟨ai,ay⟩:=step m acc i hi nw;rw [ai,aG (i+1) _ (by omega) (by omega) ay,fJ l i default hi,List.foldl_cons]
  ·obtain rfl:i=l.length:=by omega
   rw [stop m acc nw,List.drop_of_length_le (Nat.le_refl _)];rfl
def aiY{α σ R:Type}[Inhabited α]{l:List α}{g:σ→α→σ}{I:Nat→σ→Prop}{L:Nat→σ→Int→Option R}{fin:σ→Option R}{m:Nat}(hm:l.length<m){acc:σ}(h0:I 0 acc)
 (step:∀m acc i,i<l.length→I i acc→L (m+1) acc (i:Int)=L m (g acc (l.getD i default)) ((i+1:Nat):Int)∧I (i+1) (g acc (l.getD i default)))
 (stop:∀m acc,I l.length acc→L (m+1) acc (l.length:Int)=fin acc):L m acc 0=fin (l.foldl g acc):=
 aiX step stop m 0 acc (by omega) (by omega) h0
def fold_map{α β:Type}(f:α→β):∀(l:List α) (acc:List β),l.foldl (λa x=>a++[f x]) acc=acc++l.map f
 |[],acc=>by simp
 |x::l,acc=>by rw [List.foldl_cons,fold_map f l];simp
def lx{m k:Nat}(h:m*k≤140737488355328):room m k=true:=by simp [room];exact h
def IU{α:Type}[Inhabited α]{l:List α}{i:Nat}(h:i<l.length):l.getD i default∈l:=by
 rw [List.getD_eq_getElem?_getD,List.getElem?_eq_getElem h];exact List.getElem_mem h
section
variable {n:Nat} (hn:2000≤n) (aQ:n≤1000000000)
include hn aQ
def X1(a b:bq):Bool:=decide (a.Kind=b.Kind)&&(decide (a.N=b.N)&&(decide (a.S=b.S)&&true))
def wa(r:Row)(floor last:Int)(i:Nat):Bool:=
 ((!decide ((r.bJ.getD i default).cl<floor) && !decide (last<(r.bJ.getD i default).cl))&&lw (r.bJ.getD i default).b0) &&
 !(decide (0<(i:Int))&&(decide ((r.bJ.getD i default).cl≤(r.bJ.getD (pv i) default).cl)||X1 (r.bJ.getD i default).b0 (r.bJ.getD (pv i) default).b0))
def tB(r:Row)(floor last:Int):Bool:=!(decide (r.bJ.length=0)||decide ((r.bJ.getD 0 default).b0.Kind=0))&&allI r.bJ.length (wa r floor last)
structure P3(n:Nat)(r:Row):Prop where
 key:r.Key.length≤1000
 IV:r.bJ.length<n
 val:∀i,(r.bJ.getD i default).b0.S.length≤1000
omit hn aQ in
theorem aiZ{i len:Nat}{b:Bool}(hi:i<len)(ab:len≤1000000000):(!(decide (0<(i:Int)))||(b||a7 (anV ((i:Int)-1)) len))=true:=by
 have:=qM (b:=b) hi ab
 rw [←this];cases decide (0<(i:Int))<;>cases b<;>simp
omit hn aQ in
theorem ai0{i len:Nat}(hi:i<len)(ab:len≤1000000000):(!(decide (0<(i:Int)))||a7 (anV ((i:Int)-1)) len)=true:=by
 have:=qM (b:=false) hi ab
 rw [Bool.false_or]at this;exact this
omit hn aQ in
theorem ai1{l:Nat}:(decide (l=0)||a7 0 l)=true:=by
 by_cases h:l=0
 ·rw [decide_eq_true h];rfl
 ·rw [mp (by omega)];simp
theorem ai2{r:Row}(h:P3 n r)(floor last:Int):Fb n r floor last=some (tB r floor last):=by
 have Z:=h.IV;unfold Fb tB;rw [nc (L:=xq n floor last r) (chk:=wa r floor last) (no:=false) (yes:=true) Z,rV]
 ·simp only [fU,ai1,aX,eS];cases decide (r.bJ.length=0)||decide ((r.bJ.getD 0 default).b0.Kind=0)<;>rfl
 ·intro m i hi;have aa:=h.val i;simp only [xq,Fa,anL,hi,anC,anE,b4 hi,aX,anK,bD (show i≤4611686018427387904 by omega),aiZ hi (show r.bJ.length≤1000000000 by omega),ai0 hi (show r.bJ.length≤1000000000 by omega)]
  rw [show rr n (⟨((r.bJ.getD i default).b0).Kind,((r.bJ.getD i default).b0).N,((r.bJ.getD i default).b0).S⟩:bq)=_ from IN (v:=(r.bJ.getD i default).b0) (by omega) (by omega),tx,ak]
  refine aiW ?_;unfold wa;simp only [X1,eS,fr,Bool.not_and,Bool.not_or,Bool.not_not];cases decide ((r.bJ.getD i default).cl<floor)<;>cases decide (last<(r.bJ.getD i default).cl)<;>cases lw (r.bJ.getD i default).b0<;>rfl
 ·intro m;simp only [xq,Fa,LO,anP,anD,anF]
def mv(s:aA):Bool:=!((decide (s.cD<0)||decide (s.cp<s.cD))||decide (1099511627776<s.cp)) &&
 allI s.Rows.length λi=>(nS (s.Rows.getD i default).Key&&(!decide (0<(i:Int))||Op.bytesLess (s.Rows.getD (pv i) default).Key (s.Rows.getD i default).Key))&&tB (s.Rows.getD i default) s.cD s.cp
structure IW(n:Nat)(s:aA):Prop where
 rows:s.Rows.length<n
 row:∀i,P3 n (s.Rows.getD i default)
theorem P4{s:aA}(h:IW n s):uR n s=some (mv s):=by
 have Z:=h.rows;unfold uR mv;rw [nc (L:=xr n s) (chk:=λi=>(nS (s.Rows.getD i default).Key&&(!decide (0<(i:Int))||Op.bytesLess (s.Rows.getD (pv i) default).Key (s.Rows.getD i default).Key))&&tB (s.Rows.getD i default) s.cD s.cp) (no:=false) (yes:=true) Z,rV]
 ·simp only [eS];cases (decide (s.cD<0)||decide (s.cp<s.cD))||decide (1099511627776<s.cp)<;>rfl
 ·intro m i hi;have aa:=(h.row i).key;simp only [xr,Fc,anL,hi,anC,anE,b4 hi,aX,ak,anK,bD (show i≤4611686018427387904 by omega),IM (show 24<n by omega),qM hi (show s.Rows.length≤1000000000 by omega),ai2 hn aQ (h.row i),tx,←Df]
  refine oG ?_;simp only [eS,fr];cases nS (s.Rows.getD i default).Key<;>cases decide (0<(i:Int))<;>cases Op.bytesLess (s.Rows.getD (pv i) default).Key (s.Rows.getD i default).Key<;>rfl
 ·intro m;simp only [xr,Fc,LP,anP,anD,anF]
def iQ(l:List bI)(at_:Int):aA:=⟨at_,at_,l.map λp=>⟨p.Key,[⟨at_,p.b0⟩]⟩⟩
def P5(l:List bI)(at_:Int):aA×Int:=bif ((!nU l||decide (at_<0))||decide (1099511627776<at_)) then(⟨0,0,[]⟩,1) else(iQ l at_,0)
theorem ai3{l:List bI}(ab:l.length<n)(h:∀i,zo (l.getD i default))(at_:Int):yq n l at_=some (P5 l at_):=by
 unfold yq P5;rw [XS hn aQ ab h,ak,aiY (L:=yp n at_ l) (g:=λa p=>a++[⟨p.Key,[⟨at_,p.b0⟩]⟩]) (I:=λi acc=>acc.length=i) (fin:=λv=>some (⟨at_,at_,v⟩,0)) ab rfl,fold_map]
 ·simp only [eS,List.nil_append];cases (!nU l||decide (at_<0))||decide (1099511627776<at_)<;>rfl
 ·intro m acc i hi nw;have:room (acc.length+1) 40=true:=lx (by omega)
  simp only [yp,GW,anL,hi,anC,anE,b4 hi,aX,anK,bD (show i≤4611686018427387904 by omega),anN,this]
  exact⟨trivial,by simp [nw]⟩
 ·intro m acc nw;simp only [yp,GW,ND,anP,anD,anF]
end
def qN{α:Type}[Inhabited α]{P:α→Prop}{l:List α}(h:∀x∈l,P x)(h0:P default)(i:Nat):P (l.getD i default):=by
 by_cases hi:i<l.length
 ·exact h _ (IU hi)
 ·rw [List.getD_eq_getElem?_getD,List.getElem?_eq_none (by omega)];exact h0
def rZ{v:bq}(h:pH v):v.S.length≤64:=by
 rcases v7 h.1 with h|h|h
 ·rw [h];simp
 ·rw [h.2];simp
 ·exact XJ h.2.2
def zv:d9 bI:=fv (λp=>⟨p.1,p.2⟩) (dv (fD 24) λ_=>l5)
def kB(p:bI):anT:=fL p.Key++cx p.b0
def qO(p:bI):Prop:=p.Key.length≤24∧pH p.b0
def P6:dR zv kB qO:=
 (nb.dep λ_ _=>rU).map _ (λp=>(p.Key,p.b0)) qO kB (λb h=>⟨rfl,⟨h.1,h.2⟩,rfl⟩) (λa h=>⟨rfl,⟨h.1,h.2⟩⟩)
def zw:d9 (List bI):=l2 nU 5 (iP 2147483647 zv)
def ai4:dR (iP 2147483647 zv) (dC kB) (λl=>l.length≤2147483647∧∀v∈l,qO v):=P6.tv _ (by omega) (λv _=>by unfold kB fL;simp [pG])
def IX:dR zw (dC kB) (λl=>(l.length≤2147483647∧∀v∈l,qO v)∧nU l=true):=ai4.chk _ _ (by omega)
def X2{p:bI}(h:qO p):zo p:=⟨by have:=h.1;omega,by have:=rZ h.2;omega⟩
def X3{l:List bI}(h:∀p∈l,qO p)(i:Nat):zo (l.getD i default):=qN (P:=zo) (λx hx=>X2 (h x hx)) ⟨by show([]:anT).length≤1000;simp,by show([]:anT).length≤1000;simp⟩ i
section
variable {n:Nat} (hn:2000≤n) (aQ:n≤1000000000) {s:anT} (hs:s.length<n)
include hn aQ hs
theorem ai5{t:anT}(aC:t <:+ s):Gb n s (bg s t)=some (res [] s (zw t)):=by
 unfold Gb zw l2 iP;rw [show(2147483647:Int)=((2147483647:Nat):Int)from rfl,tw aC (by omega) (by omega) (by omega),ak]
 cases h:iC 2147483647 t with
 |error e=>rw [qL h,fh];simp only [gl (nT h),anE,fh]
 |ok r=>
  obtain⟨u,bC⟩:=r;obtain⟨Z,aa,ai⟩:=oF h;have en:bC <:+ s:=List.IsSuffix.trans ⟨eM u,Z.symm⟩ aC;have hu:=en.length_le;rw [qK h,gA];simp only [anC,anG,anF];rw [show u9 n s ((u:Int),bg s bC,0) n (bg s bC) 0 []=_ from XQ (L:=λm i t acc=>u9 n s ((u:Int),bg s bC,0) m (bg s t) (i:Int) acc) (D:=zv) (u:=u) (s:=s) (fin:=λacc t=>F_ n (bg s t) acc) (bad:=λe=>some ([],0,e)) (λx v t hx=>P6.k7 hx) ?_ ?_ (by omega) en]
  ·cases ah:gJ zv u bC with
   |error e=>rfl
   |ok r=>
    obtain⟨l,mu⟩:=r;obtain⟨g1,g2,g3⟩:=(P6.rep u).gb _ _ _ ah;simp only [F_];rw [XS hn aQ (by omega) (X3 g3),ak]
    cases nU l<;>rfl
  ·intro m i t acc hi ha aC;simp only [u9,Ga,anL,hi,anC,anE];rw [show(24:Int)=((24:Nat):Int)from rfl,De aC (by omega) (by omega) (by omega),ak]
   unfold zv fv dv;cases ay:fD 24 t with
   |error e=>rw [fh];simp only [gl (nb.cN _ _ ay),anE]
   |ok r=>
    obtain⟨k,t1⟩:=r;rw [gA];simp only [anC,anG,anF];rw [PY (iD nb ay aC) (by omega) (by omega),ak]
    cases aJ:l5 t1 with
    |error e=>rw [fh];simp only [gl (rU.cN _ _ aJ),anE]
    |ok r=>
     obtain⟨v,t2⟩:=r;rw [gA];simp only [anC,anG,anF,anN];rw [lx (by omega),aX,bD (by omega)]
  ·intro m t acc ha aC;simp only [u9,Ga,anP,anD,anF]
end
def tC{α β R:Type}{D:d9 α}{s:anT}{u:Nat}{f:Nat→α→β}{L:Nat→Nat→anT→List β→Option R}{fin:List β→anT→Option R}{bad:Int→Option R→Prop}
 (k7:∀x v t,D x = .ok (v,t)→t <:+ x)
 (step:∀m i t acc,u<i+1+m→i<u→acc.length=i→t <:+ s→match D t with|.ok (v,bC)=>L (m+1) i t acc=L m (i+1) bC (acc++[f i v])|.error e=>bad e (L (m+1) i t acc))
 (stop:∀m t acc,acc.length=u→t <:+ s→L (m+1) u t acc=fin acc t):
 ∀k m i t acc,i+k=u→k<m→acc.length=i→t <:+ s→match gJ D k t with|.ok (l,bC)=>L m i t acc=fin (acc++(l.zipIdx i).map λp=>f p.2 p.1) bC|.error e=>bad e (L m i t acc):=by
 intro k;induction k with
 |zero=>
  intro m i t acc hi hm ha aC;obtain⟨m,rfl⟩:∃j,m=j+1:=⟨m-1,by omega⟩
  obtain rfl:i=u:=by omega
  rw [stop m t acc ha aC];simp [gJ]
 |succ k aG=>
  intro m i t acc hi hm ha aC;obtain⟨m,rfl⟩:∃j,m=j+1:=⟨m-1,by omega⟩
  have ea:=step m i t acc (by omega) (by omega) ha aC
  unfold gJ;cases h:D t with
  |error e=>rw [h]at ea;exact ea
  |ok r=>
   obtain⟨v,bC⟩:=r;rw [h]at ea;simp only at ea ⊢
   have:=aG m (i+1) bC (acc++[f i v]) (by omega) (by omega) (by simp [ha]) ((k7 _ _ _ h).trans aC)
   cases aa:gJ D k bC with
   |error e=>rw [aa]at this;simp only at this ⊢;rw [ea];exact this
   |ok r=>
    obtain⟨l,mu⟩:=r;rw [aa]at this;simp only at this ⊢
    rw [ea,this];simp
def tD{α:Type}(l:List α)(i:Nat):((l.zipIdx i).map λp=>p.1)=l:=List.zipIdx_map_fst i l
def k8{α:Type}(e:Int)(x:Option (α×Int×Int)):Prop:=∃v a,x=some (v,a,e)
def zx:d9 Part:=fv (λp=>⟨p.1,p.2.1,p.2.2.1,p.2.2.2.1,p.2.2.2.2⟩) (dv ib λ_=>dv (fD 24) λ_=>dv ib λ_=>dv ib λ_=>fD 24)
def qP(x:Part):anT:=l1 x.Id++(fL x.fQ++(l1 x.Node++(l1 x.h2++fL x.ir)))
def pK(x:Part):Prop:=eJ x.Id∧x.fQ.length≤24∧eJ x.Node∧eJ x.h2∧x.ir.length≤24
def P7:dR zx qP pK:=
 (kb.dep λ_ _=>nb.dep λ_ _=>kb.dep λ_ _=>kb.dep λ_ _=>nb).map _ (λx=>(x.Id,x.fQ,x.Node,x.h2,x.ir)) pK qP
  (λb h=>⟨rfl,⟨h.1,h.2.1,h.2.2.1,h.2.2.2.1,h.2.2.2.2⟩,rfl⟩) (λa h=>⟨rfl,⟨h.1,h.2.1,h.2.2.1,h.2.2.2.1,h.2.2.2.2⟩⟩)
def tE:d9 b7:=l2 oH 5 (fv (λp=>⟨p.1,p.2⟩) (dv ib λ_=>iP 16 zx))
def nV(p:b7):anT:=l1 p.Version++dC qP p.aW
def ai6:dR (iP 16 zx) (dC qP) (λl=>l.length≤16∧∀v∈l,pK v):=P7.tv _ (by omega) (λv _=>by unfold qP l1;simp [pG])
def IY:dR tE nV (λp=>(eJ p.Version∧p.aW.length≤16∧∀v∈p.aW,pK v)∧oH p=true):=
 ((kb.dep λ_ _=>ai6).map (λp=>(⟨p.1,p.2⟩:b7)) (λp:b7=>(p.Version,p.aW)) (λp=>eJ p.Version∧p.aW.length≤16∧∀v∈p.aW,pK v) nV (λb h=>⟨rfl,⟨h.1,h.2⟩,rfl⟩) (λa h=>⟨rfl,⟨h.1,h.2⟩⟩)).chk _ _ (by omega)
def ai7{p:Part}(h:pK p):v_ p:=⟨by have:=h.2.1;omega,by have:=h.2.2.2.2;omega⟩
def X4{l:List Part}(h:∀p∈l,pK p)(i:Nat):v_ (l.getD i default):=qN (P:=v_) (λx hx=>ai7 (h x hx)) ⟨by show([]:anT).length≤1000;simp,by show([]:anT).length≤1000;simp⟩ i
section
variable {n:Nat} (hn:2000≤n) (aQ:n≤1000000000) {s:anT} (hs:s.length<n)
theorem Dj{a e:Int}(he:e≠0):rz n ⟨s,a,e⟩=some (0,a,e):=by
 unfold rz;simp only [gl he,anE]
theorem Dk{a e:Int}(he:e≠0):u' n ⟨s,a,e⟩=some ([],a,e):=by
 unfold u';simp only [gl he,anE]
include hn aQ hs
theorem IZ{t:anT}(aC:t <:+ s):rz n ⟨s,bg s t,0⟩=some (res 0 s (ib t)):=by
 unfold rz;simp only [anC,anG,anF];rw [PX aC (by omega) (by omega),ak]
theorem X5{t:anT}(aC:t <:+ s):u' n ⟨s,bg s t,0⟩=some (res [] s (fD 24 t)):=by
 unfold u';simp only [anC,anG,anF];rw [show(24:Int)=((24:Nat):Int)from rfl,De aC (by omega) (by omega) (by omega),ak]
theorem zy{u:Nat}(hu:u<n){r1:Int×Int×Int}{b:Int}{c:Int}:∀(k m i:Nat) (a e:Int) (acc:List Part),e≠0→i+k=u→k<m→acc.length=i→rA n ((u:Int),b,c) s r1 m a e acc (i:Int)=some (⟨0,[]⟩,0,e):=by
 intro k;induction k with
 |zero=>
  intro m i a e acc he hi hm ha;obtain⟨m,rfl⟩:∃j,m=j+1:=⟨m-1,by omega⟩
  obtain rfl:i=u:=by omega
  simp only [rA,x0,anP,anD,anF,BI,Gc,he,ak,anH,anE]
 |succ k aG=>
  intro m i a e acc he hi hm ha;obtain⟨m,rfl⟩:∃j,m=j+1:=⟨m-1,by omega⟩
  simp only [rA,x0,anL,show i<u by omega,anC,anE,Dj he,Dk he,ak,anN]
  rw [lx (by omega),aX,bD (by omega)]
  exact aG m (i+1) a e _ he (by omega) (by omega) (by simp [ha])
theorem ai8{t:anT}(aC:t <:+ s):Gd n s (bg s t)=some (res ⟨0,[]⟩ s (tE t)):=by
 unfold Gd tE l2 fv dv iP;rw [IZ hn aQ hs aC,ak];cases h0:ib t with
 |error e=>rw [fh];simp only [gl (kb.cN _ _ h0),anE,fh]
 |ok r=>
  obtain⟨v,t0⟩:=r;have X6:=iD kb h0 aC;rw [gA];simp only [anC,anG,anF];rw [show(16:Int)=((16:Nat):Int)from rfl,tw X6 (by omega) (by omega) (by omega),ak]
  cases h:iC 16 t0 with
  |error e=>
   rw [qL h,fh];exact zy hn aQ hs (u:=0) (by omega) 0 n 0 0 e [] (nT h) rfl (by omega) rfl
  |ok r=>
   obtain⟨u,bC⟩:=r;obtain⟨Z,aa,ai⟩:=oF h;have en:bC <:+ s:=List.IsSuffix.trans ⟨eM u,Z.symm⟩ X6;have hu:=en.length_le;rw [qK h,gA]
   have cL:=tC (L:=λm i t acc=>rA n ((u:Int),bg s bC,0) s (v,bg s t0,0) m (bg s t) 0 acc (i:Int)) (f:=λ_ v=>v) (D:=zx) (u:=u) (s:=s) (fin:=λacc t=>BI n s (v,bg s t0,0) (bg s t) 0 acc) (bad:=λe x=>x=some (⟨0,[]⟩,0,e)) (λx v t hx=>P7.k7 hx) (by
    intro m i t acc hm hi ha aC;simp only [rA,x0,anL,hi,anC,anE];rw [IZ hn aQ hs aC,ak];unfold zx fv dv;have f6:room (acc.length+1) 56=true:=lx (by omega)
    cases g1:ib t with
    |error e=>
     have he:=kb.cN _ _ g1;rw [fh];simp only [Dj he,Dk he,ak,anN,f6,aX];rw [bD (by omega)]
     exact zy hn aQ hs (by omega) (u-(i+1)) m (i+1) _ e _ he (by omega) (by omega) (by simp [ha])
    |ok r=>
     obtain⟨dG,t1⟩:=r;have jI:=iD kb g1 aC;rw [gA];simp only
     rw [X5 hn aQ hs jI,ak];cases g2:fD 24 t1 with
     |error e=>
      have he:=nb.cN _ _ g2;rw [fh];simp only [Dj he,Dk he,ak,anN,f6,aX];rw [bD (by omega)]
      exact zy hn aQ hs (by omega) (u-(i+1)) m (i+1) _ e _ he (by omega) (by omega) (by simp [ha])
     |ok r=>
      obtain⟨eL,t2⟩:=r;have jg:=iD nb g2 jI;rw [gA];simp only
      rw [IZ hn aQ hs jg,ak];cases g3:ib t2 with
      |error e=>
       have he:=kb.cN _ _ g3;rw [fh];simp only [Dj he,Dk he,ak,anN,f6,aX];rw [bD (by omega)]
       exact zy hn aQ hs (by omega) (u-(i+1)) m (i+1) _ e _ he (by omega) (by omega) (by simp [ha])
      |ok r=>
       obtain⟨ly,t3⟩:=r;have Dl:=iD kb g3 jg;rw [gA];simp only
       rw [IZ hn aQ hs Dl,ak];cases g4:ib t3 with
       |error e=>
        have he:=kb.cN _ _ g4;rw [fh];simp only [Dj he,Dk he,ak,anN,f6,aX];rw [bD (by omega)]
        exact zy hn aQ hs (by omega) (u-(i+1)) m (i+1) _ e _ he (by omega) (by omega) (by simp [ha])
       |ok r=>
        obtain⟨fF,t4⟩:=r;have I0:=iD kb g4 Dl;rw [gA];simp only
        rw [X5 hn aQ hs I0,ak];cases g5:fD 24 t4 with
        |error e=>
         have he:=nb.cN _ _ g5;rw [fh];simp only [anN,f6,aX];rw [bD (by omega)]
         exact zy hn aQ hs (by omega) (u-(i+1)) m (i+1) _ e _ he (by omega) (by omega) (by simp [ha])
        |ok r=>
         obtain⟨mQ,t5⟩:=r;rw [gA];simp only [anN,f6,aX];rw [bD (by omega)]) (by
    intro m t acc ha aC;simp only [rA,x0,anP,anD,anF]) u n 0 bC [] (by omega) (by omega) rfl en
   cases ah:gJ zx u bC with
   |error e=>rw [ah]at cL;simp only [ah]at cL ⊢;exact cL
   |ok r=>
    obtain⟨l,mu⟩:=r;rw [ah]at cL;simp only [List.nil_append,tD,ah]at cL ⊢;refine cL.trans ?_;obtain⟨g1,g2,g3⟩:=(P7.rep u).gb _ _ _ ah;simp only [BI,anC,anE];rw [XY hn aQ (p:=⟨v,l⟩) (by show l.length<n;omega) (X4 g3),ak]
    cases oH ⟨v,l⟩<;>rfl
end
def wb:d9 Outcome:=fv (λp=>⟨p.1,p.2.1,p.2.2⟩) (dv (na 0 9999) λ_=>dv (na 0 9999) λ_=>iP 16 l5)
def qQ(o:Outcome):anT:=iO o.Status++(iO o.Code++dC cx o.Out)
def oI(o:Outcome):Prop:=(0≤o.Status∧o.Status≤9999)∧(0≤o.Code∧o.Code≤9999)∧o.Out.length≤16∧∀v∈o.Out,pH v
def n99:dR (na 0 9999) iO (λz=>0≤z∧z≤9999):=PV (by omega) (by omega)
def P8:dR (na 1 32) iO (λz=>1≤z∧z≤32):=PV (by omega) (by omega)
def I1:dR (na 1 1099511627776) iO (λz=>1≤z∧z≤1099511627776):=PV (by omega) (by omega)
def X7(k:Nat)(hk:k<18446744073709551616):dR (iP k l5) (dC cx) (λl=>l.length≤k∧∀v∈l,pH v):=rU.tv _ hk (λv _=>air v)
def P9:dR wb qQ oI:=
 (n99.dep λ_ _=>n99.dep λ_ _=>X7 16 (by omega)).map (λp=>(⟨p.1,p.2.1,p.2.2⟩:Outcome)) (λo:Outcome=>(o.Status,o.Code,o.Out)) oI qQ
  (λb h=>⟨rfl,⟨h.1,h.2.1,h.2.2⟩,rfl⟩) (λa h=>⟨rfl,⟨h.1,h.2.1,h.2.2⟩⟩)
def tF(c e6 k:Int)(l:List Outcome):List ev:=(l.zipIdx 0).map λp=>⟨c,anV (e6-anV (k-(p.2:Int))),p.1⟩
def I2(c e6 k:Int)(l:List Outcome):(tF c e6 k l).map (·.Outcome)=l:=by
 unfold tF;rw [List.map_map];exact tD l 0
def Dm{e6:Int}(h:1≤e6∧e6≤1099511627776):0≤kA e6∧kA e6≤8∧kA e6≤e6-1:=by
 unfold kA;rw [wr (x:=e6-1) (by omega) (by omega)]
 by_cases dh:e6-1<8
 ·rw [decide_eq_true dh,anE];omega
 ·rw [decide_eq_false dh,anF];omega
def tG:d9 bG:=fv (λp=>⟨p.1,p.2.1,tF p.1 p.2.1 (kA p.2.1) p.2.2⟩) (dv (na 1 32) λ_=>dv (na 1 1099511627776) λe6=>gJ wb (kA e6).toNat)
def kC(s:bG):anT:=iO s.Client++(iO s.Next++ia qQ (s.bS.map (·.Outcome)))
def pL(s:bG):Prop:=(1≤s.Client∧s.Client≤32)∧(1≤s.Next∧s.Next≤1099511627776)∧s.bS=tF s.Client s.Next (kA s.Next) (s.bS.map (·.Outcome))∧(s.bS.map (·.Outcome)).length=(kA s.Next).toNat∧∀o∈s.bS.map (·.Outcome),oI o
def I3:dR tG kC pL:=
 (P8.dep λ_ _=>I1.dep λe6 _=>P9.rep (kA e6).toNat).map (λp=>(⟨p.1,p.2.1,tF p.1 p.2.1 (kA p.2.1) p.2.2⟩:bG)) (λs:bG=>(s.Client,s.Next,s.bS.map (·.Outcome))) pL kC
  (λb h=>⟨by simp only;rw [←h.2.2.1],⟨h.1,h.2.1,h.2.2.2.1,h.2.2.2.2⟩,rfl⟩) (λa h=>⟨by simp only [I2],⟨h.1,h.2.1,by simp only [I2],by simp only [I2];exact h.2.2.1,by simp only [I2];exact h.2.2.2⟩⟩)
def tH:d9 (List bG):=l2 pJ 5 (iP 32 tG)
def ai9:dR (iP 32 tG) (dC kC) (λl=>l.length≤32∧∀v∈l,pL v):=I3.tv _ (by omega) (λv _=>by unfold kC iO;simp [pG])
def I4:dR tH (dC kC) (λl=>(l.length≤32∧∀v∈l,pL v)∧pJ l=true):=ai9.chk _ _ (by omega)
def X8{n:Nat}(hn:2000≤n){o:Outcome}(h:oI o):zu n o:=
 ⟨by have:=h.2.2.1;omega,λi=>qN (P:=λv:bq=>v.S.length≤1000) (λx hx=>by have:=rZ (h.2.2.2 x hx);omega) (by show([]:anT).length≤1000;simp) i⟩
def ai'{n:Nat}(hn:2000≤n){s:bG}(h:pL s):rY n s:=by
 have hk:=Dm h.2.1;have ab:s.bS.length=(kA s.Next).toNat:=by have:=h.2.2.2.1;simpa using this
 refine⟨by omega,λi=>qN (P:=λr:ev=>zu n r.Outcome) (λx hx=>X8 hn (h.2.2.2.2 _ (List.mem_map_of_mem hx))) ?_ i⟩
 refine X8 hn ?_;refine⟨by show(0:Int)≤0∧(0:Int)≤9999;omega,by show(0:Int)≤0∧(0:Int)≤9999;omega,by show([]:List bq).length≤16;simp,λv an=>by cases an⟩
def I5{n:Nat}(hn:2000≤n){l:List bG}(h:∀s∈l,pL s)(i:Nat):rY n (l.getD i default):=by
 refine qN (P:=rY n) (λx hx=>ai' hn (h x hx)) ⟨by show([]:List ev).length<n;simp;omega,λi=>⟨?_,λi=>?_⟩⟩ i
 ·show((([]:List ev).getD i default).Outcome).Out.length<n
  show([]:List bq).length<n
  simp;omega
 ·show((((([]:List ev).getD _ default).Outcome).Out).getD i default).S.length≤1000
  show([]:anT).length≤1000
  simp
section
variable {n:Nat} (hn:2000≤n) (aQ:n≤1000000000) {s:anT} (hs:s.length<n)
theorem X9{lo hi a e:Int}(he:e≠0):rE n lo hi ⟨s,a,e⟩=some (0,a,e):=by
 unfold rE;simp only [gl he,anE]
include hn aQ hs
theorem I6{lo hi:Int}(h0:0≤lo)(Z:hi≤9223372036854775807){t:anT}(aC:t <:+ s):rE n lo hi ⟨s,bg s t,0⟩=some (match na lo hi t with|.ok (v,bC)=>(v,bg s bC,0)|.error e=>(0,bg s t,e)):=by
 unfold rE na l2;simp only [anC,anG,anF];rw [zm aC (by omega) (by omega),ak]
 cases h:hM t with
 |error e=>
  have he:¬ e=0:=l4.cN _ _ h;rw [fh];simp only [he,anD,anF,x8,anH,anE]
 |ok r=>
  obtain⟨u,bC⟩:=r;have hu:=(l4.gb _ _ _ h).2;unfold hq at hu;rw [gA];simp only [anC,anE];by_cases hb:lo≤u∧u≤hi
  ·simp only [show¬ u<lo by omega,show¬ hi<u by omega,hb.1,hb.2,anC,anD,anF,Bool.and_self,anR,x8,anG,wr (x:=u) (by omega) (by omega)]
  ·have:(bif (decide (u<lo))then true else(decide (hi<u)))=true:=by
    rw [eS,←Bool.decide_or];exact decide_eq_true (by omega)
   have aa:(decide (lo≤u)&&decide (u≤hi))=false:=by
    rw [←Bool.decide_and];exact decide_eq_false hb
   simp only [this,anE,aa,Bool.false_eq_true,anS,x8,show¬ (5:Int)=0 by omega,anD,anH]
theorem ai_{t:anT}(aC:t <:+ s):match wb t with|.ok (o,bC)=>BK n ⟨s,bg s t,0⟩=some (o,bg s bC,0)|.error e=>k8 e (BK n ⟨s,bg s t,0⟩):=by
 unfold BK wb fv dv;rw [I6 hn aQ hs (by omega) (by omega) aC,ak]
 cases g1:na 0 9999 t with
 |error e=>
  have he:=n99.cN _ _ g1;simp only [X9 he,ak];rw [show(!decide (e=0))=true from gl he]
  exact⟨_,_,rfl⟩
 |ok r=>
  obtain⟨dG,t1⟩:=r;have jI:=iD n99 g1 aC;simp only
  rw [I6 hn aQ hs (by omega) (by omega) jI,ak]
  cases g2:na 0 9999 t1 with
  |error e=>
   have he:=n99.cN _ _ g2;simp only
   rw [show(!decide (e=0))=true from gl he]
   exact⟨_,_,rfl⟩
  |ok r=>
   obtain⟨eL,t2⟩:=r;have jg:=iD n99 g2 jI;simp only [anC,anG,anF];rw [show(16:Int)=((16:Nat):Int)from rfl,tw jg (by omega) (by omega) (by omega),ak]
   unfold iP;obtain⟨qR,rfl⟩:∃k,n=k+1:=⟨n-1,by omega⟩
   cases h:iC 16 t2 with
   |error e=>
    have he:=nT h;rw [qL h,fh];simp only [sP,x9,anP,anD,anF,BJ];exact⟨_,_,rfl⟩
   |ok r=>
    obtain⟨u,bC⟩:=r;obtain⟨Z,aa,ai⟩:=oF h;have en:bC <:+ s:=List.IsSuffix.trans ⟨eM u,Z.symm⟩ jg;have hu:=en.length_le;rw [qK h,gA];generalize bg s t=A
    have cL:=tC (L:=λm i t acc=>sP (qR+1) ((u:Int),bg s bC,0) ⟨s,A,0⟩ (dG,bg s t1,0) (eL,bg s t2,0) m (bg s t) 0 acc (i:Int)) (f:=λ_ v=>v) (D:=l5) (u:=u) (s:=s) (fin:=λacc t=>some (⟨dG,eL,acc⟩,bg s t,0)) (bad:=λe x=>k8 e x) (λx v t hx=>rU.k7 hx) (by
     intro m i t acc hm hi ha aC;simp only [sP,x9,anL,hi,anC,anE];rw [PY aC (by omega) (by omega),ak]
     have f6:room (acc.length+1) 32=true:=lx (by omega)
     cases g3:l5 t with
     |error e=>
      have he:¬ e=0:=rU.cN _ _ g3;rw [fh];simp only [anN,f6,aX];obtain⟨m,rfl⟩:∃j,m=j+1:=⟨m-1,by omega⟩
      simp only [sP,x9,he,anD,fr,Bool.and_false,anF,BJ];exact⟨_,_,rfl⟩
     |ok r=>
      obtain⟨v,t3⟩:=r;rw [gA];simp only [anN,f6,aX];rw [bD (by omega)]) (by
     intro m t acc ha aC;simp only [sP,x9,anP,anD,anF,BJ]) u (qR+1) 0 bC [] (by omega) (by omega) rfl en
    cases ah:gJ l5 u bC with
    |error e=>rw [ah]at cL;simp only [ah]at cL ⊢;exact cL
    |ok r=>
     obtain⟨l,mu⟩:=r;rw [ah]at cL;simp only [List.nil_append,tD,ah]at cL ⊢;exact cL
theorem aja{t:anT}(aC:t <:+ s):match tG t with|.ok (o,bC)=>BM n ⟨s,bg s t,0⟩=some (o,bg s bC,0)|.error e=>k8 e (BM n ⟨s,bg s t,0⟩):=by
 unfold BM tG fv dv;rw [I6 hn aQ hs (by omega) (by omega) aC,ak]
 cases g1:na 1 32 t with
 |error e=>
  have he:=P8.cN _ _ g1;simp only [X9 he,ak];rw [show(!decide (e=0))=true from gl he]
  exact⟨_,_,rfl⟩
 |ok r=>
  obtain⟨dG,t1⟩:=r;have jI:=iD P8 g1 aC;simp only
  rw [I6 hn aQ hs (by omega) (by omega) jI,ak]
  cases g2:na 1 1099511627776 t1 with
  |error e=>
   have he:=I1.cN _ _ g2;simp only
   rw [show(!decide (e=0))=true from gl he]
   exact⟨_,_,rfl⟩
  |ok r=>
   obtain⟨eL,t2⟩:=r;have jg:=iD I1 g2 jI;have pW:=(I1.gb _ _ _ g2).2;have hk:=Dm pW;simp only [anC,anG,anF];rw [show Br n eL=some (kA eL)from rfl,ak]
   obtain⟨u,hu⟩:=Int.eq_ofNat_of_zero_le hk.1
   (rw [hu];simp only [anK])
   generalize bg s t=A
   have cL:=tC (L:=λm i t acc=>vd n (u:Int) ⟨s,A,0⟩ (dG,bg s t1,0) (eL,bg s t2,0) m (bg s t) 0 acc (i:Int)) (f:=λi v=>(⟨dG,anV (eL-anV ((u:Int)-(i:Int))),v⟩:ev)) (D:=wb) (u:=u) (s:=s) (fin:=λacc t=>some (⟨dG,eL,acc⟩,bg s t,0)) (bad:=λe x=>k8 e x) (λx v t hx=>P9.k7 hx) (by
    intro m i t acc hm hi ha aC;have am:=ai_ hn aQ hs aC;simp only [vd,BL,anL,hi,anC,anE];have f6:room (acc.length+1) 56=true:=lx (by omega)
    cases g3:wb t with
    |error e=>
     have he:¬ e=0:=P9.cN _ _ g3;rw [g3]at am;obtain⟨v,a,am⟩:=am;rw [am,ak];simp only [anN,f6,aX];obtain⟨m,rfl⟩:∃j,m=j+1:=⟨m-1,by omega⟩
     simp only [vd,BL,he,anD,fr,Bool.and_false,anF,Gj];exact⟨_,_,rfl⟩
    |ok r=>
     obtain⟨v,t3⟩:=r;rw [g3]at am;simp only at am ⊢
     rw [am,ak];simp only [anN,f6,aX];rw [bD (by omega)]) (by
    intro m t acc ha aC;simp only [vd,BL,anP,anD,anF,Gj]) u n 0 t2 [] (by omega) (by omega) rfl jg
   cases ah:gJ wb u t2 with
   |error e=>rw [ah]at cL;simp only [ah]at cL ⊢;exact cL
   |ok r=>
    obtain⟨l,mu⟩:=r;rw [ah]at cL;simp only [List.nil_append,ah]at cL ⊢;simp only [tF,hu];exact cL
theorem ajb{t:anT}(aC:t <:+ s):Gk n s (bg s t)=some (res [] s (tH t)):=by
 unfold Gk tH l2 iP;rw [show(32:Int)=((32:Nat):Int)from rfl,tw aC (by omega) (by omega) (by omega),ak]
 cases h:iC 32 t with
 |error e=>rw [qL h,fh];simp only [gl (nT h),anE,fh]
 |ok r=>
  obtain⟨u,bC⟩:=r;obtain⟨Z,aa,ai⟩:=oF h;have en:bC <:+ s:=List.IsSuffix.trans ⟨eM u,Z.symm⟩ aC;have hu:=en.length_le;rw [qK h,gA];simp only [anC,anG,anF]
  have cL:=tC (L:=λm i t acc=>ve n ((u:Int),bg s bC,0) s m (bg s t) 0 acc (i:Int)) (f:=λ_ v=>v) (D:=tG) (u:=u) (s:=s) (fin:=λacc t=>BN n s (bg s t) 0 acc) (bad:=λe x=>x=some ([],0,e)) (λx v t hx=>I3.k7 hx) (by
   intro m i t acc hm hi ha aC;have am:=aja hn aQ hs aC;simp only [ve,BO,anL,hi,anC,anE];have f6:room (acc.length+1) 40=true:=lx (by omega)
   cases g3:tG t with
   |error e=>
    have he:¬ e=0:=I3.cN _ _ g3;rw [g3]at am;obtain⟨v,a,am⟩:=am;rw [am,ak];simp only [anN,f6,aX];obtain⟨m,rfl⟩:∃j,m=j+1:=⟨m-1,by omega⟩
    simp only [ve,BO,he,anD,fr,Bool.and_false,anF,BN,anH,anE]
   |ok r=>
    obtain⟨v,t3⟩:=r;rw [g3]at am;simp only at am ⊢
    rw [am,ak];simp only [anN,f6,aX];rw [bD (by omega)]) (by
   intro m t acc ha aC;simp only [ve,BO,anP,anD,anF]) u n 0 bC [] (by omega) (by omega) rfl en
  cases ah:gJ tG u bC with
  |error e=>rw [ah]at cL;simp only [ah]at cL ⊢;exact cL
  |ok r=>
   obtain⟨l,mu⟩:=r;rw [ah]at cL;simp only [List.nil_append,tD,ah]at cL ⊢;refine cL.trans ?_;obtain⟨g1,g2,g3⟩:=(I3.rep u).gb _ _ _ ah;simp only [BN,anC,anG,anF];rw [IT hn aQ (by omega) (I5 hn g3),ak]
   cases pJ l<;>rfl
end
abbrev jt:=List anT
def wc:d9 jt:=iP 64 (fD 24)
def X'(s:anT):fL s≠[]:=by unfold fL;simp [pG]
def wd:dR wc (dC fL) (λl=>l.length≤64∧∀v∈l,v.length≤24):=nb.tv _ (by omega) (λv _=>X' v)
def P'(b:Bool):d9 (jt×jt):=if b then dv wc λ_=>wc else PU ([],[])
def qS(b:Bool)(p:jt×jt):anT:=if b then dC fL p.1++dC fL p.2 else[]
def Dn(b:Bool)(p:jt×jt):Prop:=if b then(p.1.length≤64∧∀v∈p.1,v.length≤24)∧(p.2.length≤64∧∀v∈p.2,v.length≤24)else p=([],[])
def ajc:∀b,dR (P' b) (qS b) (Dn b)
 |true=>wd.dep λ_ _=>wd
 |false=>XI ([],[])
abbrev X_:=Int×Int×anT×List bq×Bool×(jt×jt)
def P_:d9 X_:=dv hM λ_=>dv hM λ_=>dv (fD 16) λ_=>dv (iP 6 l5) λ_=>dv qJ λb=>P' b
def nd(p:X_):Request:=⟨p.1,p.2.1,p.2.2.1,p.2.2.2.1,p.2.2.2.2.1,⟨false,p.2.2.2.2.2.1,p.2.2.2.2.2.2⟩⟩
def ne(r:Request):Prop:=hq r.Client∧hq r.Seq∧r.bd.length≤16∧(r.aw.length≤6∧∀v∈r.aw,pH v)∧Dn r.eW (r.bx.Reads,r.bx.cT)∧r.bx.eI=false
def i'(r:Request):anT:=iO r.Client++(iO r.Seq++(fL r.bd++(dC cx r.aw++(vZ r.eW++qS r.eW (r.bx.Reads,r.bx.cT)))))
def I7:dR (fD 16) fL (λs=>s.length≤16):=zj 16 (by omega)
def ajd:dR (fv nd P_) i' ne:=
 (l4.dep λ_ _=>l4.dep λ_ _=>I7.dep λ_ _=>(X7 6 (by omega)).dep λ_ _=>PT.dep λb _=>ajc b).map nd (λr=>(r.Client,r.Seq,r.bd,r.aw,r.eW,(r.bx.Reads,r.bx.cT))) ne i'
  (λr h=>⟨by obtain⟨a,b,c,d,e,f,g,i⟩:=r;have:f=false:=h.2.2.2.2.2;subst this;rfl,⟨h.1,h.2.1,h.2.2.1,h.2.2.2.1,trivial,h.2.2.2.2.1⟩,rfl⟩) (λa h=>⟨rfl,⟨h.1,h.2.1,h.2.2.1,h.2.2.2.1,h.2.2.2.2.2,rfl⟩⟩)
def r0(r:Request):Bool:=(decide (r.Client≤32)&&decide (r.Seq≤1099511627776))&&decide (rW r=0)
def we:d9 Request:=l2 r0 5 (fv nd P_)
def Qa:dR we i' (λr=>ne r∧r0 r=true):=ajd.chk _ _ (by omega)
def oJ:d9 (List Request):=iP 64 we
def I8:dR oJ (dC i') (λl=>l.length≤64∧∀v∈l,ne v∧r0 v=true):=Qa.tv _ (by omega) (λv _=>by unfold i' iO;simp [pG])
def wg:d9 (List be):=iP 32 (fv (λp=>⟨p.1,p.2⟩) (dv (fD 24) λ_=>ib))
def nf(h:be):anT:=fL h.Key++l1 h.Count
def Qb:dR (fv (λp=>(⟨p.1,p.2⟩:be)) (dv (fD 24) λ_=>ib)) nf (λh=>h.Key.length≤24∧eJ h.Count):=
 (nb.dep λ_ _=>kb).map (λp=>(⟨p.1,p.2⟩:be)) (λh:be=>(h.Key,h.Count)) _ nf (λb h=>⟨rfl,⟨h.1,h.2⟩,rfl⟩) (λa h=>⟨rfl,⟨h.1,h.2⟩⟩)
def aje:dR wg (dC nf) (λl=>l.length≤32∧∀h∈l,h.Key.length≤24∧eJ h.Count):=Qb.tv _ (by omega) (λv _=>by unfold nf fL;simp [pG])
def I9:dR (fD 16384) fL (λs=>s.length≤16384):=zj 16384 (by omega)
def Qc:d9 jt:=iP 16 (fD 16384)
def ajf:dR Qc (dC fL) (λl=>l.length≤16∧∀s∈l,s.length≤16384):=I9.tv _ (by omega) (λv _=>X' v)
def Qd{n:Nat}(hn:2000≤n){r:Request}(h:ne r):tA n r:=by
 have aJ:=h.2.2.2.2.1
 have hk:(r.bx.Reads.length≤64∧∀v∈r.bx.Reads,v.length≤24)∧(r.bx.cT.length≤64∧∀v∈r.bx.cT,v.length≤24):=by
  unfold Dn at aJ;cases hd:r.eW
  ·rw [hd]at aJ;simp only [Bool.false_eq_true,anS,Prod.mk.injEq]at aJ;rw [aJ.1,aJ.2];simp
  ·rw [hd]at aJ;exact aJ
 have hd:∀l:jt,(∀v∈l,v.length≤24)→∀i,(l.getD i default).length≤1000:=λl ab i=>qN (P:=λv:anT=>v.length≤1000) (λx hx=>by have:=ab x hx;omega) (by show([]:anT).length≤1000;simp) i
 exact⟨by have:=h.2.2.1;omega,by have:=h.2.2.2.1.1;omega,λi=>qN (P:=λv:bq=>v.S.length≤1000) (λx hx=>by have:=rZ (h.2.2.2.1.2 x hx);omega) (by show([]:anT).length≤1000;simp) i,by have:=hk.1.1;omega,by have:=hk.2.1;omega,hd _ hk.1.2,hd _ hk.2.2⟩
abbrev Do:Request:=⟨0,0,[],[],false,⟨false,[],[]⟩⟩
section
variable {n:Nat} (hn:2000≤n) (aQ:n≤1000000000) {s:anT} (hs:s.length<n)
theorem Qe{a e:Int}(he:e≠0):vb n ⟨s,a,e⟩=some (0,a,e):=by unfold vb;simp only [gl he,anE]
theorem I'{k a e:Int}(he:e≠0):u_ n k ⟨s,a,e⟩=some (0,a,e):=by unfold u_;simp only [gl he,anE]
theorem ajg{a e:Int}(he:e≠0):x2 n ⟨s,a,e⟩=some (false,a,e):=by unfold x2;simp only [gl he,anE]
theorem I_{k a e:Int}(he:e≠0):va n k ⟨s,a,e⟩=some ([],a,e):=by unfold va;simp only [gl he,anE]
theorem ajh{a e:Int}(he:e≠0):x4 n ⟨s,a,e⟩=some (⟨0,0,[]⟩,a,e):=by unfold x4;simp only [gl he,anE]
include hn aQ hs
theorem Ya{t:anT}(aC:t <:+ s):vb n ⟨s,bg s t,0⟩=some (res 0 s (hM t)):=by
 unfold vb pi;simp only [anC,anG,anF];rw [zm aC (by omega) (by omega),ak,ak]
theorem Yb{k:Nat}(hk:k≤1000){t:anT}(aC:t <:+ s):u_ n (k:Int) ⟨s,bg s t,0⟩=some (res 0 s (pI k t)):=by
 unfold u_ pi;simp only [anC,anG,anF];rw [tw aC (by omega) (by omega) (by omega),ak,ak]
theorem aji{t:anT}(aC:t <:+ s):x2 n ⟨s,bg s t,0⟩=some (res false s (qJ t)):=by
 unfold x2 pi;simp only [anC,anG,anF];rw [aiK aC (by omega),ak,ak]
theorem Yc{k:Nat}(hk:k≤1000){t:anT}(aC:t <:+ s):va n (k:Int) ⟨s,bg s t,0⟩=some (res [] s (fD k t)):=by
 unfold va pi;simp only [anC,anG,anF];rw [De aC (by omega) (by omega) (by omega),ak,ak]
theorem ajj{t:anT}(aC:t <:+ s):x4 n ⟨s,bg s t,0⟩=some (res ⟨0,0,[]⟩ s (l5 t)):=by
 unfold x4 pi;simp only [anC,anG,anF];rw [PY aC (by omega) (by omega),ak,ak]
theorem Qf{u:Nat}(hu:u<n){b c:Int}{B:hz}(cR:B.s=s):∀(k m i:Nat) (a e:Int) (acc:jt),e≠0→i+k=u→k<m→acc.length=i→k8 e (rB n ((u:Int),b,c) B m a e acc (i:Int)):=by
 intro k;induction k with
 |zero=>
  intro m i a e acc he hi hm ha;obtain⟨m,rfl⟩:∃j,m=j+1:=⟨m-1,by omega⟩
  obtain rfl:i=u:=by omega
  simp only [rB,x3,anP,anD,anF,Gf];exact⟨_,_,rfl⟩
 |succ k aG=>
  intro m i a e acc he hi hm ha;obtain⟨m,rfl⟩:∃j,m=j+1:=⟨m-1,by omega⟩
  simp only [rB,x3,anL,show i<u by omega,anC,anE,I_ he,ak,anN]
  rw [lx (by omega),aX,bD (by omega)]
  exact aG m (i+1) a e _ he (by omega) (by omega) (by simp [ha])
theorem Yd{t:anT}(aC:t <:+ s):match wc t with|.ok (l,bC)=>sO n ⟨s,bg s t,0⟩=some (l,bg s bC,0)|.error e=>k8 e (sO n ⟨s,bg s t,0⟩):=by
 unfold sO wc iP;rw [show(64:Int)=((64:Nat):Int)from rfl,Yb hn aQ hs (by omega) aC,ak]
 generalize bg s t=A
 cases h:iC 64 t with
 |error e=>
  rw [qL h,fh];exact Qf hn aQ hs (u:=0) (by omega) (B:=⟨s,A,0⟩) rfl 0 n 0 0 e [] (nT h) rfl (by omega) rfl
 |ok r=>
  obtain⟨u,bC⟩:=r;obtain⟨Z,aa,ai⟩:=oF h;have en:bC <:+ s:=List.IsSuffix.trans ⟨eM u,Z.symm⟩ aC;have hu:=en.length_le;rw [qK h,gA]
  have cL:=tC (L:=λm i t acc=>rB n ((u:Int),bg s bC,0) ⟨s,A,0⟩ m (bg s t) 0 acc (i:Int)) (f:=λ_ v=>v) (D:=fD 24) (u:=u) (s:=s) (fin:=λacc t=>some (acc,bg s t,0)) (bad:=λe x=>k8 e x) (λx v t hx=>nb.k7 hx) (by
   intro m i t acc hm hi ha aC;simp only [rB,x3,anL,hi,anC,anE];rw [show(24:Int)=((24:Nat):Int)from rfl,Yc hn aQ hs (by omega) aC,ak]
   have f6:room (acc.length+1) 16=true:=lx (by omega)
   cases g3:fD 24 t with
   |error e=>
    have he:=nb.cN _ _ g3;rw [fh];simp only [anN,f6,aX];rw [bD (by omega)]
    exact Qf hn aQ hs (by omega) (B:=⟨s,A,0⟩) rfl (u-(i+1)) m (i+1) _ e _ he (by omega) (by omega) (by simp [ha])
   |ok r=>
    obtain⟨v,t3⟩:=r;rw [gA];simp only [anN,f6,aX];rw [bD (by omega)]) (by
   intro m t acc ha aC;simp only [rB,x3,anP,anD,anF,Gf]) u n 0 bC [] (by omega) (by omega) rfl en
  cases ah:gJ (fD 24) u bC with
  |error e=>rw [ah]at cL;simp only [ah]at cL ⊢;exact cL
  |ok r=>
   obtain⟨l,mu⟩:=r;rw [ah]at cL;simp only [List.nil_append,tD,ah]at cL ⊢;exact cL
theorem ajk{a e:Int}(he:e≠0):k8 e (sO n ⟨s,a,e⟩):=by
 unfold sO;rw [I' he,ak];exact Qf hn aQ hs (u:=0) (by omega) (B:=⟨s,a,e⟩) rfl 0 n 0 a e [] he rfl (by omega) rfl
theorem ajl{r1 r2:Int×Int×Int}{r3:anT×Int×Int}{a e:Int}{l:List bq}(he:e≠0):x5 n r1 r2 s r3 a e l=some (Do,0,e):=by
 unfold x5;rw [ajg he,ak];simp only [anF,rC,gl he,anE]
theorem Dp{u:Nat}(hu:u<n){b c:Int}{r1 r2:Int×Int×Int}{r3:anT×Int×Int}:∀(k m i:Nat) (a e:Int) (acc:List bq),e≠0→i+k=u→k<m→acc.length=i→rD n r1 r2 ((u:Int),b,c) s r3 m a e acc (i:Int)=some (Do,0,e):=by
 intro k;induction k with
 |zero=>
  intro m i a e acc he hi hm ha;obtain⟨m,rfl⟩:∃j,m=j+1:=⟨m-1,by omega⟩
  obtain rfl:i=u:=by omega
  simp only [rD,x6,anP,anD,anF];exact ajl hn aQ hs he
 |succ k aG=>
  intro m i a e acc he hi hm ha;obtain⟨m,rfl⟩:∃j,m=j+1:=⟨m-1,by omega⟩
  simp only [rD,x6,anL,show i<u by omega,anC,anE,ajh he,ak,anN]
  rw [lx (by omega),aX,bD (by omega)]
  exact aG m (i+1) a e _ he (by omega) (by omega) (by simp [ha])
theorem Ye{r1 r2:Int×Int×Int}{r3:anT×Int×Int}{l:List bq}{r24:Bool×Int×Int}{t:anT}{ks ws:jt}(Z:hq r1.1)(aa:hq r2.1)(al:tA n (nd (r1.1,r2.1,r3.1,l,r24.1,(ks,ws)))):
 rC n r1 r2 s r3 l r24 (bg s t) 0 ks ws=some (res Do s (if r0 (nd (r1.1,r2.1,r3.1,l,r24.1,(ks,ws)))then .ok (nd (r1.1,r2.1,r3.1,l,r24.1,(ks,ws)),t)else .error 5)):=by
 unfold rC r0;unfold hq at Z aa;simp only [anC,anG,anF];by_cases hb:r1.1≤32∧r2.1≤1099511627776
 ·simp only [show¬ 32<r1.1 by omega,show¬ 1099511627776<r2.1 by omega,anD,anF,wr (x:=r1.1) (by omega) (by omega),wr (x:=r2.1) (by omega) (by omega)]
  rw [show nG n ⟨r1.1,r2.1,r3.1,l,r24.1,⟨false,ks,ws⟩⟩=some (rW (nd (r1.1,r2.1,r3.1,l,r24.1,(ks,ws))))from IR hn aQ al,ak]
  rw [show decide ((nd (r1.1,r2.1,r3.1,l,r24.1,(ks,ws))).Client≤32)=true from decide_eq_true hb.1,show decide ((nd (r1.1,r2.1,r3.1,l,r24.1,(ks,ws))).Seq≤1099511627776)=true from decide_eq_true hb.2]
  by_cases an:rW (nd (r1.1,r2.1,r3.1,l,r24.1,(ks,ws)))=0
  ·simp only [an,anC,anG,anF,Bool.and_self,anR];rfl
  ·simp only [an,anD,anH,anE,Bool.and_false,Bool.false_eq_true,anS];rfl
 ·have ai:(bif (decide (32<r1.1))then true else(decide (1099511627776<r2.1)))=true:=by
   rw [eS,←Bool.decide_or];exact decide_eq_true (by omega)
  have ay:(decide ((nd (r1.1,r2.1,r3.1,l,r24.1,(ks,ws))).Client≤32)&&decide ((nd (r1.1,r2.1,r3.1,l,r24.1,(ks,ws))).Seq≤1099511627776))=false:=by
   rw [←Bool.decide_and];exact decide_eq_false hb
  simp only [ai,ay,anE,Bool.false_and,Bool.false_eq_true,anS];rfl
theorem ajm{t:anT}(aC:t <:+ s):Gg n s (bg s t)=some (res Do s (we t)):=by
 unfold Gg we l2 fv P_ dv;rw [Ya hn aQ hs aC,ak];cases g1:hM t with
 |error e=>
  have he:=l4.cN _ _ g1;rw [fh];simp only [Qe he,I_ he,I' he,ak];exact Dp hn aQ hs (u:=0) (by omega) 0 n 0 _ e [] he rfl (by omega) rfl
 |ok r=>
  obtain⟨dG,t1⟩:=r;have jI:=iD l4 g1 aC;have zX:=(l4.gb _ _ _ g1).2;rw [gA];simp only
  rw [Ya hn aQ hs jI,ak];cases g2:hM t1 with
  |error e=>
   have he:=l4.cN _ _ g2;rw [fh];simp only [Qe he,I_ he,I' he,ak];exact Dp hn aQ hs (u:=0) (by omega) 0 n 0 _ e [] he rfl (by omega) rfl
  |ok r=>
   obtain⟨eL,t2⟩:=r;have jg:=iD l4 g2 jI;have pW:=(l4.gb _ _ _ g2).2;rw [gA];simp only
   rw [show(16:Int)=((16:Nat):Int)from rfl,Yc hn aQ hs (by omega) jg,ak]
   cases g3:fD 16 t2 with
   |error e=>
    have he:=I7.cN _ _ g3;rw [fh];simp only [Qe he,I_ he,I' he,ak];exact Dp hn aQ hs (u:=0) (by omega) 0 n 0 _ e [] he rfl (by omega) rfl
   |ok r=>
    obtain⟨ly,t3⟩:=r;have Dl:=iD I7 g3 jg;have Yf:=(I7.gb _ _ _ g3).2;rw [gA];simp only
    rw [show(6:Int)=((6:Nat):Int)from rfl,Yb hn aQ hs (by omega) Dl,ak]
    unfold iP;cases h:iC 6 t3 with
    |error e=>
     have he:=nT h;rw [qL h,fh];exact Dp hn aQ hs (u:=0) (by omega) 0 n 0 _ e [] he rfl (by omega) rfl
    |ok r=>
     obtain⟨u,bC⟩:=r;obtain⟨Z,aa,ai⟩:=oF h;have en:bC <:+ s:=List.IsSuffix.trans ⟨eM u,Z.symm⟩ Dl;have hu:=en.length_le;rw [qK h,gA]
     have cL:=tC (L:=λm i t acc=>rD n (dG,bg s t1,0) (eL,bg s t2,0) ((u:Int),bg s bC,0) s (ly,bg s t3,0) m (bg s t) 0 acc (i:Int)) (f:=λ_ v=>v) (D:=l5) (u:=u) (s:=s) (fin:=λacc t=>x5 n (dG,bg s t1,0) (eL,bg s t2,0) s (ly,bg s t3,0) (bg s t) 0 acc) (bad:=λe x=>x=some (Do,0,e)) (λx v t hx=>rU.k7 hx) (by
      intro m i t acc hm hi ha aC;simp only [rD,x6,anL,hi,anC,anE];rw [ajj hn aQ hs aC,ak];have f6:room (acc.length+1) 32=true:=lx (by omega)
      cases g3:l5 t with
      |error e=>
       have he:=rU.cN _ _ g3;rw [fh];simp only [anN,f6,aX];rw [bD (by omega)]
       exact Dp hn aQ hs (by omega) (u-(i+1)) m (i+1) _ e _ he (by omega) (by omega) (by simp [ha])
      |ok r=>
       obtain⟨v,t3⟩:=r;rw [gA];simp only [anN,f6,aX];rw [bD (by omega)]) (by
      intro m t acc ha aC;simp only [rD,x6,anP,anD,anF]) u n 0 bC [] (by omega) (by omega) rfl en
     cases ah:gJ l5 u bC with
     |error e=>rw [ah]at cL;simp only [ah]at cL ⊢;exact cL
     |ok r=>
      obtain⟨l,t4⟩:=r;obtain⟨aS,bo,cH⟩:=(rU.rep u).gb _ _ _ ah;have I0:t4 <:+ s:=iD (rU.rep u) ah en;rw [ah]at cL;simp only [List.nil_append,tD,ah]at cL ⊢;refine cL.trans ?_;unfold x5;rw [aji hn aQ hs I0,ak];cases g5:qJ t4 with
      |error e=>
       have he:=PT.cN _ _ g5;rw [fh];simp only [anF,rC,gl he,anE,fh]
      |ok r=>
       obtain⟨b,t5⟩:=r;have Yg:=iD PT g5 I0;rw [gA];cases b with
       |false=>
        simp only [anF];have al:ne (nd (dG,eL,ly,l,false,([],[]))):=⟨zX,pW,Yf,⟨by show l.length≤6;omega,cH⟩,rfl,rfl⟩
        exact Ye hn aQ hs (r1:=(dG,bg s t1,0)) (r2:=(eL,bg s t2,0)) (r3:=(ly,bg s t3,0)) (l:=l) (r24:=(false,bg s t5,0)) (t:=t5) (ks:=[]) (ws:=[]) zX pW (Qd hn al)
       |true=>
        have hk:=Yd hn aQ hs Yg;simp only [anE,P',anR,dv];cases g6:wc t5 with
        |error e=>
         have he:=wd.cN _ _ g6;rw [g6]at hk;obtain⟨v,a,hk⟩:=hk;rw [hk,ak];obtain⟨md,dD,rj⟩:=ajk hn aQ hs (a:=a) he;simp only [rj,ak,rC,gl he,anE,fh]
        |ok r=>
         obtain⟨ks,t6⟩:=r;have ajn:=iD wd g6 Yg;have ajo:=(wd.gb _ _ _ g6).2;rw [g6]at hk;simp only at hk ⊢
         rw [hk,ak];have hk:=Yd hn aQ hs ajn;simp only
         cases g7:wc t6 with
         |error e=>
          have he:=wd.cN _ _ g7;rw [g7]at hk;obtain⟨v,a,hk⟩:=hk;rw [hk,ak];simp only [rC,gl he,anE,fh]
         |ok r=>
          obtain⟨ws,t7⟩:=r;have ajp:=(wd.gb _ _ _ g7).2;rw [g7]at hk;simp only at hk ⊢
          rw [hk,ak];simp only
          have al:ne (nd (dG,eL,ly,l,true,(ks,ws))):=⟨zX,pW,Yf,⟨by show l.length≤6;omega,cH⟩,⟨ajo,ajp⟩,rfl⟩
          exact Ye hn aQ hs (r1:=(dG,bg s t1,0)) (r2:=(eL,bg s t2,0)) (r3:=(ly,bg s t3,0)) (l:=l) (r24:=(true,bg s t5,0)) (t:=t7) (ks:=ks) (ws:=ws) zX pW (Qd hn al)
theorem ajq{t:anT}(aC:t <:+ s):Gi n s (bg s t)=some (res [] s (oJ t)):=by
 unfold Gi oJ iP;rw [show(64:Int)=((64:Nat):Int)from rfl,tw aC (by omega) (by omega) (by omega),ak]
 cases h:iC 64 t with
 |error e=>rw [qL h,fh];simp only [gl (nT h),anE,fh]
 |ok r=>
  obtain⟨u,bC⟩:=r;obtain⟨Z,aa,ai⟩:=oF h;have en:bC <:+ s:=List.IsSuffix.trans ⟨eM u,Z.symm⟩ aC;have hu:=en.length_le;rw [qK h,gA];simp only [anC,anG,anF];rw [show vc n s ((u:Int),bg s bC,0) n [] 0 (bg s bC)=_ from XQ (L:=λm i t acc=>vc n s ((u:Int),bg s bC,0) m acc (i:Int) (bg s t)) (D:=we) (u:=u) (s:=s) (fin:=λacc t=>some (acc,bg s t,0)) (bad:=λe=>some ([],0,e)) (λx v t hx=>Qa.k7 hx) ?_ ?_ (by omega) en]
  ·cases ah:gJ we u bC with
   |error e=>rfl
   |ok r=>rfl
  ·intro m i t acc hi ha aC;simp only [vc,Gh,anL,hi,anC,anE];rw [ajm hn aQ hs aC,ak];cases ay:we t with
   |error e=>rw [fh];simp only [gl (Qa.cN _ _ ay),anE]
   |ok r=>
    obtain⟨x,t1⟩:=r;rw [gA];simp only [anC,anG,anF,anN];rw [lx (by omega),aX,bD (by omega)]
  ·intro m t acc ha aC;simp only [vc,Gh,anP,anD,anF,MU]
end
section
variable {n:Nat} (hn:2000≤n) (aQ:n≤1000000000) {s:anT} (hs:s.length<n)
include hn aQ hs
end
structure Yh(p:bd):Prop where
 v:oy p=0
 i:qB p
 w:agq p≤125000
def hr(p:bd):anT:=if oy p=0 then lu p else[]
structure oK(p:bd):Prop where
 i:qB p
 n:p.Name.length≤300000
 f:jr p.Params≤300000
 b:eg p.Body≤300000
def Yh.fw{p:bd}(h:Yh p):oK p:=by
 have hw:p.Name.length+jr p.Params+eg p.Body≤125000:=h.w;exact⟨h.i,by omega,by omega,by omega⟩
def Qg{n:Nat}{p:bd}(h:oK p)(hn:3000000≤n):sJ n p=some (hr p):=by
 have Z:=h.n;have aa:=h.f;have ai:=h.b;unfold hr;by_cases an:oy p=0
 ·rw [if_pos an];exact aia p h.i an hn h.f h.b
 ·rw [if_neg an];unfold sJ;rw [Pi p (by omega) (by omega) (by omega) (by omega) (by omega)]
  simp only [ak,an,anD,anH,anE]
def ajr{p:bd}(h:oK p):(hr p).length≤1300000:=by
 unfold hr;by_cases an:oy p=0
 ·rw [if_pos an];have:=Xo (PI h.i an)
  have ai:=h.b;omega
 ·rw [if_neg an];simp
def Ja(x:aA):(⟨x.cD,x.cp,x.Rows⟩:aA)=x:=rfl
def Jb(x:b7):(⟨x.Version,x.aW⟩:b7)=x:=rfl
def Qh(x:Request):(⟨x.Client,x.Seq,x.bd,x.aw,x.eW,(⟨x.bx.eI,x.bx.Reads,x.bx.cT⟩:fg)⟩:Request)=x:=rfl
def wh(x:bP):(⟨x.Pos,(⟨x.aA.cD,x.aA.cp,x.aA.Rows⟩:aA),x.cc,x.cQ,(⟨x.Place.Version,x.Place.aW⟩:b7),x.be,x.Queue,x.de⟩:bP)=x:=rfl
def zz(l:List bd):Bool:=(allI l.length λi=>!(decide (hr (l.getD i default)=[])||decide (16384<(((hr (l.getD i default)).length:Nat):Int)))&&(!decide (0<(i:Int))||Op.bytesLess (l.getD (pv i) default).Name (l.getD i default).Name))&&decide (l.length≤16)
def Dq(l:List Request):Bool:=(allI l.length λi=>decide (rW (l.getD i default)=0))&&decide (l.length≤64)
def hN(r:bP):Bool:=((((((((decide (0≤r.Pos)&&decide (r.Pos≤1099511627776))&&mv r.aA)&&decide (r.aA.cp=r.Pos))&&zz r.cc)&&pJ r.cQ)&&oH r.Place)&&v8 r.be)&&Dq r.Queue)
structure wi(n:Nat)(r:bP):Prop where
 st:IW n r.aA
 Dr:r.cc.length<n
 l6:∀i,oK (r.cc.getD i default)
 wj:r.cQ.length<n
 oL:∀i,rY n (r.cQ.getD i default)
 pl:r.Place.aW.length<n
 Ds:∀i,v_ (r.Place.aW.getD i default)
 aC:r.be.length<n
 kh:∀i,(r.be.getD i default).Key.length≤1000
 pM:r.Queue.length<n
 wk:∀i,tA n (r.Queue.getD i default)
def Yi:oK default:=by
 refine⟨⟨by show([]:anT).length≤_;simp,by show([]:List Param).length≤_;simp,λi hi=>by exact absurd hi (by show¬ i<([]:List Param).length;simp),trivial⟩,by show([]:anT).length≤_;simp,by show jr []≤_;simp [jr],by show eg []≤_;simp [eg]⟩
section
variable {n:Nat} (hn:3000000≤n) (aQ:n≤1000000000)
include hn aQ
theorem ajs{l:List bd}(ab:l.length<n)(h:∀i,oK (l.getD i default)):F2 n l=some (zz l):=by
 unfold F2 zz;rw [nc (L:=xR n l) (chk:=λi=>!(decide (hr (l.getD i default)=[])||decide (16384<(((hr (l.getD i default)).length:Nat):Int)))&&(!decide (0<(i:Int))||Op.bytesLess (l.getD (pv i) default).Name (l.getD i default).Name)) (no:=false) (yes:=true) ab,rV]
 ·simp only [fq];by_cases al:l.length≤16
  ·simp only [al,show¬ 16<l.length by omega,anC,anD,anF,Bool.and_true]
  ·simp only [al,show 16<l.length by omega,anC,anD,anE,Bool.and_false]
 ·intro m i hi;simp only [xR,F1,anL,hi,anC,anE,b4 hi,aX,ak,anK,bD (show i≤4611686018427387904 by omega),Qg (h i) hn,qM hi (show l.length≤1000000000 by omega)]
  exact oG (by simp only [eS,fr,Bool.not_and,Bool.not_or,Bool.not_not,←Df])
 ·intro m;simp only [xR,F1,ME,anP,anD,anF]
theorem Yj(x y:Int):decide (x<y) = !decide (y≤x):=by
 by_cases h:y≤x
 ·rw [decide_eq_true h,decide_eq_false (by omega)];rfl
 ·rw [decide_eq_false h,decide_eq_true (by omega)];rfl
theorem Dt{r:bP}(h:wi n r):qj n r=some (hN r):=by
 have e1:u7 n r n 0=some (if(allI r.Queue.length λi=>decide (rW (r.Queue.getD i default)=0)) then((pJ r.cQ&&oH r.Place)&&v8 r.be)else false):=by
  refine nc (L:=u7 n r) h.pM ?_ ?_
  ·intro m i hi;simp only [u7,F7,anL,hi,anC,anE,b4 hi,aX,anK,bD (show i≤4611686018427387904 by have:=h.pM;omega)]
   rw [IR (by omega) aQ (h.wk i),ak]
   exact oG rfl
  ·intro m;simp only [u7,F7,MM,anP,anD,anF];rw [IT (by omega) aQ h.wj h.oL,XY (by omega) aQ h.pl h.Ds,aiP (by omega) aQ h.aC]
   simp only [ak,tx,fr];cases pJ r.cQ<;>cases oH r.Place<;>rfl
 unfold qj;rw [e1,P4 (by omega) aQ h.st,ajs hn aQ h.Dr h.l6]
 simp only [ak,tx,eS,fr,fq];unfold hN Dq;rw [show decide (r.Pos<0) = !decide (0≤r.Pos)from Yj hn aQ _ _,show decide (1099511627776<r.Pos) = !decide (r.Pos≤1099511627776)from Yj hn aQ _ _]
 by_cases al:r.Queue.length≤64
 ·simp only [al,show¬ 64<r.Queue.length by omega,anC,anD,Bool.and_true,Bool.or_false,IQ]
  cases decide (0≤r.Pos)<;>cases decide (r.Pos≤1099511627776)<;>cases mv r.aA<;>cases decide (r.aA.cp=r.Pos)<;>cases zz r.cc<;>cases pJ r.cQ<;>cases oH r.Place<;>cases v8 r.be<;>simp
 ·simp only [al,show 64<r.Queue.length by omega,anC,anD,Bool.and_false,anQ,anE]
omit hn aQ in
theorem qT{L:Nat→Int→anX}{len:Nat}{m:Nat}(hm:len<m)(step:∀m i,i<len→L (m+1) (i:Int)=L m ((i+1:Nat):Int))(stop:∀m,L (m+1) (len:Int)=some true):L m 0=some true:=by
 have:=nc (chk:=λ_=>true) (no:=false) (yes:=true) hm (λm i hi=>by rw [step m i hi,if_pos rfl]) stop
 rw [this,rV]
 congr 1
 rw [hW];exact λ_ _=>rfl
theorem ajt{s:aA}(h:IW n s):G2 n s s=some true:=by
 have Z:=h.rows;unfold G2;simp only [anC,anG,anF];refine qT (L:=sV n s s) Z (λm i hi=>?_) (λm=>?_)
 ·have aa:=(h.row i).IV;simp only [sV,G1,anL,hi,anC,anE,b4 hi,aX,anK,anG,anF]
  have:=XZ (L:=yv n (sV n s s m) (i:Int) s s) (len:=(s.Rows.getD i default).bJ.length) (chk:=λ_=>true) (no:=false) (yes:=sV n s s m ((i+1:Nat):Int)) (m:=n) aa (λaju k hk=>by
   simp only [yv,G0,anL,anK,hk,anC,anE,b4 hk,aX,Bool.and_self,anG,anF,anR,bD (show k≤4611686018427387904 by omega)]) (λaju=>by
   simp only [yv,G0,NO,anK,anP,anD,anF,bD (show i≤4611686018427387904 by omega)])
  rw [this,if_pos];rw [hW];exact λ_ _=>rfl
 ·simp only [sV,G1,NN,anP,anD,anF]
theorem ajv{l:List bd}(ab:l.length<n)(h:∀i,oK (l.getD i default)):GZ n l l=some true:=by
 unfold GZ;simp only [anC,anG,anF];refine qT (L:=yu n l l) ab (λm i hi=>?_) (λm=>?_)
 ·have Z:=h i;have aa:=Z.f;have ai:=Z.b;have ay:=Ik (l.getD i default).Params;simp only [yu,GY,anL,hi,anC,anE,b4 hi,aX,anK,agH (n:=n) (l.getD i default) (by omega) (by omega) (by omega) (by omega),ak,anG,anF,bD (show i≤4611686018427387904 by omega)]
 ·simp only [yu,GY,NM,anP,anD,anF]
theorem ajw{o:Outcome}(h:zu n o):Ck n o o=some true:=by
 have Z:=h.out;unfold Ck;simp only [anC,anG,anF];refine qT (L:=yA n o o) Z (λm i hi=>?_) (λm=>?_)
 ·simp only [yA,G',anL,hi,anC,anE,b4 hi,aX,anK,Bool.and_self,anG,anF,bD (show i≤4611686018427387904 by omega)]
 ·simp only [yA,G',NU,anP,anD,anF]
theorem ajx{s:bG}(h:rY n s):Ha n s.bS s.bS=some true:=by
 have Z:=h.rep;unfold Ha;simp only [anC,anG,anF];refine qT (L:=yB n s.bS s.bS) Z (λm i hi=>?_) (λm=>?_)
 ·have:=ajw hn aQ (h.out i)
  simp only [yB,G_,NV,anL,hi,anC,anE,b4 hi,aX,anK];rw [show Ck n ⟨(s.bS.getD i default).Outcome.Status,(s.bS.getD i default).Outcome.Code,(s.bS.getD i default).Outcome.Out⟩ ⟨(s.bS.getD i default).Outcome.Status,(s.bS.getD i default).Outcome.Code,(s.bS.getD i default).Outcome.Out⟩=some true from this]
  simp only [ak,anE,anG,anF,bD (show i≤4611686018427387904 by omega)]
 ·simp only [yB,G_,NW,anP,anD,anF]
theorem ajy{l:List bG}(ab:l.length<n)(h:∀i,rY n (l.getD i default)):Hc n l l=some true:=by
 unfold Hc;simp only [anC,anG,anF];refine qT (L:=yC n l l) ab (λm i hi=>?_) (λm=>?_)
 ·simp only [yC,Hb,anL,hi,anC,anE,b4 hi,aX,anK,ajx hn aQ (h i),ak,anG,anH,anF,Bool.false_or,bD (show i≤4611686018427387904 by omega)]
 ·simp only [yC,Hb,NX,anP,anD,anF]
theorem ajz{p:b7}(ab:p.aW.length<n):G4 n p p=some true:=by
 unfold G4;simp only [anC,anG,anF];refine qT (L:=yw n p p) ab (λm i hi=>?_) (λm=>?_)
 ·simp only [yw,G3,anL,hi,anC,anE,b4 hi,aX,anK,Bool.and_self,anG,anF,bD (show i≤4611686018427387904 by omega)]
 ·simp only [yw,G3,NP,anP,anD,anF]
theorem ajA{l:List be}(ab:l.length<n):G6 n l l=some true:=by
 unfold G6;simp only [anC,anG,anF];refine qT (L:=yx n l l) ab (λm i hi=>?_) (λm=>?_)
 ·simp only [yx,G5,anL,hi,anC,anE,b4 hi,aX,anK,Bool.and_self,anG,anF,bD (show i≤4611686018427387904 by omega)]
 ·simp only [yx,G5,NQ,anP,anD,anF]
theorem Yk{l:jt}(ab:l.length<n):Cj n l l=some true:=by
 unfold Cj;simp only [anC,anG,anF];refine qT (L:=yy n l l) ab (λm i hi=>?_) (λm=>?_)
 ·simp only [yy,G7,anL,hi,anC,anE,b4 hi,aX,anK,anG,anF,bD (show i≤4611686018427387904 by omega)]
 ·simp only [yy,G7,NR,anP,anD,anF]
theorem ajB{r:Request}(h:tA n r):G9 n r r=some true:=by
 have Z:=h.args;unfold G9 NS;rw [Yk hn aQ h.P1,Yk hn aQ h.P2];simp only [anC,anG,anF,beq_self_eq_true,anH,anE,ak];refine qT (L:=yz n r r) Z (λm i hi=>?_) (λm=>?_)
 ·simp only [yz,G8,anL,hi,anC,anE,b4 hi,aX,anK,Bool.and_self,anG,anF,bD (show i≤4611686018427387904 by omega)]
 ·simp only [yz,G8,NT,anP,anD,anF]
theorem ajC{r:bP}(h:wi n r):yE n r r=some true:=by
 have Z:=h.pM;unfold yE;rw [ajt hn aQ h.st,ajv hn aQ h.Dr h.l6,ajy hn aQ h.wj h.oL,ajz hn aQ h.pl,ajA hn aQ h.aC];simp only [anC,anG,anH,anF,anE,ak];refine qT (L:=yD n r r) Z (λm i hi=>?_) (λm=>?_)
 ·simp only [yD,Hd,anL,hi,anC,anE,b4 hi,aX,anK,ajB hn aQ (h.wk i),ak,anG,anF,bD (show i≤4611686018427387904 by omega)]
 ·simp only [yD,Hd,NY,anP,anD,anF]
end
abbrev zA:=Int×List bI×jt×List bG×b7×List be×List Request×Int
def Jc:d9 zA:=dv ib λ_=>dv zw λ_=>dv Qc λ_=>dv tH λ_=>dv tE λ_=>dv wg λ_=>dv oJ λ_=>hM
def gX(p:zA):anT:=l1 p.1++(dC kB p.2.1++(dC fL p.2.2.1++(dC kC p.2.2.2.1++(nV p.2.2.2.2.1++(dC nf p.2.2.2.2.2.1++(dC i' p.2.2.2.2.2.2.1++iO p.2.2.2.2.2.2.2))))))
structure r4(p:zA):Prop where
 pos:eJ p.1
 l6:(p.2.1.length≤2147483647∧∀v∈p.2.1,qO v)∧nU p.2.1=true
 src:p.2.2.1.length≤16∧∀s∈p.2.2.1,s.length≤16384
 oL:(p.2.2.2.1.length≤32∧∀v∈p.2.2.2.1,pL v)∧pJ p.2.2.2.1=true
 wl:(eJ p.2.2.2.2.1.Version∧p.2.2.2.2.1.aW.length≤16∧∀v∈p.2.2.2.2.1.aW,pK v)∧oH p.2.2.2.2.1=true
 aC:p.2.2.2.2.2.1.length≤32∧∀h∈p.2.2.2.2.2.1,h.Key.length≤24∧eJ h.Count
 pM:p.2.2.2.2.2.2.1.length≤64∧∀v∈p.2.2.2.2.2.2.1,ne v∧r0 v=true
 Qi:hq p.2.2.2.2.2.2.2
def ajD:dR Jc gX r4:=
 (kb.dep λ_ _=>IX.dep λ_ _=>ajf.dep λ_ _=>I4.dep λ_ _=>IY.dep λ_ _=>aje.dep λ_ _=>I8.dep λ_ _=>l4).as _ _
  (λv=>⟨λh=>⟨h.pos,h.l6,h.src,h.oL,h.wl,h.aC,h.pM,h.Qi⟩,λh=>⟨h.1,h.2.1,h.2.2.1,h.2.2.2.1,h.2.2.2.2.1,h.2.2.2.2.2.1,h.2.2.2.2.2.2.1,h.2.2.2.2.2.2.2⟩⟩) (λv _=>rfl)
def ajE{k:Nat}{t:anT}{e:Int}(h:pI k t = .error e):e≠0:=by
 unfold pI fv at h;cases aa:iC k t with
 |error f=>rw [aa]at h;cases h;exact nT aa
 |ok r=>rw [aa]at h;cases h
def hC{α:Type}(z:α)(s:anT)(a:Int):Except Int (α×anT)→α×Int×Int
 |.ok (v,t)=>(v,bg s t,0)
 |.error e=>(z,a,e)
section
variable {n:Nat} (hn:3000000≤n) (aQ:n≤1000000000) {s:anT} (hs:s.length<n)
theorem tI{α:Type}{z:α}{D:d9 α}{t:anT}{a:Int}(h0:∀e,D t = .error e→e≠0):(bif (!decide ((res z s (D t)).2.2=0))then some (z,a,(res z s (D t)).2.2)else some ((res z s (D t)).1,(res z s (D t)).2.1,(res z s (D t)).2.2))=some (hC z s a (D t)):=by
 cases h:D t with
 |error e=>rw [fh];simp only [gl (h0 e h),anE];rfl
 |ok r=>obtain⟨v,bC⟩:=r;rfl
theorem ajF{a e:Int}(he:e≠0):vg n ⟨s,a,e⟩=some (0,a,e):=by unfold vg;simp only [gl he,anE]
theorem ajG{a e:Int}(he:e≠0):xZ n ⟨s,a,e⟩=some ([],a,e):=by unfold xZ;simp only [gl he,anE]
theorem Du{p a e:Int}(he:e≠0):vf n p ⟨s,a,e⟩=some (0,a,e):=by unfold vf;simp only [gl he,anE]
theorem ajH{a e:Int}(he:e≠0):x' n ⟨s,a,e⟩=some ([],a,e):=by unfold x';simp only [gl he,anE]
theorem Yl{a e:Int}(he:e≠0):x1 n ⟨s,a,e⟩=some (⟨0,[]⟩,a,e):=by unfold x1;simp only [gl he,anE]
theorem ajI{a e:Int}(he:e≠0):x7 n ⟨s,a,e⟩=some ([],a,e):=by unfold x7;simp only [gl he,anE]
theorem Ym{a e:Int}(he:e≠0):x_ n ⟨s,a,e⟩=some (0,a,e):=by unfold x_;simp only [gl he,anE]
include hn aQ hs
theorem Yn{t:anT}(aC:t <:+ s):vg n ⟨s,bg s t,0⟩=some (hC 0 s (bg s t) (ib t)):=by
 unfold vg;simp only [anC,anG,anF];rw [PX aC (by omega) (by omega),ak];exact tI (λe h=>kb.cN _ _ h)
theorem ajJ{t:anT}(aC:t <:+ s):xZ n ⟨s,bg s t,0⟩=some (hC [] s (bg s t) (zw t)):=by
 unfold xZ;simp only [anC,anG,anF];rw [ai5 (by omega) aQ hs aC,ak];exact tI (λe h=>IX.cN _ _ h)
theorem Yo{k:Nat}(hk:k≤1000){t:anT}(aC:t <:+ s):vf n (k:Int) ⟨s,bg s t,0⟩=some (hC 0 s (bg s t) (pI k t)):=by
 unfold vf MV;simp only [anC,anG,anF];rw [tw aC (by omega) (by omega) (by omega),ak,ak];exact tI (λe h=>ajE h)
theorem Yp{k:Nat}(hk:k≤20000){t:anT}(aC:t <:+ s):BP n (k:Int) ⟨s,bg s t,0⟩=some (hC [] s (bg s t) (fD k t)):=by
 unfold BP MW;simp only [anC,anG,anF];rw [De aC (by omega) (by omega) (by omega),ak,ak];exact tI (λe h=>(zj k (by omega)).cN _ _ h)
theorem ajK{t:anT}(aC:t <:+ s):x' n ⟨s,bg s t,0⟩=some (hC [] s (bg s t) (tH t)):=by
 unfold x';simp only [anC,anG,anF];rw [ajb (by omega) aQ hs aC,ak];exact tI (λe h=>I4.cN _ _ h)
theorem ajL{t:anT}(aC:t <:+ s):x1 n ⟨s,bg s t,0⟩=some (hC ⟨0,[]⟩ s (bg s t) (tE t)):=by
 unfold x1;simp only [anC,anG,anF];rw [ai8 (by omega) aQ hs aC,ak];exact tI (λe h=>IY.cN _ _ h)
theorem ajM{t:anT}(aC:t <:+ s):x7 n ⟨s,bg s t,0⟩=some (hC [] s (bg s t) (oJ t)):=by
 unfold x7;simp only [anC,anG,anF];rw [ajq (by omega) aQ hs aC,ak];exact tI (λe h=>I8.cN _ _ h)
theorem ajN{t:anT}(aC:t <:+ s):x_ n ⟨s,bg s t,0⟩=some (hC 0 s (bg s t) (hM t)):=by
 unfold x_;simp only [anC,anG,anF];rw [zm aC (by omega) (by omega),ak];exact tI (λe h=>l4.cN _ _ h)
theorem ajO{b:e5}(hb:b.s=s){r1 r26 r27 r2 v25}{a e:Int}{l:List be}(he:e≠0):k8 e (sQ n b r1 r26 r27 r2 v25 a e l):=by
 unfold sQ;rw [ajI he,ak,Ym he,ak];exact⟨_,_,rfl⟩
theorem zB{b:e5}(hb:b.s=s){r1 r26 r27 r2 v25}{a e c:Int}{l:List be}{m:Nat}(he:e≠0):k8 e (qk n b r1 r26 r27 r2 v25 (m+1) a e l c):=by
 have re:decide (e=0)=false:=decide_eq_false he;simp only [qk,BR,re,fr,Bool.and_false,anF];exact ajO hn aQ hs hb he
theorem ajP{b:e5}(hb:b.s=s){r1 r2}{a e:Int}{l:jt}(he:e≠0):k8 e (sR n b r1 r2 a e l):=by
 unfold sR xU;rw [ajH he,ak,Yl he,ak,ak,Du he,ak];obtain⟨m,rfl⟩:∃j,n=j+1:=⟨n-1,by omega⟩
 exact zB hn aQ hs hb he
theorem Jd{b:e5}(hb:b.s=s){r1 r2}{a e c:Int}{l:jt}{m:Nat}(he:e≠0):k8 e (sS n b r1 r2 (m+1) a e l c):=by
 have re:decide (e=0)=false:=decide_eq_false he;simp only [sS,BS,re,fr,Bool.and_false,anF];exact ajP hn aQ hs hb he
theorem ajQ{b:e5}(hb:b.s=s){r1:Int×Int×Int}{r26:List bG×Int×Int}{r27:b7×Int×Int}{r2:List bI×Int×Int}{v25:jt}{l:List be}{t:anT}(aC:t <:+ s):
 match dv oJ (λ_=>hM) t with|.ok (p,bC)=>sQ n b r1 r26 r27 r2 v25 (bg s t) 0 l=some (⟨⟨r1.1,⟨0,0,[]⟩,[],r26.1,r27.1,l,p.1,p.2⟩,r2.1,v25⟩,bg s bC,0)|.error e=>k8 e (sQ n b r1 r26 r27 r2 v25 (bg s t) 0 l):=by
 unfold sQ dv;rw [hb,ajM hn aQ hs aC,ak];cases g1:oJ t with
 |error e=>
  have he:=I8.cN _ _ g1;simp only [hC];rw [Ym he,ak];exact⟨_,_,rfl⟩
 |ok r=>
  obtain⟨dG,t1⟩:=r;have jI:=iD I8 g1 aC;simp only [hC];rw [ajN hn aQ hs jI,ak];cases g2:hM t1 with
  |error e=>exact⟨_,_,rfl⟩
  |ok r=>rfl
theorem ajR{b:e5}(hb:b.s=s){r1:Int×Int×Int}{r26:List bG×Int×Int}{r27:b7×Int×Int}{r2:List bI×Int×Int}{v25:jt}{u:Nat}(hu:u<n){t:anT}(aC:t <:+ s):
 match dv (gJ (fv (λp=>(⟨p.1,p.2⟩:be)) (dv (fD 24) λ_=>ib)) u) (λ_=>dv oJ (λ_=>hM)) t with|.ok (p,bC)=>qk n b r1 r26 r27 r2 v25 n (bg s t) 0 [] (u:Int)=some (⟨⟨r1.1,⟨0,0,[]⟩,[],r26.1,r27.1,p.1,p.2.1,p.2.2⟩,r2.1,v25⟩,bg s bC,0)|.error e=>k8 e (qk n b r1 r26 r27 r2 v25 n (bg s t) 0 [] (u:Int)):=by
 have cL:=tC (L:=λm i t acc=>qk n b r1 r26 r27 r2 v25 m (bg s t) 0 acc ((u-i:Nat):Int)) (f:=λ_ v=>v) (D:=fv (λp=>(⟨p.1,p.2⟩:be)) (dv (fD 24) λ_=>ib)) (u:=u) (s:=s) (fin:=λacc t=>sQ n b r1 r26 r27 r2 v25 (bg s t) 0 acc) (bad:=λe x=>k8 e x) (λx v t hx=>Qb.k7 hx) (by
  intro m i t acc hm hi ha aC;have hc:(0:Int)<((u-i:Nat):Int):=by omega
  simp only [qk,BR,hc,anC,anE,BQ,ak];rw [hb,show(24:Int)=((24:Nat):Int)from rfl,Yp hn aQ hs (by omega) aC,ak]
  have f6:room (acc.length+1) 24=true:=lx (by omega)
  obtain⟨m,rfl⟩:∃j,m=j+1:=⟨m-1,by omega⟩
  unfold fv dv;cases g1:fD 24 t with
  |error e=>
   have he:=nb.cN _ _ g1;simp only [hC];rw [ajF he,ak];simp only [anN,show(((24:Nat):Int)).toNat=24 from rfl,f6,aX]
   exact zB hn aQ hs hb he
  |ok r=>
   obtain⟨dG,t1⟩:=r;have jI:=iD nb g1 aC;simp only [hC];rw [Yn hn aQ hs jI,ak];cases g2:ib t1 with
   |error e=>
    have he:=kb.cN _ _ g2;simp only [hC,anN,f6,aX];exact zB hn aQ hs hb he
   |ok r=>
    obtain⟨eL,t2⟩:=r;simp only [hC,anN,f6,aX];rw [show anV (((u-i:Nat):Int)-1)=((u-(i+1):Nat):Int)by rw [wr]<;>omega]) (by
  intro m t acc ha aC;simp only [qk,BR,Nat.sub_self,show¬ (0:Int)<((0:Nat):Int)by omega,anD,anF]) u n 0 t [] (by omega) hu rfl aC
 simp only [Nat.sub_zero]at cL;unfold dv;cases ah:gJ (fv (λp=>(⟨p.1,p.2⟩:be)) (dv (fD 24) λ_=>ib)) u t with
 |error e=>unfold dv at ah;rw [ah];unfold dv at cL;rw [ah]at cL;exact cL
 |ok r=>
  obtain⟨l,mu⟩:=r;have Qj:=iD (Qb.rep u) ah aC;rw [ah]at cL;unfold dv at ah;rw [ah];simp only [List.nil_append,tD]at cL ⊢;rw [cL];have hj:=ajQ hn aQ hs hb (r1:=r1) (r26:=r26) (r27:=r27) (r2:=r2) (v25:=v25) (l:=l) Qj;unfold dv at hj;cases g:oJ mu with
  |error e=>rw [g]at hj;exact hj
  |ok r=>
   obtain⟨q,t1⟩:=r;rw [g]at hj;simp only at hj ⊢
   cases eG:hM t1 with
   |error e=>rw [eG]at hj;exact hj
   |ok r=>rw [eG]at hj;exact hj
end
def r5{α β:Type}{D:d9 α}{k:α→d9 β}{t:anT}{e:Int}(h:D t = .error e):dv D k t = .error e:=by unfold dv;rw [h]
def wm{α β:Type}{D:d9 α}{k:α→d9 β}{t bC:anT}{v:α}(h:D t = .ok (v,bC)):dv D k t=match k v bC with|.ok (w,u)=>.ok ((v,w),u)|.error e=>.error e:=by unfold dv;rw [h];rfl
def Yq{t:anT}:wg t=match iC 32 t with|.ok (u,t)=>gJ (fv (λp=>(⟨p.1,p.2⟩:be)) (dv (fD 24) λ_=>ib)) u t|.error e=>.error e:=rfl
abbrev tailD:d9 (List bG×b7×List be×List Request×Int):=dv tH λ_=>dv tE λ_=>dv wg λ_=>dv oJ λ_=>hM
section
variable {n:Nat} (hn:3000000≤n) (aQ:n≤1000000000) {s:anT} (hs:s.length<n)
include hn aQ hs
theorem ajS{b:e5}(hb:b.s=s){r1:Int×Int×Int}{r2:List bI×Int×Int}{v25:jt}{t:anT}(aC:t <:+ s):
 match tailD t with|.ok (p,bC)=>sR n b r1 r2 (bg s t) 0 v25=some (⟨⟨r1.1,⟨0,0,[]⟩,[],p.1,p.2.1,p.2.2.1,p.2.2.2.1,p.2.2.2.2⟩,r2.1,v25⟩,bg s bC,0)|.error e=>k8 e (sR n b r1 r2 (bg s t) 0 v25):=by
 unfold sR xU tailD;obtain⟨qR,jx⟩:∃j,n=j+1:=⟨n-1,by omega⟩
 rw [hb,ajK hn aQ hs aC,ak];cases g1:tH t with
 |error e=>
  have he:=I4.cN _ _ g1;rw [r5 g1];simp only [hC];rw [Yl he,ak,ak,Du he,ak];have:=zB hn aQ hs hb (r1:=r1) (r26:=([],bg s t,e)) (r27:=(⟨0,[]⟩,bg s t,e)) (r2:=r2) (v25:=v25) (a:=bg s t) (c:=0) (l:=[]) (m:=qR) he
  rw [←jx]at this;exact this
 |ok r=>
  obtain⟨dG,t1⟩:=r;have jI:=iD I4 g1 aC;rw [wm g1];simp only [hC];rw [ajL hn aQ hs jI,ak,ak];cases g2:tE t1 with
  |error e=>
   have he:=IY.cN _ _ g2;rw [r5 g2];simp only [hC];rw [Du he,ak];have:=zB hn aQ hs hb (r1:=r1) (r26:=(dG,bg s t1,0)) (r27:=(⟨0,[]⟩,bg s t1,e)) (r2:=r2) (v25:=v25) (a:=bg s t1) (c:=0) (l:=[]) (m:=qR) he
   rw [←jx]at this;exact this
  |ok r=>
   obtain⟨eL,t2⟩:=r;have jg:=iD IY g2 jI;rw [wm g2];simp only [hC];rw [show(32:Int)=((32:Nat):Int)from rfl,Yo hn aQ hs (by omega) jg,ak]
   cases h:iC 32 t2 with
   |error e=>
    have he:=nT h;have bf:wg t2 = .error e:=by rw [Yq,h]
    rw [r5 bf,qL h];simp only [hC];have:=zB hn aQ hs hb (r1:=r1) (r26:=(dG,bg s t1,0)) (r27:=(eL,bg s t2,0)) (r2:=r2) (v25:=v25) (a:=bg s t2) (c:=0) (l:=[]) (m:=qR) he
    rw [←jx]at this;exact this
   |ok r=>
    obtain⟨u,bC⟩:=r;obtain⟨Z,aa,ai⟩:=oF h;have en:bC <:+ s:=List.IsSuffix.trans ⟨eM u,Z.symm⟩ jg;have hu:=en.length_le;rw [qK h];simp only [hC];have cL:=ajR hn aQ hs hb (r1:=r1) (r26:=(dG,bg s t1,0)) (r27:=(eL,bg s t2,0)) (r2:=r2) (v25:=v25) (u:=u) (by omega) en
    have bf:wg t2=gJ (fv (λp=>(⟨p.1,p.2⟩:be)) (dv (fD 24) λ_=>ib)) u bC:=by rw [Yq,h]
    cases ah:gJ (fv (λp=>(⟨p.1,p.2⟩:be)) (dv (fD 24) λ_=>ib)) u bC with
    |error e=>
     rw [r5 ah]at cL;rw [ah]at bf;rw [r5 bf];exact cL
    |ok r=>
     obtain⟨l,mu⟩:=r;rw [wm ah]at cL;rw [ah]at bf;rw [wm bf];cases g:dv oJ (λ_=>hM) mu with
     |error e=>rw [g]at cL;exact cL
     |ok r=>rw [g]at cL;exact cL
theorem ajT:match Jc s with|.ok (p,bC)=>BT n ⟨s,0,0⟩=some (⟨⟨p.1,⟨0,0,[]⟩,[],p.2.2.2.1,p.2.2.2.2.1,p.2.2.2.2.2.1,p.2.2.2.2.2.2.1,p.2.2.2.2.2.2.2⟩,p.2.1,p.2.2.1⟩,bg s bC,0)|.error e=>k8 e (BT n ⟨s,0,0⟩):=by
 unfold BT xU Jc;obtain⟨qR,jx⟩:∃j,n=j+1:=⟨n-1,by omega⟩
 have hb:(⟨s,0,0⟩:e5).s=s:=rfl;have aC:s <:+ s:=List.suffix_refl s;rw [show(⟨s,0,0⟩:e5)=⟨s,bg s s,0⟩by rw [ais],Yn hn aQ hs aC,ak]
 generalize cR:(⟨s,bg s s,0⟩:e5)=B
 have hb:B.s=s:=by rw [←cR]
 rw [hb];cases g1:ib s with
 |error e=>
  have he:=kb.cN _ _ g1;rw [r5 g1];simp only [hC];rw [ajG he,ak,ak,Du he,ak];have:=Jd hn aQ hs hb (r1:=(0,bg s s,e)) (r2:=([],bg s s,e)) (a:=bg s s) (c:=0) (l:=[]) (m:=qR) he
  rw [←jx]at this;exact this
 |ok r=>
  obtain⟨dG,t1⟩:=r;have jI:=iD kb g1 aC;rw [wm g1];simp only [hC];rw [ajJ hn aQ hs jI,ak,ak];cases g2:zw t1 with
  |error e=>
   have he:=IX.cN _ _ g2;rw [r5 g2];simp only [hC];rw [Du he,ak];have:=Jd hn aQ hs hb (r1:=(dG,bg s t1,0)) (r2:=([],bg s t1,e)) (a:=bg s t1) (c:=0) (l:=[]) (m:=qR) he
   rw [←jx]at this;exact this
  |ok r=>
   obtain⟨eL,t2⟩:=r;have jg:=iD IX g2 jI;rw [wm g2];simp only [hC];rw [show(16:Int)=((16:Nat):Int)from rfl,Yo hn aQ hs (by omega) jg,ak]
   have ik:Qc t2=match iC 16 t2 with|.ok (u,t)=>gJ (fD 16384) u t|.error e=>.error e:=rfl
   cases h:iC 16 t2 with
   |error e=>
    have he:=nT h;rw [h]at ik;rw [r5 ik,qL h];simp only [hC];have:=Jd hn aQ hs hb (r1:=(dG,bg s t1,0)) (r2:=(eL,bg s t2,0)) (a:=bg s t2) (c:=0) (l:=[]) (m:=qR) he
    rw [←jx]at this;exact this
   |ok r=>
    obtain⟨u,bC⟩:=r;obtain⟨Z,aa,ai⟩:=oF h;have en:bC <:+ s:=List.IsSuffix.trans ⟨eM u,Z.symm⟩ jg;have hu:=en.length_le;rw [h]at ik;rw [qK h];simp only [hC]
    have cL:=tC (L:=λm i t acc=>sS n B (dG,bg s t1,0) (eL,bg s t2,0) m (bg s t) 0 acc ((u-i:Nat):Int)) (f:=λ_ v=>v) (D:=fD 16384) (u:=u) (s:=s) (fin:=λacc t=>sR n B (dG,bg s t1,0) (eL,bg s t2,0) (bg s t) 0 acc) (bad:=λe x=>k8 e x) (λx v t hx=>I9.k7 hx) (by
     intro m i t acc hm hi ha aC;have hc:(0:Int)<((u-i:Nat):Int):=by omega
     simp only [sS,BS,hc,anC,anE,BQ,ak];rw [hb,show(16384:Int)=((16384:Nat):Int)from rfl,Yp hn aQ hs (by omega) aC,ak]
     have f6:room (acc.length+1) 16=true:=lx (by omega)
     obtain⟨m,rfl⟩:∃j,m=j+1:=⟨m-1,by omega⟩
     cases g1:fD 16384 t with
     |error e=>
      have he:=I9.cN _ _ g1;simp only [hC,anN,f6,aX];exact Jd hn aQ hs hb he
     |ok r=>
      obtain⟨dG,t1⟩:=r;simp only [hC,anN,f6,aX];rw [show anV (((u-i:Nat):Int)-1)=((u-(i+1):Nat):Int)by rw [wr]<;>omega]) (by
     intro m t acc ha aC;simp only [sS,BS,Nat.sub_self,show¬ (0:Int)<((0:Nat):Int)by omega,anD,anF]) u n 0 bC [] (by omega) (by omega) rfl en
    simp only [Nat.sub_zero]at cL;cases ah:gJ (fD 16384) u bC with
    |error e=>
     rw [ah]at cL;simp only at ik
     rw [ah]at ik;rw [r5 ik];exact cL
    |ok r=>
     obtain⟨l,mu⟩:=r;have Qj:=iD (I9.rep u) ah en;rw [ah]at cL;simp only at ik
     rw [ah]at ik;rw [wm ik];simp only [List.nil_append,tD]at cL ⊢;rw [cL];have hj:=ajS hn aQ hs hb (r1:=(dG,bg s t1,0)) (r2:=(eL,bg s t2,0)) (v25:=l) Qj;unfold tailD at hj;cases g:(dv tH λ_=>dv tE λ_=>dv wg λ_=>dv oJ λ_=>hM) mu with
     |error e=>rw [g]at hj;exact hj
     |ok r=>rw [g]at hj;exact hj
end
abbrev Yr:bP:=⟨0,⟨0,0,[]⟩,[],[],⟨0,[]⟩,[],[],0⟩
def ajU(l:List bI)(a:Int)(i:Nat)(hi:i<l.length):((iQ l a).Rows.getD i default)=⟨(l.getD i default).Key,[⟨a,(l.getD i default).b0⟩]⟩:=by
 unfold iQ;simp [List.getD_eq_getElem?_getD,hi]
def ajV{n:Nat}(hn:2000≤n){l:List bI}(ab:l.length<n)(h:∀p∈l,qO p)(a:Int):IW n (iQ l a):=by
 refine⟨by unfold iQ;simpa using ab,λi=>?_⟩
 by_cases hi:i<l.length
 ·rw [ajU l a i hi];have hp:=X2 (h _ (IU hi));refine⟨hp.1,by show 1<n;omega,λk=>?_⟩
  refine qN (P:=λv:Version=>v.b0.S.length≤1000) (λx hx=>?_) (by show([]:anT).length≤1000;simp) k
  rw [List.mem_singleton.1 hx];exact hp.2
 ·have:(iQ l a).Rows.getD i default=default:=by
   unfold iQ;rw [List.getD_eq_getElem?_getD,List.getElem?_eq_none (by simp;omega)];rfl
  rw [this];refine⟨by show([]:anT).length≤1000;simp,by show 0<n;omega,λk=>?_⟩
  show(([]:List Version).getD k default).b0.S.length≤1000
  simp [List.getD];show([]:anT).length≤1000
  simp
def Ys{n:Nat}(hn:2000≤n):tA n default:=Qd hn ⟨by show hq 0;unfold hq;omega,by show hq 0;unfold hq;omega,by show([]:anT).length≤16;simp,⟨by show([]:List bq).length≤6;simp,λv an=>by cases an⟩,rfl,rfl⟩
def ajW{p:zA}(h:r4 p):p.2.1.length≤(gX p).length:=by
 have Z:=IP (E:=kB) (l:=p.2.1) λv _=>by unfold kB fL;simp [pG]
 unfold gX;rw [show dC kB p.2.1=eM p.2.1.length++ia kB p.2.1 from rfl]
 simp only [anM];omega
def Yt{n:Nat}(hn:2000≤n):wi n Yr:=by
 have h0:∀{α:Type} (l:List α),l=[]→l.length<n:=λl h=>by rw [h];show 0<n;omega
 exact {
  st:=by
   refine⟨h0 _ rfl,λi=>⟨?_,?_,λk=>?_⟩⟩
   ·show([]:anT).length≤1000;simp
   ·exact h0 _ rfl
   ·show([]:anT).length≤1000;simp
  Dr:=h0 _ rfl
  l6:=λi=>qN (P:=oK) (λx hx=>absurd hx (by show¬ x∈([]:List bd);simp)) Yi i
  wj:=h0 _ rfl
  oL:=I5 hn (λx hx=>by cases hx)
  pl:=h0 _ rfl
  Ds:=X4 (λx hx=>by cases hx)
  aC:=h0 _ rfl
  kh:=λi=>by show([]:anT).length≤1000;simp
  pM:=h0 _ rfl
  wk:=λi=>qN (P:=tA n) (λx hx=>absurd hx (by show¬ x∈([]:List Request);simp)) (Ys hn) i}
def ajX{s t:anT}(h:t <:+ s):(bg s t=((s.length:Nat):Int))↔t=[]:=by
 have:=h.length_le
 unfold bg;constructor
 ·intro e;have:t.length=0:=by omega
  exact List.eq_nil_of_length_eq_zero this
 ·intro e;subst e;simp
section
variable {n:Nat} (hn:3000000≤n) (aQ:n≤1000000000) {s:anT} (hs:s.length≤2000)
include hn aQ hs
end
def Je:Cl 10000000=some true:=by kernel_rfl
def qU{α R:Type}[Inhabited α]{l:List α}{E:α→anT}{B:Nat}{L:Nat→anT→Nat→Option R}{fin:anT→Option R}
 (hs:∀m i acc,i<l.length→acc.length+(E (l.getD i default)).length≤B→L (m+1) acc i=L m (acc++E (l.getD i default)) (i+1))
 (he:∀m acc,acc.length≤B→L (m+1) acc l.length=fin acc):
 ∀m i acc,l.length<m+i→i≤l.length→acc.length+(ia E (l.drop i)).length≤B→L m acc i=fin (acc++ia E (l.drop i)):=by
 intro m;induction m with
 |zero=>intro i acc Z aa;omega
 |succ m aG=>
  intro i acc Z aa ai;by_cases hi:i<l.length
  ·rw [fJ l i default hi,zh]at ai ⊢;rw [anM]at ai;rw [hs m i acc hi (by omega),aG (i+1) _ (by omega) (by omega) (by rw [anM];omega),List.append_assoc]
  ·obtain rfl:i=l.length:=by omega
   rw [gV l _ hi,aiq]at ai ⊢;rw [he m acc (by simpa using ai),List.append_nil]
def zC{n:Nat}(hn:10≤n){z:Int}(h:hq z):hA n (IntKind.u64.wrap z)=some (iO z):=by
 obtain⟨Z,aa⟩:=h;have e:IntKind.u64.wrap z=((z.toNat:Nat):Int):=by rw [IntKind.wrap_u64];omega
 rw [e];exact tr hn (by omega)
def r6{n:Nat}(hn:10≤n){k:Nat}(h:k<18446744073709551616):hA n (IntKind.u64.wrap (k:Int))=some (eM k):=by
 rw [rT h];exact tr hn h
def k9{n:Nat}{s t:anT}(h:t.length+s.length≤10000000):jD n s (gz t)=some (((s.length:Nat):Int),gz (t++s)):=by
 unfold jD xE;simp only [ak,IK,PO (show t.length+s.length≤140737488355328 by omega),aX]
 rw [PM];rfl
def Qk{n:Nat}{t:anT}(h:t.length≤10000000):ru n (gz t)=some (t,gz t):=by
 unfold ru;simp only [Xt,Xs,IK,show t.length≤9223372036854775807 by omega,anC,Bool.and_self,aX]
def qV{α:Type}[Inhabited α]{P:α→Prop}{l:List α}(h:∀x∈l,P x){i:Nat}(hi:i<l.length):P (l.getD i default):=by
 rw [List.getD_eq_getElem?_getD,List.getElem?_eq_getElem hi];exact h _ (List.getElem_mem hi)
def ajY{n:Nat}(hn:2000≤n){l:List bI}(ab:l.length<n)(h:∀p∈l,qO p)(cR:(dC kB l).length≤1000000):FU n l=some (dC kB l):=by
 have hlen:l.length≤(ia kB l).length:=IP λv _=>by unfold kB fL;simp [pG]
 unfold dC at cR ⊢;rw [anM]at cR
 have key:=qU (l:=l) (E:=kB) (B:=2000000) (L:=λm acc i=>xL n l m (gz acc) (i:Int)) (fin:=λacc=>some acc)
  (λm i acc hi hb=>by
   obtain⟨Z,aa⟩:=qV h hi;have ai:=rZ aa;unfold kB at hb ⊢;rw [anM]at hb;simp only [xL,FT,hi,b4 hi,anK,anL,anC,anE,aX,bD (show i≤4611686018427387904 by omega)]
   rw [tu (by omega) (by omega),ak,k9 (by omega),ak,
    show uQ n (⟨((l.getD i default).b0).Kind,((l.getD i default).b0).N,((l.getD i default).b0).S⟩:bq)=_ from PQ (v:=(l.getD i default).b0) (by omega) aa.2 (by omega),ak,
    k9 (by rw [anM];omega),ak,List.append_assoc])
  (λm acc ha=>by
   simp only [xL,FT,anL,Nat.lt_irrefl,anD,anF,MC];rw [Qk (by omega),ak])
 unfold FU;rw [r6 (by omega) (by omega),ak,PN,k9 (by simp;omega),ak]
 exact key n 0 _ (by omega) (by omega) (by simp;omega)
def ajZ{n:Nat}(hn:2000≤n){p:b7}(h0:eJ p.Version)(ab:p.aW.length≤16)(h:∀x∈p.aW,pK x)(cR:(nV p).length≤1000000):Ba n p=some (nV p):=by
 have an:=qG h0;unfold nV dC at cR ⊢;simp only [anM]at cR
 have key:=qU (l:=p.aW) (E:=qP) (B:=2000000) (L:=λm acc i=>xw n p m (i:Int) acc) (fin:=λacc=>some acc)
  (λm i acc hi hb=>by
   obtain⟨Z,aa,ai,ay,aJ⟩:=qV h hi;unfold qP at hb ⊢;simp only [anM]at hb;simp only [xw,Fh,hi,b4 hi,anK,anL,anC,anE,aX,bD (show i≤4611686018427387904 by omega)]
   rw [vX (by omega) Z,ak,tu (by omega) (by omega),ak,vX (by omega) ai,ak,vX (by omega) ay,ak,tu (by omega) (by omega),ak]
   simp (disch:=omega) only [List.length_append,lZ,aX,List.append_assoc])
  (λm acc ha=>by simp only [xw,Fh,anL,Nat.lt_irrefl,anD,anF,LQ])
 unfold Ba;rw [vX (by omega) h0,ak,r6 (by omega) (by omega),ak,lZ (by omega),aX,←List.append_assoc]
 exact key n 0 _ (by omega) (by omega) (by simp only [anM,List.drop_zero];omega)
def Yu{n:Nat}(hn:2000≤n){l:jt}(ab:l.length≤64)(h:∀x∈l,x.length≤24)(cR:(dC fL l).length≤1000000):A8 n l=some (dC fL l):=by
 unfold dC at cR ⊢;simp only [anM]at cR
 have key:=qU (l:=l) (E:=fL) (B:=2000000) (L:=λm acc i=>xm n l m (i:Int) acc) (fin:=λacc=>some acc)
  (λm i acc hi hb=>by
   have Z:=qV h hi;simp only [xm,E8,hi,b4 hi,anK,anL,anC,anE,aX,bD (show i≤4611686018427387904 by omega)]
   rw [tu (by omega) (by omega),ak]
   simp (disch:=omega) only [lZ,aX])
  (λm acc ha=>by simp only [xm,E8,anL,Nat.lt_irrefl,anD,anF,LL])
 unfold A8;rw [r6 (by omega) (by omega),ak]
 exact key n 0 _ (by omega) (by omega) (by rw [List.drop_zero];omega)
def ng{z:Int}(h:hq z):(iO z).length≤10:=mt (by obtain⟨Z,aa⟩:=h;omega)
def Yv{o:Outcome}(h:oI o):hq o.Status∧hq o.Code:=⟨⟨h.1.1,by have:=h.1.2;omega⟩,⟨h.2.1.1,by have:=h.2.1.2;omega⟩⟩
def Yw{α β:Type}(E:β→anT)(f:α→β)(l:List α):ia E (l.map f)=ia (λx=>E (f x)) l:=by
 unfold ia;rw [List.map_map];rfl
section
variable {n:Nat} (hn:2000≤n)
include hn
theorem aj0(dS aq:List Int→Int→Option anT)(l:List bG)(i j:Nat)(hj:j≤4611686018427387904)(am:oI ((((l.getD i default).bS).getD j default).Outcome))(acc:anT)
 (cR:acc.length+(ia cx ((((l.getD i default).bS).getD j default).Outcome.Out)).length≤2000000):
 u2 n dS aq l (i:Int) (j:Int) n (gz acc) 0=dS (gz (acc++ia cx ((((l.getD i default).bS).getD j default).Outcome.Out))) ((j+1:Nat):Int):=by
 have ab:=am.2.2.1
 have key:=qU (l:=(((l.getD i default).bS).getD j default).Outcome.Out) (E:=cx) (B:=2000000) (L:=λm acc k=>u2 n dS aq l (i:Int) (j:Int) m (gz acc) (k:Int)) (fin:=λacc=>dS (gz acc) ((j+1:Nat):Int))
  (λm k acc hk hb=>by
   have aa:=qV am.2.2.2 hk;have ai:=rZ aa;simp only [u2,FP,anK,hk,b4 hk,anL,anC,anE,aX,bD (show k≤4611686018427387904 by omega)]
   rw [PQ (by omega) aa.2 (by omega),ak,k9 (by omega),ak])
  (λm acc ha=>by
   simp only [u2,FP,anK,anL,Nat.lt_irrefl,anD,anF,Mz,bD hj])
 have:=key n 0 acc (by omega) (by omega) (by rw [List.drop_zero];exact cR)
 rw [List.drop_zero]at this;exact this
theorem aj1(aq:List Int→Int→Option anT)(l:List bG)(i:Nat)(hi:i≤4611686018427387904)(ab:(l.getD i default).bS.length≤1000)(am:∀r∈(l.getD i default).bS,oI r.Outcome)(acc:anT)
 (cR:acc.length+(ia (λr:ev=>qQ r.Outcome) (l.getD i default).bS).length≤2000000):
 u4 n aq l (i:Int) n (gz acc) 0=aq (gz (acc++ia (λr:ev=>qQ r.Outcome) (l.getD i default).bS)) ((i+1:Nat):Int):=by
 have key:=qU (l:=(l.getD i default).bS) (E:=λr:ev=>qQ r.Outcome) (B:=2000000) (L:=λm acc j=>u4 n aq l (i:Int) m (gz acc) (j:Int)) (fin:=λacc=>aq (gz acc) ((i+1:Nat):Int))
  (λm j acc hj hb=>by
   have aa:=qV (P:=λr:ev=>oI r.Outcome) am hj
   obtain⟨ai,ay⟩:=Yv aa;have aJ:=aa.2.2.1;have gZ:=ng ai;have jy:=ng ay;have am':=mt (u:=(((l.getD i default).bS).getD j default).Outcome.Out.length) (by omega)
   unfold qQ dC at hb ⊢;simp only [anM]at hb;simp only [u4,FQ,anK,hj,b4 hj,anL,anC,anE,aX]
   rw [zC (by omega) ai,ak,zC (by omega) ay,ak,lZ (by omega),aX,r6 (by omega) (by omega),ak,lZ (by rw [anM];omega),aX,
    k9 (by simp only [anM];omega),ak]
   refine(aj0 hn _ aq l i j (by omega) aa _ (by simp only [anM];omega)).trans ?_
   simp only [List.append_assoc])
  (λm acc ha=>by
   simp only [u4,FQ,anK,anL,Nat.lt_irrefl,anD,anF,My,bD hi])
 have:=key n 0 acc (by omega) (by omega) (by rw [List.drop_zero];exact cR)
 rw [List.drop_zero]at this;exact this
theorem aj2{l:List bG}(an:rv n l=some true)(ab:l.length≤32)(h:∀s∈l,pL s)(cR:(dC kC l).length≤1000000):Bw n l=some (dC kC l):=by
 unfold dC at cR ⊢;simp only [anM]at cR
 have key:=qU (l:=l) (E:=kC) (B:=2000000) (L:=λm acc i=>xK n l m (gz acc) (i:Int)) (fin:=λacc=>some acc)
  (λm i acc hi hb=>by
   have aa:=qV h hi;obtain⟨⟨c1,c2⟩,⟨d1,d2⟩,aJ,bE,cz⟩:=aa;have cP:hq (l.getD i default).Client:=⟨by omega,by omega⟩
   have aq:hq (l.getD i default).Next:=⟨by omega,by omega⟩
   have gZ:=ng cP;have jy:=ng aq;have hk:=Dm ⟨d1,d2⟩;have ah:(l.getD i default).bS.length≤1000:=by rw [List.length_map]at bE;omega
   have am:∀r∈(l.getD i default).bS,oI r.Outcome:=λr ah=>cz _ (List.mem_map_of_mem ah)
   unfold kC at hb ⊢;rw [Yw]at hb ⊢;simp only [anM]at hb;simp only [xK,FSb,anK,hi,b4 hi,anL,anC,anE,aX];rw [zC (by omega) cP,ak,zC (by omega) aq,ak,lZ (by omega),aX,k9 (by simp only [anM];omega),ak]
   refine(aj1 hn _ l i (by omega) ah am _ (by simp only [anM];omega)).trans ?_
   simp only [List.append_assoc])
  (λm acc ha=>by
   simp only [xK,FSb,anL,Nat.lt_irrefl,anD,anF,Mx];rw [Qk (by omega),ak])
 unfold Bw;rw [an,ak,anG,anF,r6 (by omega) (by omega),ak,PN,k9 (by simp;omega),ak]
 have:=key n 0 (eM l.length) (by omega) (by omega) (by rw [List.drop_zero];omega)
 rw [List.drop_zero]at this;exact this
theorem aj3(k:anT)(v:bq)(a:Int):xu n ⟨k,[⟨a,v⟩]⟩ a=some v:=by
 obtain⟨m,rfl⟩:∃m,n=m+3:=⟨n-3,by omega⟩
 unfold xu A_
 have e:uS (m+3) a ⟨k,[⟨a,v⟩]⟩ (m+3) 0=some 1:=by
  have w:anV (0+1)=1:=rfl;simp only [uS,Fe,Fd,w];have h0:decide ((0:Int)<(([⟨a,v⟩]:List Version).length:Nat))=true:=rfl;have Z:decide ((1:Int)<(([⟨a,v⟩]:List Version).length:Nat))=false:=rfl;have aa:a7 0 ([⟨a,v⟩]:List Version).length=true:=rfl;have ai:(([⟨a,v⟩]:List Version).getD (0:Int).toNat default).cl=a:=rfl;simp only [h0,Z,aa,ai,Int.le_refl,anC,anG,anH,Bool.true_or,Bool.false_or,aX,anE,anF]
 rw [e,ak];rfl
theorem aj4{l:List bI}{a:Int}(ab:l.length≤2000)(eu:l.length<n)(hk:∀i,i<l.length→(l.getD i default).b0.Kind≠0)(an:uR n (iQ l a)=some true):uU n (iQ l a) a=some (l,0):=by
 have hg:∀i,i<l.length→(iQ l a).Rows.getD i default=⟨(l.getD i default).Key,[⟨a,(l.getD i default).b0⟩]⟩:=λi hi=>by
  unfold iQ;simp only [List.getD_eq_getElem?_getD,List.getElem?_map,List.getElem?_eq_getElem hi,Option.map_some,Option.getD_some]
 have hlen:(iQ l a).Rows.length=l.length:=by unfold iQ;simp
 have key:∀m i acc,l.length<m+i→i≤l.length→acc.length≤i→uT n a (iQ l a) m (i:Int) acc=some (acc++l.drop i,0):=by
  intro m;induction m with
  |zero=>intro i acc Z aa;omega
  |succ m aG=>
   intro i acc Z aa ai;simp only [uT,Fg,hlen,anL];by_cases hi:i<l.length
   ·simp only [hi,b4 hi,anK,anC,anE,aX];rw [hg i hi,aj3 hn,ak];simp only [hk i hi,anD,anH,anE,anN,xv,bD (show i≤4611686018427387904 by omega),lx (show(acc.length+1)*48≤140737488355328 by omega),aX]
    rw [aG (i+1) _ (by omega) (by omega) (by rw [anM,anN];omega),fJ l i default hi]
    simp
   ·obtain rfl:i=l.length:=by omega
    simp only [Nat.lt_irrefl,anD,anF,Ff,gV l _ hi,List.append_nil]
 unfold uU;rw [an,ak]
 have ah:xt n (iQ l a) a=some 0:=by
  unfold xt iQ;simp only [anP,anD,anF]
 simp only [anG,anF,ah,ak,anC];exact key n 0 [] (by omega) (by omega) (by simp)
end
def aj5{n:Nat}(hn:10≤n){z:Int}(h:hq z):hA n z=some (iO z):=by
 obtain⟨Z,aa⟩:=h;have e:z=((z.toNat:Nat):Int):=by omega
 have:=tr (n:=n) (u:=z.toNat) hn (by omega)
 rw [←e]at this;exact this
def aj6{n:Nat}(b:Bool):LM n b=some (vZ b):=by cases b<;>rfl
def Ql(b:Bool):(vZ b).length=1:=by cases b<;>rfl
section
variable {n:Nat} (hn:2000≤n)
include hn
theorem aj7{r:Request}(h:ne r)(acc:anT)(cR:acc.length+(vZ r.eW++qS r.eW (r.bx.Reads,r.bx.cT)).length≤2000000)(qw:(qS r.eW (r.bx.Reads,r.bx.cT)).length≤1000000):
 A' n r acc=some (acc++(vZ r.eW++qS r.eW (r.bx.Reads,r.bx.cT))):=by
 have aJ:=h.2.2.2.2.1;rw [anM]at cR;unfold A';rw [aj6,ak,lZ (by omega),aX]
 cases hd:r.eW
 ·simp only [anF,A9,qS,anS,Bool.false_eq_true,List.append_nil]
 ·rw [hd]at aJ cR qw;obtain⟨⟨aT,a2⟩,c7,jN⟩:=aJ;simp only at aT a2 c7 jN
  simp only [qS,anR,anM]at cR qw;rw [anE,Yu hn aT a2 (by omega),ak,Yu hn c7 jN (by omega),ak]
  simp (disch:=omega) only [List.length_append,lZ,aX,A9,qS,if_true,List.append_assoc]
theorem aj8{r:Request}(an:nG n r=some 0)(h:ne r)(cR:(i' r).length≤1000000):E' n r=some (i' r):=by
 obtain⟨c1,c2,c3,⟨c4,c5⟩,k_,kD⟩:=id h;have gZ:=ng c1;have jy:=ng c2;unfold i' dC at cR ⊢;simp only [anM]at cR
 have key:=qU (l:=r.aw) (E:=cx) (B:=900000) (L:=λm acc i=>xn n r m acc (i:Int)) (fin:=λacc=>A' n r acc)
  (λm i acc hi hb=>by
   have aa:=qV c5 hi;have ai:=rZ aa;simp only [xn,E9,hi,b4 hi,anK,anL,anC,anE,aX,bD (show i≤4611686018427387904 by omega)]
   rw [PQ (by omega) aa.2 (by omega),ak,lZ (by omega),aX])
  (λm acc ha=>by simp only [xn,E9,anL,Nat.lt_irrefl,anD,anF])
 unfold E';rw [an,ak];simp only [anC,anG,anF];have t1:=IL (s:=r.bd) (by omega)
 have Yx:=mt (u:=r.aw.length) (by omega)
 have v1:(ia cx r.aw).length≤1000:=by
  have:∀l:List bq,(∀v∈l,pH v)→(ia cx l).length≤100*l.length:=by
   intro l;induction l with
   |nil=>intro _;simp [ia]
   |cons v l aG=>
    intro bf;have g:=bf v (by simp)
    have g2:=XA g.2 (by have:=rZ g;omega)
    have g3:=rZ g;have g4:=aG λw hw=>bf w (by simp [hw])
    rw [zh,anM,anI];omega
  have:=this r.aw c5
  omega
 rw [zC (by omega) c1,ak,zC (by omega) c2,ak,lZ (by omega),aX,tu (by omega) (by omega),ak,lZ (by simp only [anM];omega),aX,
  r6 (by omega) (by omega),ak,lZ (by simp only [anM];omega),aX]
 have:=key n 0 (((iO r.Client++iO r.Seq)++fL r.bd)++eM r.aw.length) (by omega) (by omega) (by rw [List.drop_zero];simp only [anM];omega)
 rw [List.drop_zero]at this;refine this.trans ?_;rw [aj7 hn h _ (by simp only [anM,Ql];simp only [anM,Ql]at cR;omega) (by omega)]
 simp only [List.append_assoc]
theorem aj9{l:List Request}(ab:l.length≤64)(h:∀r∈l,ne r∧nG n r=some 0)(cR:(dC i' l).length≤900000):xp n l=some (dC i' l):=by
 unfold dC at cR ⊢;simp only [anM]at cR
 have key:=qU (l:=l) (E:=i') (B:=1000000) (L:=λm acc i=>xo n l m (i:Int) acc) (fin:=λacc=>some acc)
  (λm i acc hi hb=>by
   obtain⟨Z,aa⟩:=qV h hi;simp only [xo,E_,hi,b4 hi,anK,anL,anC,anE,aX,bD (show i≤4611686018427387904 by omega)]
   rw [aa,ak];simp only [anC,anG,anF];rw [aj8 hn aa Z (by omega),ak,lZ (by omega),aX])
  (λm acc ha=>by simp only [xo,E_,anL,Nat.lt_irrefl,anD,anF,LN])
 unfold xp;simp only [fq,show¬ 64<l.length by omega,anD,anF]
 rw [r6 (by omega) (by omega),ak]
 have:=key n 0 (eM l.length) (by omega) (by omega) (by rw [List.drop_zero];omega)
 rw [List.drop_zero]at this;exact this
theorem aj'{r:bP}(al:xp n r.Queue=some (dC i' r.Queue))(hc:hq r.de)(acc:anT)(cR:acc.length+(dC i' r.Queue).length≤3000000):
 Bx n r (gz acc)=some (acc++(dC i' r.Queue++iO r.de)):=by
 have:=ng hc
 unfold Bx;rw [al,ak,k9 (by omega),ak,aj5 (by omega) hc,ak,k9 (by rw [anM];omega),ak,Qk (by simp only [anM];omega),ak]
 simp only [List.append_assoc]
theorem aj_{r:bP}(Z:Bw n r.cQ=some (dC kC r.cQ))(aa:Ba n r.Place=some (nV r.Place))(ai:r.be.length≤32∧∀h∈r.be,h.Key.length≤24∧eJ h.Count)
 (al:xp n r.Queue=some (dC i' r.Queue)) (hc:hq r.de) (acc:anT) (cR:acc.length+(dC kC r.cQ).length+(nV r.Place).length+(dC nf r.be).length+(dC i' r.Queue).length≤2000000):
 xO n r (gz acc)=some (acc++(dC kC r.cQ++(nV r.Place++(dC nf r.be++(dC i' r.Queue++iO r.de))))):=by
 obtain⟨ai,ay⟩:=ai;have Yx:=mt (u:=r.be.length) (by omega)
 have qw:=cR;rw [show(dC nf r.be).length=(eM r.be.length).length+(ia nf r.be).length by unfold dC;simp]at qw
 have key:=qU (l:=r.be) (E:=nf) (B:=2000000) (L:=λm acc i=>xN n r m (gz acc) (i:Int)) (fin:=λacc=>Bx n r (gz acc))
  (λm i acc hi hb=>by
   obtain⟨g1,g2⟩:=qV ay hi;unfold nf at hb ⊢;rw [anM]at hb;simp only [xN,FX,hi,b4 hi,anK,anL,anC,anE,aX,bD (show i≤4611686018427387904 by omega)]
   rw [tu (by omega) (by omega),ak,k9 (by omega),ak,vX (by omega) g2,ak,k9 (by rw [anM];omega),ak,List.append_assoc])
  (λm acc ha=>by simp only [xN,FX,anL,Nat.lt_irrefl,anD,anF])
 unfold xO;rw [Z,ak,k9 (by omega),ak,aa,ak,k9 (by rw [anM];omega),ak,r6 (by omega) (by omega),ak,k9 (by simp only [anM];omega),ak]
 have:=key n 0 (((acc++dC kC r.cQ)++nV r.Place)++eM r.be.length) (by omega) (by omega) (by rw [List.drop_zero];simp only [anM];omega)
 rw [List.drop_zero]at this;refine this.trans ?_;rw [aj' hn al hc _ (by simp only [anM];omega)]
 unfold dC;simp only [List.append_assoc]
end
section
variable {n:Nat} (hn:3000000≤n) (aQ:n≤1000000000)
include hn aQ
end
section
variable {n:Nat} (hn:3000000≤n) (aQ:n≤1000000000) {s:anT} (hs:s.length≤2000)
include hn aQ hs
end
section
variable {n:Nat} (hn:2000≤n)
include hn
end
section
variable {n:Nat} (hn:2000≤n)
include hn
end
def nW(r:bP)(A:List bI):zA:=(r.Pos,A,r.cc.map hr,r.cQ,r.Place,r.be,r.Queue,r.de)
section
variable {n:Nat} (hn:2000≤n)
include hn
end
section
variable {n:Nat} (hn:3000000≤n) (aQ:n≤1000000000) {r:bP} {A:List bI} (hp:r4 (nW r A)) (hs:(gX (nW r A)).length≤800000) (hg:∀q∈r.cc,oK q) (nr:r.cc.length≤1000)
include hn aQ hp hs hg nr
end
section
variable {n:Nat} (hn:3000000≤n) (aQ:n≤1000000000) {r:bP} {A:List bI} (hp:r4 (nW r A)) (hs:(gX (nW r A)).length≤800000) (hg:∀q∈r.cc,oK q) (nr:r.cc.length≤1000)
include hn aQ hp hs hg nr
theorem Yy(aka:uU n r.aA r.Pos=some (A,0))(akb:rv n r.cQ=some true)(akc:∀q∈r.Queue,nG n q=some 0):rx n r=some (gX (nW r A)):=by
 have am_:A.length≤(gX (nW r A)).length:=ajW hp;have nC:=hs;unfold gX nW at hs;simp only [anM]at hs;have akd:=aj2 (n:=n) (by omega) akb hp.oL.1.1 hp.oL.1.2 (by show(dC kC r.cQ).length≤_;omega)
 have ake:=ajZ (n:=n) (by omega) hp.wl.1.1 hp.wl.1.2.1 hp.wl.1.2.2 (by show(nV r.Place).length≤_;omega)
 have akf:=aj9 (n:=n) (by omega) hp.pM.1 (λq al=>⟨(hp.pM.2 q al).1,akc q al⟩) (by show(dC i' r.Queue).length≤_;omega)
 have bh:=ajY (n:=n) (l:=A) (by omega) (by omega) hp.l6.1.2 (by omega)
 have D8:eJ r.Pos:=hp.pos;have i1:(l1 r.Pos).length≤10:=qG hp.pos;have Yx:=mt (u:=r.cc.length) (by omega)
 have ik:dC fL (r.cc.map hr)=eM r.cc.length++ia (λq=>fL (hr q)) r.cc:=by
  unfold dC;rw [Yw,List.length_map]
 rw [ik]at hs;simp only [anM]at hs
 have j:∀B:anT,B.length≤1000000→xO n r (gz B)=some (B++(dC kC r.cQ++(nV r.Place++(dC nf r.be++(dC i' r.Queue++iO r.de))))):=λB cR=>
  aj_ (by omega) akd ake hp.aC akf hp.Qi B (by omega)
 have key:=qU (l:=r.cc) (E:=λq=>fL (hr q)) (B:=1000000) (L:=λm acc i=>xP n r m (gz acc) (i:Int)) (fin:=λacc=>xO n r (gz acc))
  (λm i acc hi hb=>by
   have g:=qV hg hi;have g2:=ajr g;simp only [xP,FY,hi,b4 hi,anK,anL,anC,anE,aX,bD (show i≤4611686018427387904 by omega)]
   rw [Qg g hn,ak,tu (by omega) (by omega),ak,k9 (by omega),ak])
  (λm acc ha=>by simp only [xP,FY,anL,Nat.lt_irrefl,anD,anF])
 unfold rx;rw [aka,ak,vX (by omega) D8,ak,PN,k9 (by simp;omega),ak,bh,ak,k9 (by simp;omega),ak,r6 (by omega) (by omega),ak,k9 (by simp only [anM,anJ];omega),ak]
 have:=key n 0 ((([]++l1 r.Pos)++dC kB A)++eM r.cc.length) (by omega) (by omega) (by rw [List.drop_zero];simp only [anM,anJ];omega)
 rw [List.drop_zero]at this;refine this.trans ?_;rw [j _ (by simp only [anM,anJ];omega)]
 unfold gX nW;simp only
 rw [ik];simp only [List.append_assoc,List.nil_append]
end
def wn(r:Row):Bool:=(decide (r.bJ.length≤12)&&decide (r.Key.length≤200))&&allI r.bJ.length λk=>decide ((r.bJ.getD k default).b0.S.length≤200)
def akg{n:Nat}(hn:2000≤n)(s:aA):Hs n s 12=some (decide (s.Rows.length≤12)&&allI s.Rows.length λi=>wn (s.Rows.getD i default)):=by
 unfold Hs;by_cases h:s.Rows.length≤12
 ·simp only [fq,show¬ 12<s.Rows.length by omega,anD,anF,h,anC,Bool.true_and]
  refine(nc (L:=sY n s) (len:=s.Rows.length) (chk:=λi=>wn (s.Rows.getD i default)) (no:=false) (yes:=true) (m:=n) (by omega) ?_ ?_).trans (by cases allI s.Rows.length (λi=>wn (s.Rows.getD i default))<;>rfl)
  ·intro m i hi;simp only [sY,Hr,hi,b4 hi,anK,anL,fq,anC,anE,aX,anQ,eS];unfold wn;by_cases Z:(s.Rows.getD i default).bJ.length≤12
   ·by_cases aa:(s.Rows.getD i default).Key.length≤200
    ·simp only [show¬ 12<(s.Rows.getD i default).bJ.length by omega,show¬ 200<(s.Rows.getD i default).Key.length by omega,Z,aa,hi,b4 hi,anD,anC,Bool.or_false,Bool.false_or,anE,anF,Bool.true_and,aX]
     refine XZ (L:=yH n (sY n s m) (i:Int) s) (len:=(s.Rows.getD i default).bJ.length) (chk:=λk=>decide (((s.Rows.getD i default).bJ.getD k default).b0.S.length≤200)) (no:=false) (yes:=sY n s m ((i+1:Nat):Int)) (m:=n) (by omega) ?_ ?_
     ·intro m2 k hk;simp only [yH,Hq,hi,hk,b4 hi,b4 hk,anK,anL,fq,anC,anE,aX,bD (show k≤4611686018427387904 by omega)]
      by_cases ai:((s.Rows.getD i default).bJ.getD k default).b0.S.length≤200
      ·simp only [show¬ 200<((s.Rows.getD i default).bJ.getD k default).b0.S.length by omega,ai,anD,anC,anF,anR]
      ·simp only [show 200<((s.Rows.getD i default).bJ.getD k default).b0.S.length by omega,ai,anC,anD,anE,anS,Bool.false_eq_true]
     ·intro m2;simp only [yH,Hq,N8,b4 hi,anK,aX,anL,Nat.lt_irrefl,anD,anF,bD (show i≤4611686018427387904 by omega)]
    ·simp only [show 200<(s.Rows.getD i default).Key.length by omega,aa,hi,b4 hi,aX,anC,anD,anQ,anE,Bool.and_false,Bool.false_and,anS,Bool.false_eq_true]
   ·simp only [show 12<(s.Rows.getD i default).bJ.length by omega,Z,hi,b4 hi,aX,anC,anD,Bool.true_or,anE,Bool.false_and,anS,Bool.false_eq_true]
  ·intro m;simp only [sY,Hr,N7,anL,Nat.lt_irrefl,anD,anF]
 ·simp only [fq,show 12<s.Rows.length by omega,h,anC,anD,anE,Bool.false_and]
def akh{L:Nat→Int→anX}{len:Nat}{Q:Nat→Prop}{fin:anX}
 (step:∀m i,i<len→L (m+1) (i:Int)=some false∨(Q i∧L (m+1) (i:Int)=L m ((i+1:Nat):Int))) (stop:∀m,L (m+1) (len:Int)=fin):
 ∀m i,len<m+i→i≤len→L m (i:Int)=some false∨((∀k,i≤k→k<len→Q k)∧L m (i:Int)=fin):=by
 intro m;induction m with
 |zero=>intro i Z aa;omega
 |succ m aG=>
  intro i Z aa;by_cases hi:i<len
  ·rcases step m i hi with h|⟨al,h⟩
   ·exact Or.inl h
   ·rcases aG (i+1) (by omega) (by omega)with ai|⟨ai,ay⟩
    ·exact Or.inl (h.trans ai)
    ·refine Or.inr ⟨λk hk p4=>?_,h.trans ay⟩
     by_cases e:k=i
     ·subst e;exact al
     ·exact ai k (by omega) p4
  ·obtain rfl:i=len:=by omega
   exact Or.inr ⟨λk hk p4=>by omega,stop m⟩
def qW{L:Nat→Int→anX}{len m:Nat}{Q:Nat→Prop}{fin:anX}(hm:len<m)
 (step:∀m i,i<len→L (m+1) (i:Int)=some false∨(Q i∧L (m+1) (i:Int)=L m ((i+1:Nat):Int))) (stop:∀m,L (m+1) (len:Int)=fin):
 L m 0=some false∨((∀k,k<len→Q k)∧L m 0=fin):=by
 rcases akh step stop m 0 (by omega) (by omega)with h|⟨Z,aa⟩
 ·exact Or.inl h
 ·exact Or.inr ⟨λk hk=>Z k (by omega) hk,aa⟩
structure Yz(f:fg):Prop where
 r:f.Reads.length≤100
 w:f.cT.length≤100
 rs:∀i,i<f.Reads.length→(f.Reads.getD i default).length≤100
 ws:∀i,i<f.cT.length→(f.cT.getD i default).length≤100
def aki{n:Nat}(hn:2000≤n)(f:fg):vx n f 100=some false∨(Yz f∧vx n f 100=some true):=by
 unfold vx;simp only [fq,eS];by_cases Z:f.Reads.length≤100
 ·by_cases aa:f.cT.length≤100
  ·simp only [show¬ 100<f.Reads.length by omega,show¬ 100<f.cT.length by omega,anD,Bool.or_false,anF]
   have hw:=qW (L:=vw n f) (len:=f.cT.length) (m:=n) (Q:=λi=>(f.cT.getD i default).length≤100) (fin:=some true) (by omega)
    (λm i hi=>by
     simp only [vw,Ht,hi,b4 hi,anK,anL,fq,anC,anE,aX,bD (show i≤4611686018427387904 by omega)]
     by_cases h:(f.cT.getD i default).length≤100
     ·right;simp only [show¬ 100<(f.cT.getD i default).length by omega,anD,anF,h,true_and]
     ·left;simp only [show 100<(f.cT.getD i default).length by omega,anC,anE])
    (λm=>by simp only [vw,Ht,N9,anL,Nat.lt_irrefl,anD,anF])
   have ah:=qW (L:=yI n f) (len:=f.Reads.length) (m:=n) (Q:=λi=>(f.Reads.getD i default).length≤100) (fin:=vw n f n 0) (by omega)
    (λm i hi=>by
     simp only [yI,Hu,hi,b4 hi,anK,anL,fq,anC,anE,aX,bD (show i≤4611686018427387904 by omega)]
     by_cases h:(f.Reads.getD i default).length≤100
     ·right;simp only [show¬ 100<(f.Reads.getD i default).length by omega,anD,anF,h,true_and]
     ·left;simp only [show 100<(f.Reads.getD i default).length by omega,anC,anE])
    (λm=>by simp only [yI,Hu,N',anL,Nat.lt_irrefl,anD,anF])
   rcases ah with ah|⟨hY,ih⟩
   ·exact Or.inl ah
   ·rw [ih];rcases hw with hw|⟨AK,AL⟩
    ·exact Or.inl hw
    ·exact Or.inr ⟨⟨Z,aa,hY,AK⟩,AL⟩
  ·left;simp only [show 100<f.cT.length by omega,anC,anQ,anE]
 ·left;simp only [show 100<f.Reads.length by omega,anC,Bool.true_or,anE]
structure Qm(r:Request):Prop where
 p:r.bd.length≤300
 a:r.aw.length≤40
 vs:∀i,i<r.aw.length→(r.aw.getD i default).S.length≤300
 f:Yz r.bx
def akj{n:Nat}(hn:2000≤n)(r:Request):Cq n r=some false∨(Qm r∧Cq n r=some true):=by
 unfold Cq;simp only [fq,eS];by_cases Z:r.bd.length≤300
 ·by_cases aa:r.aw.length≤40
  ·simp only [show¬ 300<r.bd.length by omega,show¬ 40<r.aw.length by omega,anD,Bool.or_false,Bool.false_or,anH,anE]
   rcases aki hn r.bx with h|⟨ai,h⟩
   ·left;rw [show vx n _ 100=some false from h];rfl
   ·rw [show vx n (⟨r.bx.eI,r.bx.Reads,r.bx.cT⟩:fg) 100=some true from h,ak]
    simp only [anG,anF]
    rcases qW (L:=yJ n r) (len:=r.aw.length) (m:=n) (Q:=λi=>(r.aw.getD i default).S.length≤300) (fin:=some true) (by omega)
     (λm i hi=>by
      simp only [yJ,Hv,hi,b4 hi,anK,anL,fq,anC,anE,aX,bD (show i≤4611686018427387904 by omega)]
      by_cases h:(r.aw.getD i default).S.length≤300
      ·right;simp only [show¬ 300<(r.aw.getD i default).S.length by omega,anD,anF,h,true_and]
      ·left;simp only [show 300<(r.aw.getD i default).S.length by omega,anC,anE])
     (λm=>by simp only [yJ,Hv,N_,anL,Nat.lt_irrefl,anD,anF])with ay|⟨ay,aJ⟩
    ·exact Or.inl ay
    ·exact Or.inr ⟨⟨Z,aa,ay,ai⟩,aJ⟩
  ·left;simp only [show 40<r.aw.length by omega,anC,anQ,Bool.true_or,anG,anF,ak,anE]
 ·left;simp only [show 300<r.bd.length by omega,anC,Bool.true_or,anG,anF,ak,anE]
structure YA(p:b7)(h:List be):Prop where
 pl:p.aW.length≤20
 ab:h.length≤40
 bM:∀i,i<p.aW.length→(p.aW.getD i default).fQ.length≤200∧(p.aW.getD i default).ir.length≤200
 hs:∀i,i<h.length→(h.getD i default).Key.length≤200
def akk{n:Nat}(hn:2000≤n)(p:b7)(h:List be):Cr n p h=some false∨(YA p h∧Cr n p h=some true):=by
 unfold Cr
 have bf:=qW (L:=vy n h p) (len:=min h.length 41) (m:=n) (Q:=λi=>(h.getD i default).Key.length≤200) (fin:=Hw n h p) (by omega)
  (λm i hi=>by
   have lr:i<h.length:=by omega
   have sf:(i:Int)<41:=by omega
   simp only [vy,Hx,lr,sf,b4 lr,anK,anL,fq,anC,anE,aX,bD (show i≤4611686018427387904 by omega)]
   by_cases g:(h.getD i default).Key.length≤200
   ·right;simp only [show¬ 200<(h.getD i default).Key.length by omega,anD,anF,g,true_and]
   ·left;simp only [show 200<(h.getD i default).Key.length by omega,anC,anE])
  (λm=>by
   simp only [vy,Hx];by_cases e:h.length≤40
   ·rw [Nat.min_eq_left (by omega)];simp only [anL,Nat.lt_irrefl,anD,anF]
   ·rw [Nat.min_eq_right (by omega)]
    cases decide (((41:Nat):Int)<((h.length:Nat):Int))<;>rfl)
 have hp:=qW (L:=yK n h p) (len:=min p.aW.length 21) (m:=n) (Q:=λi=>(p.aW.getD i default).fQ.length≤200∧(p.aW.getD i default).ir.length≤200) (fin:=vy n h p n 0) (by omega)
  (λm i hi=>by
   have lr:i<p.aW.length:=by omega
   have sf:(i:Int)<21:=by omega
   simp only [yK,Hy,lr,sf,b4 lr,anK,anL,fq,anC,anE,eS,anQ,aX,bD (show i≤4611686018427387904 by omega)]
   by_cases Z:(p.aW.getD i default).fQ.length≤200
   ·by_cases aa:(p.aW.getD i default).ir.length≤200
    ·right;simp only [show¬ 200<(p.aW.getD i default).fQ.length by omega,show¬ 200<(p.aW.getD i default).ir.length by omega,anD,Bool.or_false,anF,Z,aa,true_and,and_self]
    ·left;simp only [show 200<(p.aW.getD i default).ir.length by omega,anC,anQ,anE]
   ·left;simp only [show 200<(p.aW.getD i default).fQ.length by omega,anC,Bool.true_or,anE])
  (λm=>by
   simp only [yK,Hy,Oa];by_cases e:p.aW.length≤20
   ·rw [Nat.min_eq_left (by omega)];simp only [anL,Nat.lt_irrefl,anD,anF]
   ·rw [Nat.min_eq_right (by omega)]
    cases decide (((21:Nat):Int)<((p.aW.length:Nat):Int))<;>rfl)
 rcases hp with hp|⟨w1,w2⟩
 ·exact Or.inl hp
 ·rw [w2];rcases bf with bf|⟨akl,DT⟩
  ·exact Or.inl bf
  ·rw [DT];unfold Hw;by_cases a:p.aW.length≤20
   ·by_cases b:h.length≤40
    ·right
     refine⟨⟨a,b,λi hi=>w1 i (by omega),λi hi=>akl i (by omega)⟩,?_⟩
     simp only [lU,a,b,anC,anE]
    ·left;simp only [lU,a,b,anC,anD,anE]
   ·left;simp only [lU,a,anD,anF]
structure YB(o:Outcome):Prop where
 l:o.Out.length≤20
 vs:∀i,i<o.Out.length→(o.Out.getD i default).S.length≤200
structure Qn(s:bG):Prop where
 l:s.bS.length≤12
 os:∀i,i<s.bS.length→YB (s.bS.getD i default).Outcome
def akm{n:Nat}(hn:2000≤n)(l:List bG):Cs n l=some false∨((l.length≤6∧∀i,i<l.length→Qn (l.getD i default))∧Cs n l=some true):=by
 unfold Cs
 rcases qW (L:=pp n l) (len:=min l.length 7) (m:=n) (Q:=λi=>Qn (l.getD i default)) (fin:=Hz n l) (by omega)
  (λm i hi=>by
   have lr:i<l.length:=by omega
   have sf:(i:Int)<7:=by omega
   simp only [pp,HC,lr,sf,b4 lr,anK,anL,fq,anC,anE,aX];by_cases Z:(l.getD i default).bS.length≤12
   ·simp only [show¬ 12<(l.getD i default).bS.length by omega,anD,anF]
    rcases qW (L:=sZ n (pp n l m) l (i:Int)) (len:=(l.getD i default).bS.length) (m:=n) (Q:=λj=>YB ((l.getD i default).bS.getD j default).Outcome) (fin:=pp n l m ((i+1:Nat):Int)) (by omega)
     (λm2 j hj=>by
      simp only [sZ,HB,lr,hj,b4 lr,b4 hj,anK,anL,fq,anC,anE,aX];by_cases aa:((l.getD i default).bS.getD j default).Outcome.Out.length≤20
      ·simp only [show¬ 20<((l.getD i default).bS.getD j default).Outcome.Out.length by omega,anD,anF]
       rcases qW (L:=yL n (sZ n (pp n l m) l (i:Int) m2) (pp n l m) l (i:Int) (j:Int)) (len:=((l.getD i default).bS.getD j default).Outcome.Out.length) (m:=n) (Q:=λk=>(((l.getD i default).bS.getD j default).Outcome.Out.getD k default).S.length≤200) (fin:=sZ n (pp n l m) l (i:Int) m2 ((j+1:Nat):Int)) (by omega)
        (λm3 k hk=>by
         simp only [yL,HA,hk,b4 hk,anK,anL,fq,anC,anE,aX,bD (show k≤4611686018427387904 by omega)]
         by_cases ai:(((l.getD i default).bS.getD j default).Outcome.Out.getD k default).S.length≤200
         ·right;simp only [show¬ 200<(((l.getD i default).bS.getD j default).Outcome.Out.getD k default).S.length by omega,anD,anF,ai,true_and]
         ·left;simp only [show 200<(((l.getD i default).bS.getD j default).Outcome.Out.getD k default).S.length by omega,anC,anE])
        (λm3=>by simp only [yL,HA,Oc,anK,anL,Nat.lt_irrefl,anD,anF,bD (show j≤4611686018427387904 by omega)])with h|⟨h,g⟩
       ·exact Or.inl h
       ·exact Or.inr ⟨⟨aa,h⟩,g⟩
      ·left;simp only [show 20<((l.getD i default).bS.getD j default).Outcome.Out.length by omega,anC,anE])
     (λm2=>by simp only [sZ,HB,Ob,b4 lr,aX,anK,anL,Nat.lt_irrefl,anD,anF,bD (show i≤4611686018427387904 by omega)])with h|⟨h,g⟩
    ·exact Or.inl h
    ·exact Or.inr ⟨⟨Z,h⟩,g⟩
   ·left;simp only [show 12<(l.getD i default).bS.length by omega,anC,anE])
  (λm=>by
   simp only [pp,HC];by_cases e:l.length≤6
   ·rw [Nat.min_eq_left (by omega)];simp only [anL,Nat.lt_irrefl,anD,anF]
   ·rw [Nat.min_eq_right (by omega)]
    cases decide (((7:Nat):Int)<((l.length:Nat):Int))<;>rfl)with h|⟨h,g⟩
 ·exact Or.inl h
 ·rw [g];unfold Hz;by_cases a:l.length≤6
  ·right;exact⟨⟨a,λi hi=>h i (by omega)⟩,by simp only [lU,a,anC]⟩
  ·left;simp only [lU,a,anD]
structure zD(r:bP):Prop where
 zE:r.aA.Rows.length≤12
 rs:∀i,i<r.aA.Rows.length→wn (r.aA.Rows.getD i default)=true
 pl:r.cc.length≤4
 bM:∀i,i<r.cc.length→Iz (r.cc.getD i default) 60
 kz:r.cQ.length≤6
 nE:∀i,i<r.cQ.length→Qn (r.cQ.getD i default)
 Jf:YA r.Place r.be
 YC:r.Queue.length≤6
 akn:∀i,i<r.Queue.length→Qm (r.Queue.getD i default)
def ako{n:Nat}(hn:2000≤n)(r:bP)(hp:∀i,i<r.cc.length→qB (r.cc.getD i default)):Ct n r=some false∨(zD r∧Ct n r=some true):=by
 unfold Ct;rw [akg hn,ak];simp only [fq,eS];cases Z:decide (r.aA.Rows.length≤12)&&allI r.aA.Rows.length λi=>wn (r.aA.Rows.getD i default)
 ·left;simp only [anH,Bool.true_or,anG,anF,anE,ak]
 ·by_cases aa:r.cc.length≤4
  ·by_cases ai:r.Queue.length≤6
   ·simp only [show¬ 4<r.cc.length by omega,show¬ 6<r.Queue.length by omega,anD,anG,Bool.or_false,Bool.false_or,anH,anE]
    rcases akm hn r.cQ with ay|⟨⟨ay,aJ⟩,bE⟩
    ·left;rw [ay,ak];simp only [anH,Bool.true_or,anG,anF,anE,ak]
    ·rw [bE,ak];simp only [anG,anH,anE,Bool.false_or,Bool.or_false]
     (try rw [Jb])
     rcases akk hn r.Place r.be with cz|⟨cz,dh⟩
     ·left;rw [cz,ak];rfl
     ·rw [dh,ak];simp only [anG,anF]
      rcases qW (L:=yM n r) (len:=r.cc.length) (m:=n) (Q:=λi=>Iz (r.cc.getD i default) 60) (fin:=vz n r n 0) (by omega)
       (λm i hi=>by
        obtain⟨b,e1,e2⟩:=ahH (n:=n) (r.cc.getD i default) 60 (by omega) (by omega) (hp i hi)
        simp only [yM,HE,hi,b4 hi,anK,anL,anC,anE,aX,bD (show i≤4611686018427387904 by omega)]
        rw [show Cp n (r.cc.getD i default) 60=some b from e1,ak]
        cases b
        ·left;rfl
        ·right;exact⟨e2 rfl,rfl⟩)
       (λm=>by simp only [yM,HE,Oe,anL,Nat.lt_irrefl,anD,anF])with eH|⟨eH,g9⟩
      ·exact Or.inl eH
      ·rw [g9]
       rcases qW (L:=vz n r) (len:=r.Queue.length) (m:=n) (Q:=λi=>Qm (r.Queue.getD i default)) (fin:=some true) (by omega)
        (λm i hi=>by
         simp only [vz,HD,hi,b4 hi,anK,anL,anC,anE,aX,bD (show i≤4611686018427387904 by omega)]
         rcases akj hn (r.Queue.getD i default)with h|⟨h,g⟩
         ·left;rw [h];rfl
         ·right;rw [g];exact⟨h,rfl⟩)
        (λm=>by simp only [vz,HD,Od,anL,Nat.lt_irrefl,anD,anF])with gi|⟨gi,g10⟩
       ·exact Or.inl gi
       ·rw [Bool.and_eq_true,decide_eq_true_eq,hW]at Z;exact Or.inr ⟨⟨Z.1,Z.2,aa,eH,ay,aJ,cz,ai,gi⟩,g10⟩
   ·left;simp only [show 6<r.Queue.length by omega,anC,anQ,Bool.true_or,anG,anF,anE,ak]
  ·left;simp only [show 4<r.cc.length by omega,anC,anQ,Bool.true_or,anG,anF,anE,ak]
def qX(r:Row):bq:=(r.bJ.getD (r.bJ.length-1) default).b0
def fY:List Row→List bI
 |[]=>[]
 |r::l=>if(qX r).Kind=0 then fY l else⟨r.Key,qX r⟩::fY l
structure Dv(n:Nat)(a:Int)(r:Row):Prop where
 l:r.bJ.length<n
 b:r.bJ.length≤1000000000
 p:0<r.bJ.length
 s:∀i,i<r.bJ.length→(r.bJ.getD i default).cl≤a
def akp{n:Nat}{a:Int}{r:Row}(h:Dv n a r):A_ n r a=some ((r.bJ.length:Nat):Int):=by
 have ab:=h.l;have hb:=h.b;unfold A_
 have key:∀m i,r.bJ.length<m+i→i≤r.bJ.length→uS n a r m (i:Int)=some ((r.bJ.length:Nat):Int):=by
  intro m;induction m with
  |zero=>intro i Z aa;omega
  |succ m aG=>
   intro i Z aa;simp only [uS,Fe,Fd,anL,anK];by_cases hi:i<r.bJ.length
   ·simp only [hi,b4 hi,anC,anQ,aX,anE,h.s i hi,bD (show i≤4611686018427387904 by omega)]
    exact aG (i+1) (by omega) (by omega)
   ·obtain rfl:i=r.bJ.length:=by omega
    simp only [Nat.lt_irrefl,anD,anH,Bool.true_or,aX,anF]
 exact key n 0 (by omega) (by omega)
def akq{n:Nat}{a:Int}{r:Row}(h:Dv n a r):xu n r a=some (qX r):=by
 have ab:=h.l;have hb:=h.b;have hp:=h.p;unfold xu;rw [akp h,ak];have e:anV (((r.bJ.length:Nat):Int)-1)=((r.bJ.length-1:Nat):Int):=by(try unfold anV);rw [IntKind.wrap_i64];omega
 simp only [show¬ ((r.bJ.length:Nat):Int)=0 by omega,anD,anF,e,b4 (show r.bJ.length-1<r.bJ.length by omega),aX,anK]
 rfl
section
variable {n:Nat} {s:aA} {a:Int} (ab:s.Rows.length≤1000) (hn:2000≤n) (h:∀i,i<s.Rows.length→Dv n a (s.Rows.getD i default)) (aN:s.cD≤a) (ha:a≤s.cp)
include ab hn h aN ha
theorem akr(an:uR n s=some true):uU n s a=some (fY s.Rows,0):=by
 have key:∀m i acc,s.Rows.length<m+i→i≤s.Rows.length→acc.length≤i→uT n a s m (i:Int) acc=some (acc++fY (s.Rows.drop i),0):=by
  intro m;induction m with
  |zero=>intro i acc Z aa;omega
  |succ m aG=>
   intro i acc Z aa ai;simp only [uT,Fg,anL];by_cases hi:i<s.Rows.length
   ·simp only [hi,b4 hi,anK,anC,anE,aX];rw [akq (h i hi),ak,fJ s.Rows i default hi,fY];by_cases k:(qX (s.Rows.getD i default)).Kind=0
    ·simp only [k,anC,anG,anF,xv,bD (show i≤4611686018427387904 by omega),anR]
     exact aG (i+1) _ (by omega) (by omega) (by omega)
    ·simp only [k,anD,anH,anE,anN,xv,bD (show i≤4611686018427387904 by omega),lx (show(acc.length+1)*48≤140737488355328 by omega),aX,anS]
     rw [aG (i+1) _ (by omega) (by omega) (by rw [anM,anN];omega)]
     simp
   ·obtain rfl:i=s.Rows.length:=by omega
    simp only [Nat.lt_irrefl,anD,anF,Ff,gV s.Rows _ hi,fY,List.append_nil]
 unfold uU;rw [an,ak]
 have ah:xt n s a=some 0:=by
  unfold xt;simp only [show¬ a<s.cD by omega,show¬ s.cp<a by omega,anD,anF]
 simp only [anG,anF,ah,ak,anC];exact key n 0 [] (by omega) (by omega) (by simp)
end
def YD{n:Nat}{s:aA}(hs:mv s=true)(an:∀i,i<s.Rows.length→(s.Rows.getD i default).bJ.length<n∧(s.Rows.getD i default).bJ.length≤1000000000)(i:Nat)(hi:i<s.Rows.length):Dv n s.cp (s.Rows.getD i default):=by
 unfold mv at hs;rw [Bool.and_eq_true,hW]at hs;have Z:=hs.2 i hi;rw [Bool.and_eq_true]at Z;have aa:=Z.2;unfold tB at aa;rw [Bool.and_eq_true,hW]at aa;obtain⟨ai,ay⟩:=aa;refine⟨(an i hi).1,(an i hi).2,?_,λk hk=>?_⟩
 ·by_cases e:(s.Rows.getD i default).bJ.length=0
  ·rw [e]at ai;simp at ai
  ·omega
 ·have aJ:=ay k hk;unfold wa at aJ;simp only [Bool.and_eq_true,Bool.not_eq_true',decide_eq_false_iff_not]at aJ;have:=aJ.1.1.2
  omega
def zF:List anT→Prop
 |[]=>True
 |k::l=>(∀j∈l,Op.bytesLess k j=true)∧zF l
def YE:∀l:List anT,(∀i,i+1<l.length→Op.bytesLess (l.getD i []) (l.getD (i+1) [])=true)→zF l
 |[],_=>trivial
 |k::l,h=>by
  have aG:=YE l λi hi=>by have:=h (i+1) (by simpa using hi);simpa using this
  refine⟨λj hj=>?_,aG⟩
  cases l with
  |nil=>simp at hj
  |cons aq l=>
   have h0:Op.bytesLess k aq=true:=by simpa using h 0 (by simp)
   rcases List.mem_cons.1 hj with rfl|hj
   ·exact h0
   ·exact XR _ _ _ h0 (aG.1 j hj)
def YF:∀(l:List anT) (i:Nat),zF l→i+1<l.length→Op.bytesLess (l.getD i []) (l.getD (i+1) [])=true
 |[],i,_,h=>by simp at h
 |k::l,0,⟨Z,_⟩,h=>by
  cases l with
  |nil=>simp at h
  |cons aq l=>simpa using Z aq (by simp)
 |k::l,i+1,⟨_,aa⟩,h=>by
  have:=YF l i aa (by simpa using h)
  simpa using this
def Qo:∀l:List Row,(∀p∈fY l,p.Key∈l.map (·.Key))
 |[],p,h=>by simp [fY]at h
 |r::l,p,h=>by
  unfold fY at h;by_cases k:(qX r).Kind=0
  ·rw [if_pos k]at h;have:=Qo l p h
   simp only [List.map_cons,List.mem_cons];exact Or.inr this
  ·rw [if_neg k]at h;rcases List.mem_cons.1 h with rfl|h
   ·simp
   ·have:=Qo l p h
    simp only [List.map_cons,List.mem_cons];exact Or.inr this
def YG:∀l:List Row,zF (l.map (·.Key))→zF ((fY l).map (·.Key))
 |[],_=>trivial
 |r::l,h=>by
  obtain⟨Z,aa⟩:=h;have aG:=YG l aa;unfold fY;by_cases k:(qX r).Kind=0
  ·rw [if_pos k];exact aG
  ·rw [if_neg k];refine⟨λj hj=>?_,aG⟩
   obtain⟨p,hp,rfl⟩:=List.mem_map.1 hj;exact Z _ (Qo l p hp)
def Dw:∀(l:List Row) (p:bI),p∈fY l→∃r∈l,p=⟨r.Key,qX r⟩∧(qX r).Kind≠0
 |[],p,h=>by simp [fY]at h
 |r::l,p,h=>by
  unfold fY at h;by_cases k:(qX r).Kind=0
  ·rw [if_pos k]at h;obtain⟨x,hx,e⟩:=Dw l p h;exact⟨x,by simp [hx],e⟩
  ·rw [if_neg k]at h;rcases List.mem_cons.1 h with rfl|h
   ·exact⟨r,by simp,rfl,k⟩
   ·obtain⟨x,hx,e⟩:=Dw l p h;exact⟨x,by simp [hx],e⟩
def YH{s:aA}(hs:mv s=true)(hb:∀i,i<s.Rows.length→(s.Rows.getD i default).bJ.length≤1000000000)(i:Nat)(hi:i<s.Rows.length):nS (s.Rows.getD i default).Key=true∧lw (qX (s.Rows.getD i default))=true:=by
 have h0:=YD (n:=1000000001) hs (λi hi=>⟨by have:=hb i hi;omega,hb i hi⟩) i hi
 unfold mv at hs;rw [Bool.and_eq_true,hW]at hs;have Z:=hs.2 i hi;simp only [Bool.and_eq_true]at Z;refine⟨Z.1.1,?_⟩
 have aa:=Z.2;unfold tB at aa;rw [Bool.and_eq_true,hW]at aa;have hp:=h0.p;have aJ:=aa.2 ((s.Rows.getD i default).bJ.length-1) (by omega)
 unfold wa at aJ;simp only [Bool.and_eq_true]at aJ;exact aJ.1.2
def Qp{α:Type}[Inhabited α]{l:List α}{x:α}(h:x∈l):∃i,i<l.length∧l.getD i default=x:=by
 obtain⟨i,hi,e⟩:=List.mem_iff_getElem.1 h;exact⟨i,hi,by rw [List.getD_eq_getElem?_getD,List.getElem?_eq_getElem hi];exact e⟩
def Jg{α:Type}[Inhabited α](l:List α)(f:α→anT)(i:Nat)(hi:i<l.length):(l.map f).getD i []=f (l.getD i default):=by
 simp only [List.getD_eq_getElem?_getD,List.getElem?_map,List.getElem?_eq_getElem hi,Option.map_some,Option.getD_some]
def wo:∀l:List Row,(fY l).length≤l.length
 |[]=>Nat.le_refl _
 |r::l=>by
  have:=wo l
  unfold fY;split
  ·simp only [anI];omega
  ·simp only [anI];omega
def aks{s:aA}(hs:mv s=true)(ab:s.Rows.length≤1000000)(hb:∀i,i<s.Rows.length→(s.Rows.getD i default).bJ.length≤1000000000):nU (fY s.Rows)=true:=by
 have hlen:=wo s.Rows
 have akt:zF (s.Rows.map (·.Key)):=by
  refine YE _ λi hi=>?_
  rw [List.length_map]at hi;have h0:=hs;unfold mv at h0;rw [Bool.and_eq_true,hW]at h0;have Z:=h0.2 (i+1) hi;simp only [Bool.and_eq_true]at Z;have aa:=Z.1.2;rw [PZ i (by omega),show decide (0<((i+1:Nat):Int))=true from decide_eq_true (by omega),anG,Bool.false_or]at aa
  rw [Jg s.Rows (·.Key) i (by omega),Jg s.Rows (·.Key) (i+1) hi]
  exact aa
 have aku:=YG _ akt
 have Qq:∀i,i<(fY s.Rows).length→nS ((fY s.Rows).getD i default).Key=true∧lw ((fY s.Rows).getD i default).b0=true∧((fY s.Rows).getD i default).b0.Kind≠0:=λi hi=>by
  have hm:(fY s.Rows).getD i default∈fY s.Rows:=by
   rw [List.getD_eq_getElem?_getD,List.getElem?_eq_getElem hi];exact List.getElem_mem hi
  obtain⟨r,ah,e,hk⟩:=Dw _ _ hm;obtain⟨j,hj,rfl⟩:=Qp ah;obtain⟨a,b⟩:=YH hs hb j hj;rw [e];exact⟨a,b,hk⟩
 unfold nU zn;rw [Bool.and_eq_true,hW,hW];refine⟨λi hi=>?_,λi hi=>by rw [decide_eq_false (Qq i hi).2.2];rfl⟩
 rw [(Qq i hi).1,(Qq i hi).2.1];cases i with
 |zero=>rfl
 |succ i=>
  have:=YF _ i aku (by rw [List.length_map];exact hi)
  rw [Jg (fY s.Rows) (λx=>x.Key) i (by omega),Jg (fY s.Rows) (λx=>x.Key) (i+1) hi]at this
  rw [PZ i (by omega),this]
  simp
def YI{α:Type}:∀(l:List α),l.length=4→∃a b c d,l=[a,b,c,d]
 |[a,b,c,d],_=>⟨a,b,c,d,rfl⟩
 |[],h=>by simp at h
 |[_],h=>by simp at h
 |[_,_],h=>by simp at h
 |[_,_,_],h=>by simp at h
 |_::_::_::_::_::_,h=>by simp at h
section
variable {H:Type} {enc:TypeId×Value→H} {W:World}
theorem Qr:Tryz.prog.cellsOf 165=4:=by kernel_rfl
theorem oM:Tryz.prog.cellsOf 3=1:=by kernel_rfl
theorem pN:Tryz.prog.cellsOf 2=1:=by kernel_rfl
theorem oN:Tryz.prog.cellsOf 9=1:=by kernel_rfl
theorem akv:Tryz.prog.cellsOf 163=1:=by kernel_rfl
theorem YJ:∀l:List Expr,(∀i,i<l.length→lY (l.getD i default))→za l
 |[],h=>trivial
 |x::l,h=>⟨h 0 (by simp),YJ l λi hi=>by have:=h (i+1) (by simpa using hi);simpa using this⟩
theorem YK:∀(fuel:Nat) (cs:List Value) (x:DataW H×List MemPlace),DataW.trod enc Tryz.prog W 0 (λ_=>true) true fuel 165 cs=some x→∃e:Expr,lY e∧fP W cs (b2 e).cells:=by
 intro fuel;induction fuel using Nat.strongRecOn with
 |_ fuel aG=>
  intro cs x h;obtain⟨xs,n,hn,_,ab,gB,aN⟩:=DataW.trod_struct Tryz.underlying165 h;rw [Qr]at ab;obtain⟨c0,c1,c2,c3,rfl⟩:=YI cs ab;obtain⟨f5,dG,eL,ly,rfl⟩:=YI xs gB;have h0:DataW.trod enc Tryz.prog W 0 (λ_=>true) true n 3 (List.take (Tryz.prog.cellsOf 3) [c0,c1,c2,c3])=some f5:=aN 0 _ rfl
  have Z:DataW.trod enc Tryz.prog W 0 (λ_=>true) true n 2 (List.take (Tryz.prog.cellsOf 2) [c1,c2,c3])=some dG:=aN 1 _ rfl
  have aa:DataW.trod enc Tryz.prog W 0 (λ_=>true) true n 9 (List.take (Tryz.prog.cellsOf 9) [c2,c3])=some eL:=aN 2 _ rfl
  have ai:DataW.trod enc Tryz.prog W 0 (λ_=>true) true n 163 (List.take (Tryz.prog.cellsOf 163) [c3])=some ly:=aN 3 _ rfl
  rw [oM]at h0;rw [pN]at Z;rw [oN]at aa;rw [akv]at ai;obtain⟨Op,_,dk⟩:=ip (k:=.i64) Tryz.underlying3 h0;obtain⟨N,aQ,r1⟩:=ip (k:=.i64) Tryz.underlying2 Z;obtain⟨S,wq,r2⟩:=od Tryz.underlying9 aa;obtain⟨A,aI,cG,r3⟩:=ll (encA:=b2) (ok:=lY) Tryz.underlying163 Qr (by omega) ai (λm cs' fN hm hx=>aG m (by omega) cs' fN hx)
  refine⟨⟨Op,N,S,A⟩,⟨aQ.2,wq,aI,YJ A cG⟩,?_⟩
  have:=((dk.app r1).app r2).app r3
  exact this.EM (AX ⟨Op,N,S,A⟩)
end
end Go.Ab.Y

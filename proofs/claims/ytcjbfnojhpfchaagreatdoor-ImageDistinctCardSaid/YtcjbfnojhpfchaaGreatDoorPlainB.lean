/- The plain law: what the functions compute answers as the statement says. -/
import Derived.Test.YtcjbfnojhpfchaaGreatDoorPlainA
set_option linter.all false
namespace Go.Ab.Y
open Go Go.Ab Go.Proofs
def qr(c b:Bool):(bif c then some b else some default)=some (c&&b):=by cases c<;>rfl
def aa'{l:Nat}{b:Bool}:(b||decide (l<1)||decide (16<l)||a_ 0 l)=true:=by
 by_cases h:l<1
 ·rw [decide_eq_true h];simp
 ·rw [uF (by omega)];simp
def RS{α:Type}(l:List α)(d:α){i k:Nat}(h:k<i):(l.take i).getD k d=l.getD k d:=by
 simp [List.getD_eq_getElem?_getD,List.getElem?_take,h]
section
variable {n:Nat} (hn:2000≤n) (bA:n≤1000000000)
include hn bA
def qs(l:List bv):Bool:=allI l.length λi=>lF (l.getD i default) && !decide ((l.getD i default).Kind=0)
def sB(r:Request):Int:=
 bif (((decide (r.Client<1)||decide (32<r.Client))||decide (r.Seq<1))||decide (1099511627776<r.Seq))then 1 else
 bif !gy r.bb then 7 else
 bif decide (6<r.aw.length)then 2 else
 bif !qs r.aw then 1 else
 bif ((!uP r.br||r.br.ee)||(!r.eA&&decide (0<r.br.Reads.length+r.br.cz.length)))then 1 else 0
structure uQ(n:Nat)(r:Request):Prop where
 proc:r.bb.length≤1000
 args:r.aw.length<n
 vals:∀i,(r.aw.getD i default).S.length≤1000
 RT:r.br.Reads.length<n
 RU:r.br.cz.length<n
 rd:∀i,(r.br.Reads.getD i default).length≤1000
 wr:∀i,(r.br.cz.getD i default).length≤1000
theorem RV{r:Request}(h:uQ n r):nf n r=some (sB r):=by
 have Z:=h.proc;have ad:=h.args
 obtain⟨c,e1,e2⟩:=RP (L:=tB n r.aw) (len:=r.aw.length) (p:=λi=>!(lF (r.aw.getD i default) && !decide ((r.aw.getD i default).Kind=0))) ad (by
  intro m i hi;have:=h.vals i
  simp only [tB,zS,E2,aeZ,hi,aeQ,aeS,cX hi,bK,aeY,df (show i≤4611686018427387904 by omega),I2 (show(r.aw.getD i default).S.length<n by omega) (by omega),qr,aP]
  cases lF (r.aw.getD i default)<;>cases decide ((r.aw.getD i default).Kind=0)<;>rfl) (by
  intro m;simp only [tB,zS,E3,ae3,aeR,aeT])
 have e3:(allI r.aw.length λi=>!!(lF (r.aw.getD i default) && !decide ((r.aw.getD i default).Kind=0)))=qs r.aw:=by simp only [Bool.not_not];rfl
 rw [e3]at e2;unfold nf E5 E4 sB;rw [xY n _ (by omega),e1,show ww n ⟨r.br.ee,r.br.Reads,r.br.cz⟩=_ from aa9 hn bA (f:=r.br) h.RT h.RU]
 have al:=h.RT;have aH:=h.RU;have oS:ae9 (((r.br.Reads.length:Nat):Int)+((r.br.cz.length:Nat):Int))=((r.br.Reads.length+r.br.cz.length:Nat):Int):=by rw [wr]<;>omega
 simp only [aP,e2,oS,fE,gx,f'];cases ((decide (r.Client<1)||decide (32<r.Client))||decide (r.Seq<1))||decide (1099511627776<r.Seq)<;>cases gy r.bb<;>cases decide (6<r.aw.length)<;>cases qs r.aw<;>cases ((!uP r.br||r.br.ee)||(!r.eA&&decide (0<r.br.Reads.length+r.br.cz.length)))<;>rfl
def RW(c:UInt8):Bool:=!(decide (c.toNat<33)||decide (126<c.toNat))
def pi(s:ae7):Bool:=(allI s.length λi=>RW (s.getD i 0))&&decide (s.length≤24)
theorem RX{s:ae7}(hs:s.length<n):w9 n s=some (pi s):=by
 unfold w9 pi;rw [mJ (L:=ua n s) (no:=false) (yes:=decide (s.length≤24)) hs,Cn]
 ·intro m i hi;simp only [ua,AV,aeZ,hi,aeQ,aeS,cX hi,bK,aeY,df (show i≤4611686018427387904 by omega),ae4,xW,f']
  exact nv (by simp only [fE,RW,Bool.not_not])
 ·intro m;simp only [ua,AV,F7,ae3,aeR,aeT,kW]
def uR(n:Int):Bool:=decide (1≤n)&&decide (n≤16)
def RY(n:Int):Bool:=decide (1≤n)&&decide (n≤1099511627776)
def uS(l:List Part)(i:Nat):Bool:=
 let x:=l.getD i default
 bif decide (x.hh=0)then decide (x.hH=[]) else((((uR x.hh && !decide (x.hh=x.Node))&&pi x.hH) && !Op.bytesLess x.hH x.fp)&&(decide (i+1=l.length)||Op.bytesLess x.hH (l.getD (i+1) default).fp))
def yc(l:List Part)(i:Nat):Bool:=
 let x:=l.getD i default
 (!decide (0<(i:Int))||(pi x.fp&&Op.bytesLess (l.getD (pv i) default).fp x.fp))&&(((RY x.Id&&uR x.Node)&&uS l i)&&allI i λk=>!decide ((l.getD k default).Id=x.Id))
def pj(p:ck):Bool:=!((((decide (p.Version<0)||decide (1099511627776<p.Version))||decide (p.aX.length<1))||decide (16<p.aX.length)) || !decide ((p.aX.getD 0 default).fp=[]))&&allI p.aX.length (yc p.aX)
def sC(x:Part):Prop:=x.fp.length≤1000∧x.hH.length≤1000
theorem aa_{l:List Part}(ab:l.length<n){i:Nat}(hi:i<l.length)(h:∀i,sC (l.getD i default)):AX n l (i:Int)=some (uS l i):=by
 unfold AX w_ uS;have Z:=(h i).2
 (rw [cX hi,bK];simp only [aeY];rw [RX hn bA (by omega),df (by omega)])
 simp only [aP,gx,fE,qr,Int.ofNat_inj,show(decide (1≤(l.getD i default).hh)&&decide ((l.getD i default).hh≤16))=uR (l.getD i default).hh from rfl]
 cases decide ((l.getD i default).hh=0)
 ·simp only [aeT];by_cases e:i+1=l.length
  ·simp only [e,aeQ,Bool.true_or,ae4,bK];cases uR (l.getD i default).hh<;>cases decide ((l.getD i default).hh=(l.getD i default).Node)<;>rfl
  ·rw [cX (show i+1<l.length by omega)]
   simp only [e,aeY,aeR,Bool.false_or,ae4,bK];cases uR (l.getD i default).hh<;>cases decide ((l.getD i default).hh=(l.getD i default).Node)<;>rfl
 ·rfl
theorem aba{p:ck}(ab:p.aX.length<n)(h:∀i,sC (p.aX.getD i default)):xa n p=some (pj p):=by
 have e1:rT n p n 0=some (allI p.aX.length (yc p.aX)):=by
  rw [mJ (L:=rT n p) (chk:=yc p.aX) (no:=false) (yes:=true) ab,sy]
  ·intro m i hi;have Z:=h i;have ad:=Z.1;have cB:(p.aX.take i).length<n:=by simp;omega
   obtain⟨c,f1,f2⟩:=RP (L:=ub n (p.aX.take i) (p.aX.getD i default).Id) (len:=(p.aX.take i).length) (p:=λk=>decide (((p.aX.take i).getD k default).Id=(p.aX.getD i default).Id)) cB (by
    intro m k hk;have nQ:k≤4611686018427387904:=by omega
    simp only [ub,AW,F8,aeZ,hk,aeQ,aeS,cX hk,bK,aP,aeY,df nQ];cases decide (((p.aX.take i).getD k default).Id=(p.aX.getD i default).Id)<;>rfl) (by
    intro m;simp only [ub,AW,F9,ae3,aeR,aeT])
   have f3:(allI (p.aX.take i).length λk=>!decide (((p.aX.take i).getD k default).Id=(p.aX.getD i default).Id))=allI i λk=>!decide ((p.aX.getD k default).Id=(p.aX.getD i default).Id):=by
    rw [show(p.aX.take i).length=i by simp;omega,Bool.eq_iff_iff,iT,iT]
    constructor
    ·intro g k hk;have:=g k hk;rwa [RS _ _ hk]at this
    ·intro g k hk;have:=g k hk;rwa [RS _ _ hk]
   rw [f3]at f2;simp only [rT,AY,F_,F',Ga,w_,aeZ,hi,aeQ,aeS,cX hi,bK,aP,aeY,df (show i≤4611686018427387904 by omega),RX hn bA (show(p.aX.getD i default).fp.length<n by omega),qr,f1,aa_ hn bA ab hi h,QA (Nat.le_of_lt hi),ae4]
   have g1:(!decide (0<(i:Int))||(!(decide (0<(i:Int))&&pi (p.aX.getD i default).fp)||a_ (ae9 ((i:Int)-1)) p.aX.length))=true:=by
    have:=qq (b:=!(decide (0<(i:Int))&&pi (p.aX.getD i default).fp)) hi (show p.aX.length≤1000000000 by omega)
    rw [←this];cases decide (0<(i:Int))<;>simp
   simp only [g1,bK,←yb,fE,gx];unfold yc RY uR;simp only
   cases hd:decide (0<(i:Int))
   ·simp only [Bool.false_and,aeT,aeV,Bool.true_or,Bool.true_and];cases (decide (1≤(p.aX.getD i default).Id)&&decide ((p.aX.getD i default).Id≤1099511627776))
    ·rfl
    ·cases (decide (1≤(p.aX.getD i default).Node)&&decide ((p.aX.getD i default).Node≤16))
     ·rfl
     ·cases uS p.aX i
      ·rfl
      ·simp only [aeU,Bool.or_self,aeV,aeS,aP,f2,Bool.false_or,Bool.true_and];exact nv rfl
   ·simp only [Bool.true_and,aeS,aeU,Bool.false_or];cases pi (p.aX.getD i default).fp
    ·rfl
    ·cases Op.bytesLess (p.aX.getD (pv i) default).fp (p.aX.getD i default).fp
     ·rfl
     ·cases (decide (1≤(p.aX.getD i default).Id)&&decide ((p.aX.getD i default).Id≤1099511627776))
      ·rfl
      ·cases (decide (1≤(p.aX.getD i default).Node)&&decide ((p.aX.getD i default).Node≤16))
       ·rfl
       ·cases uS p.aX i
        ·rfl
        ·simp only [aeU,Bool.or_self,aeV,aeS,aeT,aP,f2,Bool.false_or,Bool.true_and];exact nv rfl
  ·intro m;simp only [rT,AY,Gb,ae3,aeR,aeT]
 unfold xa pj;rw [e1];simp only [fE,xW,f',aa',bK];cases (((decide (p.Version<0)||decide (1099511627776<p.Version))||decide (p.aX.length<1))||decide (16<p.aX.length)) || !decide ((p.aX.getD 0 default).fp=[])<;>rfl
end
def abb{β:Type}{L:Nat→Int→Option β}{len:Nat}{chk:Nat→Bool}{no:β}{yes:Option β}
 (step:∀m i,i<len→L (m+1) (i:Int)=if chk i then L m ((i+1:Nat):Int)else some no) (stop:∀m,L (m+1) (len:Int)=yes):
 ∀m i,len<i+m→i≤len→L m (i:Int)=if(List.range' i (len-i)).all chk then yes else some no:=by
 intro m;induction m with
 |zero=>intro i h ad;omega
 |succ m a'=>
  intro i h ad;by_cases hi:i<len
  ·rw [step m i hi,a' (i+1) (by omega) (by omega),show len-i=(len-(i+1))+1 by omega,List.range'_succ,List.all_cons]
   cases chk i
   ·rfl
   ·rw [if_pos rfl,Bool.true_and]
  ·obtain rfl:i=len:=by omega
   rw [stop m];simp
def abc{β:Type}{L:Nat→Int→Option β}{len:Nat}{chk:Nat→Bool}{no:β}{yes:Option β}{m:Nat}(hm:len<m)
 (step:∀m i,i<len→L (m+1) (i:Int)=if chk i then L m ((i+1:Nat):Int)else some no) (stop:∀m,L (m+1) (len:Int)=yes):
 L m 0=if allI len chk then yes else some no:=by
 have:=abb step stop m 0 (by omega) (by omega)
 rwa [Nat.sub_zero,←List.range_eq_range']at this
section
variable {n:Nat} (hn:2000≤n) (bA:n≤1000000000)
include hn bA
def uT(o:Outcome):Bool:=bif decide (o.Status=1) then(decide (o.Code=0)&&decide (o.Out.length≤16))&&qs o.Out else((decide (o.Status=2)&&decide (0≤o.Code))&&decide (o.Code≤1009))&&decide (o.Out.length=0)
structure yd(n:Nat)(o:Outcome):Prop where
 out:o.Out.length<n
 vals:∀i,(o.Out.getD i default).S.length≤1000
theorem abd{o:Outcome}(h:yd n o):w0 n o=some (uT o):=by
 have Z:=h.out
 have e1:rM n o n 0=some (qs o.Out):=by
  rw [mJ (L:=rM n o) (no:=false) (yes:=true) Z,sy]
  ·rfl
  ·intro m i hi;have:=h.vals i
   simp only [rM,AB,aeZ,hi,aeQ,aeS,cX hi,bK,aeY,df (show i≤4611686018427387904 by omega),I2 (show(o.Out.getD i default).S.length<n by omega) (by omega),aP]
   exact nv (by simp only [fE,Bool.not_and,Bool.not_not])
  ·intro m;simp only [rM,AB,FW,ae3,aeR,aeT]
 unfold w0 FV uT;rw [e1];simp only [fE,gx,f',l'];cases decide (o.Status=1)
 ·simp only [aeT];cases decide (o.Status=2)<;>rfl
 ·simp only [aeS];by_cases g:o.Out.length≤16
  ·simp only [show¬ 16<o.Out.length by omega,g,aeQ,aeR]
   cases decide (o.Code=0)<;>rfl
  ·simp only [show 16<o.Out.length by omega,g,aeQ,aeR,ae4,aeS,Bool.and_false,Bool.false_and]
def lG(e6:Int):Int:=bif (decide ((ae9 (e6-1))<8)) then(ae9 (e6-1))else 8
def ye(s:bC):Bool:=((decide (s.Client<1)||decide (32<s.Client))||decide (s.Next<1))||decide (1099511627776<s.Next)
omit hn bA in
theorem RZ{s:bC}(h:ye s=false):1≤s.Client∧s.Client≤32∧1≤s.Next∧s.Next≤1099511627776:=by
 simp only [ye,Bool.or_eq_false_iff,decide_eq_false_iff_not]at h;omega
def Co(s:bC)(i:Nat):Bool:=(decide ((s.bV.getD i default).Client=s.Client)&&decide ((s.bV.getD i default).Seq=s.Next-(s.bV.length:Int)+(i:Int)))&&uT (s.bV.getD i default).Outcome
def yf(s:bC):Bool:=(!ye s&&decide ((s.bV.length:Int)=lG s.Next))&&allI s.bV.length (Co s)
structure sD(n:Nat)(s:bC):Prop where
 rep:s.bV.length<n
 out:∀i,yd n (s.bV.getD i default).Outcome
theorem abe{s:bC}(h:sD n s):AD n s=some (yf s):=by
 have Z:=h.rep;unfold AD AA yf;simp only [fE];rw [show(((decide (s.Client<1)||decide (32<s.Client))||decide (s.Next<1))||decide (1099511627776<s.Next))=ye s from rfl]
 cases ei:ye s
 ·have hb:=RZ ei;simp only [aeV,aeS,aP,Bool.false_or,Bool.true_and];rw [show(bif (decide ((ae9 (s.Next-1))<8)) then(ae9 (s.Next-1))else 8)=lG s.Next from rfl]
  rw [mJ (L:=tU n s) (chk:=Co s) (no:=false) (yes:=true) Z,sy]
  ·cases decide ((s.bV.length:Int)=lG s.Next)<;>rfl
  ·intro m i hi;simp only [tU,AC,aeZ,hi,aeQ,aeS,cX hi,bK,aeY,df (show i≤4611686018427387904 by omega)]
   rw [show w0 n (⟨((s.bV.getD i default).Outcome).Status,((s.bV.getD i default).Outcome).Code,((s.bV.getD i default).Outcome).Out⟩:Outcome)=_ from abd hn bA (h.out i),qr,aP,wr (x:=s.Next-((s.bV.length:Nat):Int)) (by omega) (by omega),wr (x:=s.Next-((s.bV.length:Nat):Int)+(i:Int)) (by omega) (by omega)]
   refine nv ?_;unfold Co;simp only [fE,Bool.and_true,Bool.not_not];cases decide ((s.bV.getD i default).Client=s.Client)<;>cases decide ((s.bV.getD i default).Seq=s.Next-(s.bV.length:Int)+(i:Int))<;>rfl
  ·intro m;simp only [tU,AC,FX,ae3,aeR,aeT]
 ·rfl
def qt(l:List bC):Bool:=allI l.length λi=>yf (l.getD i default)&&(!decide (0<(i:Int)) || !decide ((l.getD i default).Client≤(l.getD (pv i) default).Client))
theorem R0{l:List bC}(ab:l.length<n)(h:∀i,sD n (l.getD i default)):p2 n l=some (qt l):=by
 unfold p2 qt;rw [mJ (L:=tV n l) (no:=false) (yes:=true) ab,sy]
 ·intro m i hi;simp only [tV,AE,aeZ,hi,aeQ,aeS,cX hi,bK,aeY,df (show i≤4611686018427387904 by omega),abe hn bA (h i),aP,qq hi (show l.length≤1000000000 by omega)]
  exact nv (by simp only [fE,gx,Bool.not_and,Bool.not_or,Bool.not_not])
 ·intro m;simp only [tV,AE,FY,ae3,aeR,aeT]
end
def abf{β:Type}{c d k:Bool}{x y:β}(h:k=(!c && !d)):(bif c then x else(bif d then x else y))=if k then y else x:=by subst h;cases c<;>cases d<;>rfl
def abg{m k:Nat}(h:m*k≤140737488355328):room m k=true:=by simp [room];exact h
def abh{α:Type}[Inhabited α]{l:List α}{i:Nat}(h:i<l.length):l.getD i default∈l:=by
 rw [List.getD_eq_getElem?_getD,List.getElem?_eq_getElem h];exact List.getElem_mem h
section
variable {n:Nat} (hn:2000≤n) (bA:n≤1000000000)
include hn bA
def R1(a b:bv):Bool:=decide (a.Kind=b.Kind)&&(decide (a.N=b.N)&&(decide (a.S=b.S)&&true))
def yg(r:Row)(floor last:Int)(i:Nat):Bool:=
 ((!decide ((r.bx.getD i default).fB<floor) && !decide (last<(r.bx.getD i default).fB))&&lF (r.bx.getD i default).cj) &&
 !(decide (0<(i:Int))&&(decide ((r.bx.getD i default).fB≤(r.bx.getD (pv i) default).fB)||R1 (r.bx.getD i default).cj (r.bx.getD (pv i) default).cj))
def uU(r:Row)(floor last:Int):Bool:=!(decide (r.bx.length=0)||decide ((r.bx.getD 0 default).cj.Kind=0))&&allI r.bx.length (yg r floor last)
structure I7(n:Nat)(r:Row):Prop where
 key:r.Key.length≤1000
 I8:r.bx.length<n
 val:∀i,(r.bx.getD i default).cj.S.length≤1000
omit hn bA in
theorem abi{i len:Nat}{b:Bool}(hi:i<len)(ab:len≤1000000000):(!(decide (0<(i:Int)))||(b||a_ (ae9 ((i:Int)-1)) len))=true:=by
 have:=qq (b:=b) hi ab
 rw [←this];cases decide (0<(i:Int))<;>cases b<;>simp
omit hn bA in
theorem abj{i len:Nat}(hi:i<len)(ab:len≤1000000000):(!(decide (0<(i:Int)))||a_ (ae9 ((i:Int)-1)) len)=true:=by
 have:=qq (b:=false) hi ab
 rw [Bool.false_or]at this;exact this
omit hn bA in
theorem abk{l:Nat}:(decide (l=0)||a_ 0 l)=true:=by
 by_cases h:l=0
 ·rw [decide_eq_true h];rfl
 ·rw [uF (by omega)];simp
theorem abl{r:Row}(h:I7 n r)(floor last:Int):zZ n r floor last=some (uU r floor last):=by
 have Z:=h.I8;unfold zZ uU;rw [mJ (L:=tG n floor last r) (chk:=yg r floor last) (no:=false) (yes:=true) Z,sy]
 ·simp only [l',abk,bK,fE];cases decide (r.bx.length=0)||decide ((r.bx.getD 0 default).cj.Kind=0)<;>rfl
 ·intro m i hi;have ad:=h.val i;simp only [tG,zY,aeZ,hi,aeQ,aeS,cX hi,bK,aeY,df (show i≤4611686018427387904 by omega),abi hi (show r.bx.length≤1000000000 by omega),abj hi (show r.bx.length≤1000000000 by omega)]
  rw [show pY n (⟨((r.bx.getD i default).cj).Kind,((r.bx.getD i default).cj).N,((r.bx.getD i default).cj).S⟩:bv)=_ from I2 (v:=(r.bx.getD i default).cj) (by omega) (by omega),qr,aP]
  refine abf ?_;unfold yg;simp only [R1,fE,gx,Bool.not_and,Bool.not_or,Bool.not_not];cases decide ((r.bx.getD i default).fB<floor)<;>cases decide (last<(r.bx.getD i default).fB)<;>cases lF (r.bx.getD i default).cj<;>rfl
 ·intro m;simp only [tG,zY,E_,ae3,aeR,aeT]
def mK(s:aD):Bool:=!((decide (s.cy<0)||decide (s.ct<s.cy))||decide (1099511627776<s.ct)) &&
 allI s.Rows.length λi=>(mI (s.Rows.getD i default).Key&&(!decide (0<(i:Int))||Op.bytesLess (s.Rows.getD (pv i) default).Key (s.Rows.getD i default).Key))&&uU (s.Rows.getD i default) s.cy s.ct
structure R2(n:Nat)(s:aD):Prop where
 rows:s.Rows.length<n
 row:∀i,I7 n (s.Rows.getD i default)
theorem R3{s:aD}(h:R2 n s):tI n s=some (mK s):=by
 have Z:=h.rows;unfold tI mK;rw [mJ (L:=tH n s) (chk:=λi=>(mI (s.Rows.getD i default).Key&&(!decide (0<(i:Int))||Op.bytesLess (s.Rows.getD (pv i) default).Key (s.Rows.getD i default).Key))&&uU (s.Rows.getD i default) s.cy s.ct) (no:=false) (yes:=true) Z,sy]
 ·simp only [fE];cases (decide (s.cy<0)||decide (s.ct<s.cy))||decide (1099511627776<s.ct)<;>rfl
 ·intro m i hi;have ad:=(h.row i).key;simp only [tH,z1,aeZ,hi,aeQ,aeS,cX hi,bK,aP,aeY,df (show i≤4611686018427387904 by omega),I1 (show 24<n by omega),qq hi (show s.Rows.length≤1000000000 by omega),abl hn bA (h.row i),qr,←yb]
  refine nv ?_;simp only [fE,gx];cases mI (s.Rows.getD i default).Key<;>cases decide (0<(i:Int))<;>cases Op.bytesLess (s.Rows.getD (pv i) default).Key (s.Rows.getD i default).Key<;>rfl
 ·intro m;simp only [tH,z1,Fa,ae3,aeR,aeT]
end
def qu{α:Type}[Inhabited α]{P:α→Prop}{l:List α}(h:∀x∈l,P x)(h0:P default)(i:Nat):P (l.getD i default):=by
 by_cases hi:i<l.length
 ·exact h _ (abh hi)
 ·rw [List.getD_eq_getElem?_getD,List.getElem?_eq_none (by omega)];exact h0
def qv{v:bv}(h:sx v):v.S.length≤64:=by
 rcases aa6 h.1 with h|h|h
 ·rw [h];simp
 ·rw [h.2];simp
 ·exact aa5 h.2.2
def lH(p:bS):ae7:=ht p.Key++cu p.cj
def I9(p:bS):Prop:=p.Key.length≤24∧sx p.cj
section
variable {n:Nat} (hn:2000≤n) (bA:n≤1000000000) {s:ae7} (hs:s.length<n)
include hn bA hs
end
def uV(x:Part):ae7:=mH x.Id++(ht x.fp++(mH x.Node++(mH x.hh++ht x.hH)))
def uW(x:Part):Prop:=e5 x.Id∧x.fp.length≤24∧e5 x.Node∧e5 x.hh∧x.hH.length≤24
def nw(p:ck):ae7:=mH p.Version++ef uV p.aX
def abm{p:Part}(h:uW p):sC p:=⟨by have:=h.2.1;omega,by have:=h.2.2.2.2;omega⟩
def abn{l:List Part}(h:∀p∈l,uW p)(i:Nat):sC (l.getD i default):=qu (P:=sC) (λx hx=>abm (h x hx)) ⟨by show([]:ae7).length≤1000;simp,by show([]:ae7).length≤1000;simp⟩ i
section
variable {n:Nat} (hn:2000≤n) (bA:n≤1000000000) {s:ae7} (hs:s.length<n)
include hn bA hs
end
def qw(o:Outcome):ae7:=k0 o.Status++(k0 o.Code++ef cu o.Out)
def ol(o:Outcome):Prop:=(0≤o.Status∧o.Status≤9999)∧(0≤o.Code∧o.Code≤9999)∧o.Out.length≤16∧∀v∈o.Out,sx v
def I'(c e6 k:Int)(l:List Outcome):List ea:=(l.zipIdx 0).map λp=>⟨c,ae9 (e6-ae9 (k-(p.2:Int))),p.1⟩
def Cp{e6:Int}(h:1≤e6∧e6≤1099511627776):0≤lG e6∧lG e6≤8∧lG e6≤e6-1:=by
 unfold lG;rw [wr (x:=e6-1) (by omega) (by omega)]
 by_cases dO:e6-1<8
 ·rw [decide_eq_true dO,aeS];omega
 ·rw [decide_eq_false dO,aeT];omega
def lI(s:bC):ae7:=k0 s.Client++(k0 s.Next++gR qw (s.bV.map (·.Outcome)))
def sE(s:bC):Prop:=(1≤s.Client∧s.Client≤32)∧(1≤s.Next∧s.Next≤1099511627776)∧s.bV=I' s.Client s.Next (lG s.Next) (s.bV.map (·.Outcome))∧(s.bV.map (·.Outcome)).length=(lG s.Next).toNat∧∀o∈s.bV.map (·.Outcome),ol o
def R4{n:Nat}(hn:2000≤n){o:Outcome}(h:ol o):yd n o:=
 ⟨by have:=h.2.2.1;omega,λi=>qu (P:=λv:bv=>v.S.length≤1000) (λx hx=>by have:=qv (h.2.2.2 x hx);omega) (by show([]:ae7).length≤1000;simp) i⟩
def abo{n:Nat}(hn:2000≤n){s:bC}(h:sE s):sD n s:=by
 have hk:=Cp h.2.1;have ab:s.bV.length=(lG s.Next).toNat:=by have:=h.2.2.2.1;simpa using this
 refine⟨by omega,λi=>qu (P:=λr:ea=>yd n r.Outcome) (λx hx=>R4 hn (h.2.2.2.2 _ (List.mem_map_of_mem hx))) ?_ i⟩
 refine R4 hn ?_;refine⟨by show(0:Int)≤0∧(0:Int)≤9999;omega,by show(0:Int)≤0∧(0:Int)≤9999;omega,by show([]:List bv).length≤16;simp,λv ar=>by cases ar⟩
def I_{n:Nat}(hn:2000≤n){l:List bC}(h:∀s∈l,sE s)(i:Nat):sD n (l.getD i default):=by
 refine qu (P:=sD n) (λx hx=>abo hn (h x hx)) ⟨by show([]:List ea).length<n;simp;omega,λi=>⟨?_,λi=>?_⟩⟩ i
 ·show((([]:List ea).getD i default).Outcome).Out.length<n
  show([]:List bv).length<n
  simp;omega
 ·show((((([]:List ea).getD _ default).Outcome).Out).getD i default).S.length≤1000
  show([]:ae7).length≤1000
  simp
section
variable {n:Nat} (hn:2000≤n) (bA:n≤1000000000) {s:ae7} (hs:s.length<n)
include hn bA hs
end
abbrev qx:=List ae7
def pk(b:Bool)(p:qx×qx):ae7:=if b then ef ht p.1++ef ht p.2 else[]
def Cq(b:Bool)(p:qx×qx):Prop:=if b then(p.1.length≤64∧∀v∈p.1,v.length≤24)∧(p.2.length≤64∧∀v∈p.2,v.length≤24)else p=([],[])
def qy(r:Request):Prop:=jY r.Client∧jY r.Seq∧r.bb.length≤16∧(r.aw.length≤6∧∀v∈r.aw,sx v)∧Cq r.eA (r.br.Reads,r.br.cz)∧r.br.ee=false
def jG(r:Request):ae7:=k0 r.Client++(k0 r.Seq++(ht r.bb++(ef cu r.aw++(ya r.eA++pk r.eA (r.br.Reads,r.br.cz)))))
def Cr(r:Request):Bool:=(decide (r.Client≤32)&&decide (r.Seq≤1099511627776))&&decide (sB r=0)
def om(h:be):ae7:=ht h.Key++mH h.Count
def abp{n:Nat}(hn:2000≤n){r:Request}(h:qy r):uQ n r:=by
 have a6:=h.2.2.2.2.1
 have hk:(r.br.Reads.length≤64∧∀v∈r.br.Reads,v.length≤24)∧(r.br.cz.length≤64∧∀v∈r.br.cz,v.length≤24):=by
  unfold Cq at a6;cases hd:r.eA
  ·rw [hd]at a6;simp only [Bool.false_eq_true,ae6,Prod.mk.injEq]at a6;rw [a6.1,a6.2];simp
  ·rw [hd]at a6;exact a6
 have hd:∀l:qx,(∀v∈l,v.length≤24)→∀i,(l.getD i default).length≤1000:=λl ab i=>qu (P:=λv:ae7=>v.length≤1000) (λx hx=>by have:=ab x hx;omega) (by show([]:ae7).length≤1000;simp) i
 exact⟨by have:=h.2.2.1;omega,by have:=h.2.2.2.1.1;omega,λi=>qu (P:=λv:bv=>v.S.length≤1000) (λx hx=>by have:=qv (h.2.2.2.1.2 x hx);omega) (by show([]:ae7).length≤1000;simp) i,by have:=hk.1.1;omega,by have:=hk.2.1;omega,hd _ hk.1.2,hd _ hk.2.2⟩
section
variable {n:Nat} (hn:2000≤n) (bA:n≤1000000000) {s:ae7} (hs:s.length<n)
include hn bA hs
end
section
variable {n:Nat} (hn:2000≤n) (bA:n≤1000000000) {s:ae7} (hs:s.length<n)
include hn bA hs
end
structure R5(p:bb):Prop where
 v:o9 p=0
 i:pc p
 w:ZL p≤125000
def k1(p:bb):ae7:=if o9 p=0 then oi p else[]
structure oo(p:bb):Prop where
 i:pc p
 n:p.Name.length≤300000
 f:iu p.Params≤300000
 b:eS p.Body≤300000
def R5.eU{p:bb}(h:R5 p):oo p:=by
 have hw:p.Name.length+iu p.Params+eS p.Body≤125000:=h.w;exact⟨h.i,by omega,by omega,by omega⟩
def R6{n:Nat}{p:bb}(h:oo p)(hn:3000000≤n):p1 n p=some (k1 p):=by
 have Z:=h.n;have ad:=h.f;have al:=h.b;unfold k1;by_cases ar:o9 p=0
 ·rw [if_pos ar];exact aaT p h.i ar hn h.f h.b
 ·rw [if_neg ar];unfold p1;rw [QY p (by omega) (by omega) (by omega) (by omega) (by omega)]
  simp only [aP,ar,aeR,aeV,aeS]
def abq{p:bb}(h:oo p):(k1 p).length≤1300000:=by
 unfold k1;by_cases ar:o9 p=0
 ·rw [if_pos ar];have:=Rw (Rh h.i ar)
  have al:=h.b;omega
 ·rw [if_neg ar];simp
def Ja(x:aD):(⟨x.cy,x.ct,x.Rows⟩:aD)=x:=rfl
def Jb(x:ck):(⟨x.Version,x.aX⟩:ck)=x:=rfl
def Jc(x:Request):(⟨x.Client,x.Seq,x.bb,x.aw,x.eA,(⟨x.br.ee,x.br.Reads,x.br.cz⟩:eK)⟩:Request)=x:=rfl
def Cs(x:b_):(⟨x.Pos,(⟨x.aD.cy,x.aD.ct,x.aD.Rows⟩:aD),x.cp,x.cU,(⟨x.Place.Version,x.Place.aX⟩:ck),x.be,x.Queue,x.dh⟩:b_)=x:=rfl
def yh(l:List bb):Bool:=(allI l.length λi=>!(decide (k1 (l.getD i default)=[])||decide (16384<(((k1 (l.getD i default)).length:Nat):Int)))&&(!decide (0<(i:Int))||Op.bytesLess (l.getD (pv i) default).Name (l.getD i default).Name))&&decide (l.length≤16)
def Ct(l:List Request):Bool:=(allI l.length λi=>decide (sB (l.getD i default)=0))&&decide (l.length≤64)
def jZ(r:b_):Bool:=((((((((decide (0≤r.Pos)&&decide (r.Pos≤1099511627776))&&mK r.aD)&&decide (r.aD.ct=r.Pos))&&yh r.cp)&&qt r.cU)&&pj r.Place)&&sz r.be)&&Ct r.Queue)
structure Jd(n:Nat)(r:b_):Prop where
 st:R2 n r.aD
 Je:r.cp.length<n
 sF:∀i,oo (r.cp.getD i default)
 Cu:r.cU.length<n
 qz:∀i,sD n (r.cU.getD i default)
 pl:r.Place.aX.length<n
 Cv:∀i,sC (r.Place.aX.getD i default)
 bH:r.be.length<n
 jo:∀i,(r.be.getD i default).Key.length≤1000
 qA:r.Queue.length<n
 Cw:∀i,uQ n (r.Queue.getD i default)
def R7:oo default:=by
 refine⟨⟨by show([]:ae7).length≤_;simp,by show([]:List Param).length≤_;simp,λi hi=>by exact absurd hi (by show¬ i<([]:List Param).length;simp),trivial⟩,by show([]:ae7).length≤_;simp,by show iu []≤_;simp [iu],by show eS []≤_;simp [eS]⟩
section
variable {n:Nat} (hn:3000000≤n) (bA:n≤1000000000)
include hn bA
theorem abr{l:List bb}(ab:l.length<n)(h:∀i,oo (l.getD i default)):AU n l=some (yh l):=by
 unfold AU yh;rw [mJ (L:=t_ n l) (chk:=λi=>!(decide (k1 (l.getD i default)=[])||decide (16384<(((k1 (l.getD i default)).length:Nat):Int)))&&(!decide (0<(i:Int))||Op.bytesLess (l.getD (pv i) default).Name (l.getD i default).Name)) (no:=false) (yes:=true) ab,sy]
 ·simp only [f'];by_cases ax:l.length≤16
  ·simp only [ax,show¬ 16<l.length by omega,aeQ,aeR,aeT,Bool.and_true]
  ·simp only [ax,show 16<l.length by omega,aeQ,aeR,aeS,Bool.and_false]
 ·intro m i hi;simp only [t_,AT,aeZ,hi,aeQ,aeS,cX hi,bK,aP,aeY,df (show i≤4611686018427387904 by omega),R6 (h i) hn,qq hi (show l.length≤1000000000 by omega)]
  exact nv (by simp only [fE,gx,Bool.not_and,Bool.not_or,Bool.not_not,←yb])
 ·intro m;simp only [t_,AT,F6,ae3,aeR,aeT]
theorem R8(x y:Int):decide (x<y) = !decide (y≤x):=by
 by_cases h:y≤x
 ·rw [decide_eq_true h,decide_eq_false (by omega)];rfl
 ·rw [decide_eq_false h,decide_eq_true (by omega)];rfl
theorem Jf{r:b_}(h:Jd n r):rV n r=some (jZ r):=by
 have e1:rU n r n 0=some (if(allI r.Queue.length λi=>decide (sB (r.Queue.getD i default)=0)) then((qt r.cU&&pj r.Place)&&sz r.be)else false):=by
  refine mJ (L:=rU n r) h.qA ?_ ?_
  ·intro m i hi;simp only [rU,AZ,aeZ,hi,aeQ,aeS,cX hi,bK,aeY,df (show i≤4611686018427387904 by have:=h.qA;omega)]
   rw [RV (by omega) bA (h.Cw i),aP]
   exact nv rfl
  ·intro m;simp only [rU,AZ,Gc,ae3,aeR,aeT];rw [R0 (by omega) bA h.Cu h.qz,aba (by omega) bA h.pl h.Cv,aa8 (by omega) bA h.bH]
   simp only [aP,qr,gx];cases qt r.cU<;>cases pj r.Place<;>rfl
 unfold rV;rw [e1,R3 (by omega) bA h.st,abr hn bA h.Je h.sF]
 simp only [aP,qr,fE,gx,f'];unfold jZ Ct;rw [show decide (r.Pos<0) = !decide (0≤r.Pos)from R8 hn bA _ _,show decide (1099511627776<r.Pos) = !decide (r.Pos≤1099511627776)from R8 hn bA _ _]
 by_cases ax:r.Queue.length≤64
 ·simp only [ax,show¬ 64<r.Queue.length by omega,aeQ,aeR,Bool.and_true,Bool.or_false,Cn]
  cases decide (0≤r.Pos)<;>cases decide (r.Pos≤1099511627776)<;>cases mK r.aD<;>cases decide (r.aD.ct=r.Pos)<;>cases yh r.cp<;>cases qt r.cU<;>cases pj r.Place<;>cases sz r.be<;>simp
 ·simp only [ax,show 64<r.Queue.length by omega,aeQ,aeR,Bool.and_false,ae4,aeS]
end
abbrev yi:=Int×List bS×qx×List bC×ck×List be×List Request×Int
def jg(p:yi):ae7:=mH p.1++(ef lH p.2.1++(ef ht p.2.2.1++(ef lI p.2.2.2.1++(nw p.2.2.2.2.1++(ef om p.2.2.2.2.2.1++(ef jG p.2.2.2.2.2.2.1++k0 p.2.2.2.2.2.2.2))))))
structure uX(p:yi):Prop where
 pos:e5 p.1
 sF:(p.2.1.length≤2147483647∧∀v∈p.2.1,I9 v)∧I6 p.2.1=true
 src:p.2.2.1.length≤16∧∀s∈p.2.2.1,s.length≤16384
 qz:(p.2.2.2.1.length≤32∧∀v∈p.2.2.2.1,sE v)∧qt p.2.2.2.1=true
 uY:(e5 p.2.2.2.2.1.Version∧p.2.2.2.2.1.aX.length≤16∧∀v∈p.2.2.2.2.1.aX,uW v)∧pj p.2.2.2.2.1=true
 bH:p.2.2.2.2.2.1.length≤32∧∀h∈p.2.2.2.2.2.1,h.Key.length≤24∧e5 h.Count
 qA:p.2.2.2.2.2.2.1.length≤64∧∀v∈p.2.2.2.2.2.2.1,qy v∧Cr v=true
 R9:jY p.2.2.2.2.2.2.2
section
variable {n:Nat} (hn:3000000≤n) (bA:n≤1000000000) {s:ae7} (hs:s.length<n)
include hn bA hs
end
section
variable {n:Nat} (hn:3000000≤n) (bA:n≤1000000000) {s:ae7} (hs:s.length<n)
include hn bA hs
end
abbrev abs:b_:=⟨0,⟨0,0,[]⟩,[],[],⟨0,[]⟩,[],[],0⟩
def R'{n:Nat}(hn:2000≤n):uQ n default:=abp hn ⟨by show jY 0;unfold jY;omega,by show jY 0;unfold jY;omega,by show([]:ae7).length≤16;simp,⟨by show([]:List bv).length≤6;simp,λv ar=>by cases ar⟩,rfl,rfl⟩
def abt{p:yi}(h:uX p):p.2.1.length≤(jg p).length:=by
 have Z:=I5 (E:=lH) (l:=p.2.1) λv _=>by unfold lH ht;simp [RL]
 unfold jg;rw [show ef lH p.2.1=fV p.2.1.length++gR lH p.2.1 from rfl]
 simp only [ae0];omega
def R_{n:Nat}(hn:2000≤n):Jd n abs:=by
 have h0:∀{α:Type} (l:List α),l=[]→l.length<n:=λl h=>by rw [h];show 0<n;omega
 exact {
  st:=by
   refine⟨h0 _ rfl,λi=>⟨?_,?_,λk=>?_⟩⟩
   ·show([]:ae7).length≤1000;simp
   ·exact h0 _ rfl
   ·show([]:ae7).length≤1000;simp
  Je:=h0 _ rfl
  sF:=λi=>qu (P:=oo) (λx hx=>absurd hx (by show¬ x∈([]:List bb);simp)) R7 i
  Cu:=h0 _ rfl
  qz:=I_ hn (λx hx=>by cases hx)
  pl:=h0 _ rfl
  Cv:=abn (λx hx=>by cases hx)
  bH:=h0 _ rfl
  jo:=λi=>by show([]:ae7).length≤1000;simp
  qA:=h0 _ rfl
  Cw:=λi=>qu (P:=uQ n) (λx hx=>absurd hx (by show¬ x∈([]:List Request);simp)) (R' hn) i}
section
variable {n:Nat} (hn:3000000≤n) (bA:n≤1000000000) {s:ae7} (hs:s.length≤2000)
include hn bA hs
end
def Jg:xt 10000000=some true:=by kernel_rfl
def oq{α R:Type}[Inhabited α]{l:List α}{E:α→ae7}{B:Nat}{L:Nat→ae7→Nat→Option R}{fin:ae7→Option R}
 (hs:∀m i acc,i<l.length→acc.length+(E (l.getD i default)).length≤B→L (m+1) acc i=L m (acc++E (l.getD i default)) (i+1))
 (he:∀m acc,acc.length≤B→L (m+1) acc l.length=fin acc):
 ∀m i acc,l.length<m+i→i≤l.length→acc.length+(gR E (l.drop i)).length≤B→L m acc i=fin (acc++gR E (l.drop i)):=by
 intro m;induction m with
 |zero=>intro i acc Z ad;omega
 |succ m a'=>
  intro i acc Z ad al;by_cases hi:i<l.length
  ·rw [iP l i default hi,uO]at al ⊢;rw [ae0]at al;rw [hs m i acc hi (by omega),a' (i+1) _ (by omega) (by omega) (by rw [ae0];omega),List.append_assoc]
  ·obtain rfl:i=l.length:=by omega
   rw [kv l _ hi,aa4]at al ⊢;rw [he m acc (by simpa using al),List.append_nil]
def uZ{n:Nat}(hn:10≤n){z:Int}(h:jY z):gk n (IntKind.u64.wrap z)=some (k0 z):=by
 obtain⟨Z,ad⟩:=h;have e:IntKind.u64.wrap z=((z.toNat:Nat):Int):=by rw [IntKind.wrap_u64];omega
 rw [e];exact qo hn (by omega)
def pm{n:Nat}(hn:10≤n){k:Nat}(h:k<18446744073709551616):gk n (IntKind.u64.wrap (k:Int))=some (fV k):=by
 rw [Ci h];exact qo hn h
def jH{n:Nat}{s t:ae7}(h:t.length+s.length≤10000000):ip n s (fM t)=some (((s.length:Nat):Int),fM (t++s)):=by
 unfold ip tR;simp only [aP,Ch,I0 (show t.length+s.length≤140737488355328 by omega),bK]
 rw [IY];rfl
def Jh{n:Nat}{t:ae7}(h:t.length≤10000000):o2 n (fM t)=some (t,fM t):=by
 unfold o2;simp only [Ry,Rx,Ch,show t.length≤9223372036854775807 by omega,aeQ,Bool.and_self,bK]
def ot{α:Type}[Inhabited α]{P:α→Prop}{l:List α}(h:∀x∈l,P x){i:Nat}(hi:i<l.length):P (l.getD i default):=by
 rw [List.getD_eq_getElem?_getD,List.getElem?_eq_getElem hi];exact h _ (List.getElem_mem hi)
def abu{n:Nat}(hn:2000≤n){l:List bS}(ab:l.length<n)(h:∀p∈l,I9 p)(dg:(ef lH l).length≤1000000):AM n l=some (ef lH l):=by
 have hlen:l.length≤(gR lH l).length:=I5 λv _=>by unfold lH ht;simp [RL]
 unfold ef at dg ⊢;rw [ae0]at dg
 have key:=oq (l:=l) (E:=lH) (B:=2000000) (L:=λm acc i=>tY n l m (fM acc) (i:Int)) (fin:=λacc=>some acc)
  (λm i acc hi hb=>by
   obtain⟨Z,ad⟩:=ot h hi;have al:=qv ad;unfold lH at hb ⊢;rw [ae0]at hb;simp only [tY,AL,hi,cX hi,aeY,aeZ,aeQ,aeS,bK,df (show i≤4611686018427387904 by omega)]
   rw [qp (by omega) (by omega),aP,jH (by omega),aP,
    show rG n (⟨((l.getD i default).cj).Kind,((l.getD i default).cj).N,((l.getD i default).cj).S⟩:bv)=_ from I3 (v:=(l.getD i default).cj) (by omega) ad.2 (by omega),aP,
    jH (by rw [ae0];omega),aP,List.append_assoc])
  (λm acc ha=>by
   simp only [tY,AL,aeZ,Nat.lt_irrefl,aeR,aeT,F4];rw [Jh (by omega),aP])
 unfold AM;rw [pm (by omega) (by omega),aP,IZ,jH (by simp;omega),aP]
 exact key n 0 _ (by omega) (by omega) (by simp;omega)
def abv{n:Nat}(hn:2000≤n){p:ck}(h0:e5 p.Version)(ab:p.aX.length≤16)(h:∀x∈p.aX,uW x)(dg:(nw p).length≤1000000):wJ n p=some (nw p):=by
 have ar:=oj h0;unfold nw ef at dg ⊢;simp only [ae0]at dg
 have key:=oq (l:=p.aX) (E:=uV) (B:=2000000) (L:=λm acc i=>tJ n p m (i:Int) acc) (fin:=λacc=>some acc)
  (λm i acc hi hb=>by
   obtain⟨Z,ad,al,aH,a6⟩:=ot h hi;unfold uV at hb ⊢;simp only [ae0]at hb;simp only [tJ,z',hi,cX hi,aeY,aeZ,aeQ,aeS,bK,df (show i≤4611686018427387904 by omega)]
   rw [sv (by omega) Z,aP,qp (by omega) (by omega),aP,sv (by omega) al,aP,sv (by omega) aH,aP,qp (by omega) (by omega),aP]
   simp (disch:=omega) only [List.length_append,kA,bK,List.append_assoc])
  (λm acc ha=>by simp only [tJ,z',aeZ,Nat.lt_irrefl,aeR,aeT,Ff])
 unfold wJ;rw [sv (by omega) h0,aP,pm (by omega) (by omega),aP,kA (by omega),bK,←List.append_assoc]
 exact key n 0 _ (by omega) (by omega) (by simp only [ae0,List.drop_zero];omega)
def Sa{n:Nat}(hn:2000≤n){l:qx}(ab:l.length≤64)(h:∀x∈l,x.length≤24)(dg:(ef ht l).length≤1000000):wC n l=some (ef ht l):=by
 unfold ef at dg ⊢;simp only [ae0]at dg
 have key:=oq (l:=l) (E:=ht) (B:=2000000) (L:=λm acc i=>tC n l m (i:Int) acc) (fin:=λacc=>some acc)
  (λm i acc hi hb=>by
   have Z:=ot h hi;simp only [tC,zU,hi,cX hi,aeY,aeZ,aeQ,aeS,bK,df (show i≤4611686018427387904 by omega)]
   rw [qp (by omega) (by omega),aP]
   simp (disch:=omega) only [kA,bK])
  (λm acc ha=>by simp only [tC,zU,aeZ,Nat.lt_irrefl,aeR,aeT,E8])
 unfold wC;rw [pm (by omega) (by omega),aP]
 exact key n 0 _ (by omega) (by omega) (by rw [List.drop_zero];omega)
def lJ{z:Int}(h:jY z):(k0 z).length≤10:=kY (by obtain⟨Z,ad⟩:=h;omega)
def Sb{o:Outcome}(h:ol o):jY o.Status∧jY o.Code:=⟨⟨h.1.1,by have:=h.1.2;omega⟩,⟨h.2.1.1,by have:=h.2.1.2;omega⟩⟩
def Sc{α β:Type}(E:β→ae7)(f:α→β)(l:List α):gR E (l.map f)=gR (λx=>E (f x)) l:=by
 unfold gR;rw [List.map_map];rfl
section
variable {n:Nat} (hn:2000≤n)
include hn
theorem abw(du aq:List Int→Int→Option ae7)(l:List bC)(i j:Nat)(hj:j≤4611686018427387904)(am:ol ((((l.getD i default).bV).getD j default).Outcome))(acc:ae7)
 (dg:acc.length+(gR cu ((((l.getD i default).bV).getD j default).Outcome.Out)).length≤2000000):
 rO n du aq l (i:Int) (j:Int) n (fM acc) 0=du (fM (acc++gR cu ((((l.getD i default).bV).getD j default).Outcome.Out))) ((j+1:Nat):Int):=by
 have ab:=am.2.2.1
 have key:=oq (l:=(((l.getD i default).bV).getD j default).Outcome.Out) (E:=cu) (B:=2000000) (L:=λm acc k=>rO n du aq l (i:Int) (j:Int) m (fM acc) (k:Int)) (fin:=λacc=>du (fM acc) ((j+1:Nat):Int))
  (λm k acc hk hb=>by
   have ad:=ot am.2.2.2 hk;have al:=qv ad;simp only [rO,AH,aeY,hk,cX hk,aeZ,aeQ,aeS,bK,df (show k≤4611686018427387904 by omega)]
   rw [I3 (by omega) ad.2 (by omega),aP,jH (by omega),aP])
  (λm acc ha=>by
   simp only [rO,AH,aeY,aeZ,Nat.lt_irrefl,aeR,aeT,F1,df hj])
 have:=key n 0 acc (by omega) (by omega) (by rw [List.drop_zero];exact dg)
 rw [List.drop_zero]at this;exact this
theorem abx(aq:List Int→Int→Option ae7)(l:List bC)(i:Nat)(hi:i≤4611686018427387904)(ab:(l.getD i default).bV.length≤1000)(am:∀r∈(l.getD i default).bV,ol r.Outcome)(acc:ae7)
 (dg:acc.length+(gR (λr:ea=>qw r.Outcome) (l.getD i default).bV).length≤2000000):
 rQ n aq l (i:Int) n (fM acc) 0=aq (fM (acc++gR (λr:ea=>qw r.Outcome) (l.getD i default).bV)) ((i+1:Nat):Int):=by
 have key:=oq (l:=(l.getD i default).bV) (E:=λr:ea=>qw r.Outcome) (B:=2000000) (L:=λm acc j=>rQ n aq l (i:Int) m (fM acc) (j:Int)) (fin:=λacc=>aq (fM acc) ((i+1:Nat):Int))
  (λm j acc hj hb=>by
   have ad:=ot (P:=λr:ea=>ol r.Outcome) am hj
   obtain⟨al,aH⟩:=Sb ad;have a6:=ad.2.2.1;have ga:=lJ al;have ii:=lJ aH;have aep:=kY (u:=(((l.getD i default).bV).getD j default).Outcome.Out.length) (by omega)
   unfold qw ef at hb ⊢;simp only [ae0]at hb;simp only [rQ,AI,aeY,hj,cX hj,aeZ,aeQ,aeS,bK]
   rw [uZ (by omega) al,aP,uZ (by omega) aH,aP,kA (by omega),bK,pm (by omega) (by omega),aP,kA (by rw [ae0];omega),bK,
    jH (by simp only [ae0];omega),aP]
   refine(abw hn _ aq l i j (by omega) ad _ (by simp only [ae0];omega)).trans ?_
   simp only [List.append_assoc])
  (λm acc ha=>by
   simp only [rQ,AI,aeY,aeZ,Nat.lt_irrefl,aeR,aeT,F0,df hi])
 have:=key n 0 acc (by omega) (by omega) (by rw [List.drop_zero];exact dg)
 rw [List.drop_zero]at this;exact this
theorem aby{l:List bC}(ar:p2 n l=some true)(ab:l.length≤32)(h:∀s∈l,sE s)(dg:(ef lI l).length≤1000000):w4 n l=some (ef lI l):=by
 unfold ef at dg ⊢;simp only [ae0]at dg
 have key:=oq (l:=l) (E:=lI) (B:=2000000) (L:=λm acc i=>tX n l m (fM acc) (i:Int)) (fin:=λacc=>some acc)
  (λm i acc hi hb=>by
   have ad:=ot h hi;obtain⟨⟨c1,c2⟩,⟨d1,d2⟩,a6,bT,cI⟩:=ad;have cq:jY (l.getD i default).Client:=⟨by omega,by omega⟩
   have aq:jY (l.getD i default).Next:=⟨by omega,by omega⟩
   have ga:=lJ cq;have ii:=lJ aq;have hk:=Cp ⟨d1,d2⟩;have ai:(l.getD i default).bV.length≤1000:=by rw [List.length_map]at bT;omega
   have am:∀r∈(l.getD i default).bV,ol r.Outcome:=λr ai=>cI _ (List.mem_map_of_mem ai)
   unfold lI at hb ⊢;rw [Sc]at hb ⊢;simp only [ae0]at hb;simp only [tX,AK,aeY,hi,cX hi,aeZ,aeQ,aeS,bK];rw [uZ (by omega) cq,aP,uZ (by omega) aq,aP,kA (by omega),bK,jH (by simp only [ae0];omega),aP]
   refine(abx hn _ l i (by omega) ai am _ (by simp only [ae0];omega)).trans ?_
   simp only [List.append_assoc])
  (λm acc ha=>by
   simp only [tX,AK,aeZ,Nat.lt_irrefl,aeR,aeT,FZ];rw [Jh (by omega),aP])
 unfold w4;rw [ar,aP,aeU,aeT,pm (by omega) (by omega),aP,IZ,jH (by simp;omega),aP]
 have:=key n 0 (fV l.length) (by omega) (by omega) (by rw [List.drop_zero];omega)
 rw [List.drop_zero]at this;exact this
end
def abz{n:Nat}(hn:10≤n){z:Int}(h:jY z):gk n z=some (k0 z):=by
 obtain⟨Z,ad⟩:=h;have e:z=((z.toNat:Nat):Int):=by omega
 have:=qo (n:=n) (u:=z.toNat) hn (by omega)
 rw [←e]at this;exact this
def abA{n:Nat}(b:Bool):E9 n b=some (ya b):=by cases b<;>rfl
def Ji(b:Bool):(ya b).length=1:=by cases b<;>rfl
section
variable {n:Nat} (hn:2000≤n)
include hn
theorem abB{r:Request}(h:qy r)(acc:ae7)(dg:acc.length+(ya r.eA++pk r.eA (r.br.Reads,r.br.cz)).length≤2000000)(qi:(pk r.eA (r.br.Reads,r.br.cz)).length≤1000000):
 wE n r acc=some (acc++(ya r.eA++pk r.eA (r.br.Reads,r.br.cz))):=by
 have a6:=h.2.2.2.2.1;rw [ae0]at dg;unfold wE;rw [abA,aP,kA (by omega),bK]
 cases hd:r.eA
 ·simp only [aeT,wD,pk,ae6,Bool.false_eq_true,List.append_nil]
 ·rw [hd]at a6 dg qi;obtain⟨⟨aR,a2⟩,cH,iD⟩:=a6;simp only at aR a2 cH iD
  simp only [pk,ae5,ae0]at dg qi;rw [aeS,Sa hn aR a2 (by omega),aP,Sa hn cH iD (by omega),aP]
  simp (disch:=omega) only [List.length_append,kA,bK,wD,pk,if_true,List.append_assoc]
theorem abC{r:Request}(ar:nf n r=some 0)(h:qy r)(dg:(jG r).length≤1000000):zW n r=some (jG r):=by
 obtain⟨c1,c2,c3,⟨c4,c5⟩,jI,jh⟩:=id h;have ga:=lJ c1;have ii:=lJ c2;unfold jG ef at dg ⊢;simp only [ae0]at dg
 have key:=oq (l:=r.aw) (E:=cu) (B:=900000) (L:=λm acc i=>tD n r m acc (i:Int)) (fin:=λacc=>wE n r acc)
  (λm i acc hi hb=>by
   have ad:=ot c5 hi;have al:=qv ad;simp only [tD,zV,hi,cX hi,aeY,aeZ,aeQ,aeS,bK,df (show i≤4611686018427387904 by omega)]
   rw [I3 (by omega) ad.2 (by omega),aP,kA (by omega),bK])
  (λm acc ha=>by simp only [tD,zV,aeZ,Nat.lt_irrefl,aeR,aeT])
 unfold zW;rw [ar,aP];simp only [aeQ,aeU,aeT];have t1:=Cj (s:=r.bb) (by omega)
 have Sd:=kY (u:=r.aw.length) (by omega)
 have v1:(gR cu r.aw).length≤1000:=by
  have:∀l:List bv,(∀v∈l,sx v)→(gR cu l).length≤100*l.length:=by
   intro l;induction l with
   |nil=>intro _;simp [gR]
   |cons v l a'=>
    intro bf;have g:=bf v (by simp)
    have g2:=RF g.2 (by have:=qv g;omega)
    have g3:=qv g;have g4:=a' λw hw=>bf w (by simp [hw])
    rw [uO,ae0,aeW];omega
  have:=this r.aw c5
  omega
 rw [uZ (by omega) c1,aP,uZ (by omega) c2,aP,kA (by omega),bK,qp (by omega) (by omega),aP,kA (by simp only [ae0];omega),bK,
  pm (by omega) (by omega),aP,kA (by simp only [ae0];omega),bK]
 have:=key n 0 (((k0 r.Client++k0 r.Seq)++ht r.bb)++fV r.aw.length) (by omega) (by omega) (by rw [List.drop_zero];simp only [ae0];omega)
 rw [List.drop_zero]at this;refine this.trans ?_;rw [abB hn h _ (by simp only [ae0,Ji];simp only [ae0,Ji]at dg;omega) (by omega)]
 simp only [List.append_assoc]
theorem abD{l:List Request}(ab:l.length≤64)(h:∀r∈l,qy r∧nf n r=some 0)(dg:(ef jG l).length≤900000):tF n l=some (ef jG l):=by
 unfold ef at dg ⊢;simp only [ae0]at dg
 have key:=oq (l:=l) (E:=jG) (B:=1000000) (L:=λm acc i=>tE n l m (i:Int) acc) (fin:=λacc=>some acc)
  (λm i acc hi hb=>by
   obtain⟨Z,ad⟩:=ot h hi;simp only [tE,zX,hi,cX hi,aeY,aeZ,aeQ,aeS,bK,df (show i≤4611686018427387904 by omega)]
   rw [ad,aP];simp only [aeQ,aeU,aeT];rw [abC hn ad Z (by omega),aP,kA (by omega),bK])
  (λm acc ha=>by simp only [tE,zX,aeZ,Nat.lt_irrefl,aeR,aeT,E'])
 unfold tF;simp only [f',show¬ 64<l.length by omega,aeR,aeT]
 rw [pm (by omega) (by omega),aP]
 have:=key n 0 (fV l.length) (by omega) (by omega) (by rw [List.drop_zero];omega)
 rw [List.drop_zero]at this;exact this
theorem abE{r:b_}(ax:tF n r.Queue=some (ef jG r.Queue))(hc:jY r.dh)(acc:ae7)(dg:acc.length+(ef jG r.Queue).length≤3000000):
 w5 n r (fM acc)=some (acc++(ef jG r.Queue++k0 r.dh)):=by
 have:=lJ hc
 unfold w5;rw [ax,aP,jH (by omega),aP,abz (by omega) hc,aP,jH (by rw [ae0];omega),aP,Jh (by simp only [ae0];omega),aP]
 simp only [List.append_assoc]
theorem abF{r:b_}(Z:w4 n r.cU=some (ef lI r.cU))(ad:wJ n r.Place=some (nw r.Place))(al:r.be.length≤32∧∀h∈r.be,h.Key.length≤24∧e5 h.Count)
 (ax:tF n r.Queue=some (ef jG r.Queue)) (hc:jY r.dh) (acc:ae7) (dg:acc.length+(ef lI r.cU).length+(nw r.Place).length+(ef om r.be).length+(ef jG r.Queue).length≤2000000):
 t7 n r (fM acc)=some (acc++(ef lI r.cU++(nw r.Place++(ef om r.be++(ef jG r.Queue++k0 r.dh))))):=by
 obtain⟨al,aH⟩:=al;have Sd:=kY (u:=r.be.length) (by omega)
 have qi:=dg;rw [show(ef om r.be).length=(fV r.be.length).length+(gR om r.be).length by unfold ef;simp]at qi
 have key:=oq (l:=r.be) (E:=om) (B:=2000000) (L:=λm acc i=>t6 n r m (fM acc) (i:Int)) (fin:=λacc=>w5 n r (fM acc))
  (λm i acc hi hb=>by
   obtain⟨g1,g2⟩:=ot aH hi;unfold om at hb ⊢;rw [ae0]at hb;simp only [t6,AP,hi,cX hi,aeY,aeZ,aeQ,aeS,bK,df (show i≤4611686018427387904 by omega)]
   rw [qp (by omega) (by omega),aP,jH (by omega),aP,sv (by omega) g2,aP,jH (by rw [ae0];omega),aP,List.append_assoc])
  (λm acc ha=>by simp only [t6,AP,aeZ,Nat.lt_irrefl,aeR,aeT])
 unfold t7;rw [Z,aP,jH (by omega),aP,ad,aP,jH (by rw [ae0];omega),aP,pm (by omega) (by omega),aP,jH (by simp only [ae0];omega),aP]
 have:=key n 0 (((acc++ef lI r.cU)++nw r.Place)++fV r.be.length) (by omega) (by omega) (by rw [List.drop_zero];simp only [ae0];omega)
 rw [List.drop_zero]at this;refine this.trans ?_;rw [abE hn ax hc _ (by simp only [ae0];omega)]
 unfold ef;simp only [List.append_assoc]
end
section
variable {n:Nat} (hn:3000000≤n) (bA:n≤1000000000)
include hn bA
end
section
variable {n:Nat} (hn:3000000≤n) (bA:n≤1000000000) {s:ae7} (hs:s.length≤2000)
include hn bA hs
end
section
variable {n:Nat} (hn:2000≤n)
include hn
end
section
variable {n:Nat} (hn:2000≤n)
include hn
end
def mc(r:b_)(A:List bS):yi:=(r.Pos,A,r.cp.map k1,r.cU,r.Place,r.be,r.Queue,r.dh)
section
variable {n:Nat} (hn:2000≤n)
include hn
end
section
variable {n:Nat} (hn:3000000≤n) (bA:n≤1000000000) {r:b_} {A:List bS} (hp:uX (mc r A)) (hs:(jg (mc r A)).length≤800000) (hg:∀q∈r.cp,oo q) (m1:r.cp.length≤1000)
include hn bA hp hs hg m1
end
section
variable {n:Nat} (hn:3000000≤n) (bA:n≤1000000000) {r:b_} {A:List bS} (hp:uX (mc r A)) (hs:(jg (mc r A)).length≤800000) (hg:∀q∈r.cp,oo q) (m1:r.cp.length≤1000)
include hn bA hp hs hg m1
theorem abG(abH:wI n r.aD r.Pos=some (A,0))(abI:p2 n r.cU=some true)(abJ:∀q∈r.Queue,nf n q=some 0):rS n r=some (jg (mc r A)):=by
 have aeq:A.length≤(jg (mc r A)).length:=abt hp;have wd:=hs;unfold jg mc at hs;simp only [ae0]at hs;have abK:=aby (n:=n) (by omega) abI hp.qz.1.1 hp.qz.1.2 (by show(ef lI r.cU).length≤_;omega)
 have abL:=abv (n:=n) (by omega) hp.uY.1.1 hp.uY.1.2.1 hp.uY.1.2.2 (by show(nw r.Place).length≤_;omega)
 have abM:=abD (n:=n) (by omega) hp.qA.1 (λq ax=>⟨(hp.qA.2 q ax).1,abJ q ax⟩) (by show(ef jG r.Queue).length≤_;omega)
 have ba:=abu (n:=n) (l:=A) (by omega) (by omega) hp.sF.1.2 (by omega)
 have KW:e5 r.Pos:=hp.pos;have i1:(mH r.Pos).length≤10:=oj hp.pos;have Sd:=kY (u:=r.cp.length) (by omega)
 have kJ:ef ht (r.cp.map k1)=fV r.cp.length++gR (λq=>ht (k1 q)) r.cp:=by
  unfold ef;rw [Sc,List.length_map]
 rw [kJ]at hs;simp only [ae0]at hs
 have j:∀B:ae7,B.length≤1000000→t7 n r (fM B)=some (B++(ef lI r.cU++(nw r.Place++(ef om r.be++(ef jG r.Queue++k0 r.dh))))):=λB dg=>
  abF (by omega) abK abL hp.bH abM hp.R9 B (by omega)
 have key:=oq (l:=r.cp) (E:=λq=>ht (k1 q)) (B:=1000000) (L:=λm acc i=>t8 n r m (fM acc) (i:Int)) (fin:=λacc=>t7 n r (fM acc))
  (λm i acc hi hb=>by
   have g:=ot hg hi;have g2:=abq g;simp only [t8,AQ,hi,cX hi,aeY,aeZ,aeQ,aeS,bK,df (show i≤4611686018427387904 by omega)]
   rw [R6 g hn,aP,qp (by omega) (by omega),aP,jH (by omega),aP])
  (λm acc ha=>by simp only [t8,AQ,aeZ,Nat.lt_irrefl,aeR,aeT])
 unfold rS;rw [abH,aP,sv (by omega) KW,aP,IZ,jH (by simp;omega),aP,ba,aP,jH (by simp;omega),aP,pm (by omega) (by omega),aP,jH (by simp only [ae0,aeX];omega),aP]
 have:=key n 0 ((([]++mH r.Pos)++ef lH A)++fV r.cp.length) (by omega) (by omega) (by rw [List.drop_zero];simp only [ae0,aeX];omega)
 rw [List.drop_zero]at this;refine this.trans ?_;rw [j _ (by simp only [ae0,aeX];omega)]
 unfold jg mc;simp only
 rw [kJ];simp only [List.append_assoc,List.nil_append]
end
def sG(r:Row):Bool:=(decide (r.bx.length≤12)&&decide (r.Key.length≤200))&&allI r.bx.length λk=>decide ((r.bx.getD k default).cj.S.length≤200)
def abN{n:Nat}(hn:2000≤n)(s:aD):Bu n s 12=some (decide (s.Rows.length≤12)&&allI s.Rows.length λi=>sG (s.Rows.getD i default)):=by
 unfold Bu;by_cases h:s.Rows.length≤12
 ·simp only [f',show¬ 12<s.Rows.length by omega,aeR,aeT,h,aeQ,Bool.true_and]
  refine(mJ (L:=p9 n s) (len:=s.Rows.length) (chk:=λi=>sG (s.Rows.getD i default)) (no:=false) (yes:=true) (m:=n) (by omega) ?_ ?_).trans (by cases allI s.Rows.length (λi=>sG (s.Rows.getD i default))<;>rfl)
  ·intro m i hi;simp only [p9,Bt,hi,cX hi,aeY,aeZ,f',aeQ,aeS,bK,ae4,fE];unfold sG;by_cases Z:(s.Rows.getD i default).bx.length≤12
   ·by_cases ad:(s.Rows.getD i default).Key.length≤200
    ·simp only [show¬ 12<(s.Rows.getD i default).bx.length by omega,show¬ 200<(s.Rows.getD i default).Key.length by omega,Z,ad,hi,cX hi,aeR,aeQ,Bool.or_false,Bool.false_or,aeS,aeT,Bool.true_and,bK]
     refine abc (L:=um n (p9 n s m) (i:Int) s) (len:=(s.Rows.getD i default).bx.length) (chk:=λk=>decide (((s.Rows.getD i default).bx.getD k default).cj.S.length≤200)) (no:=false) (yes:=p9 n s m ((i+1:Nat):Int)) (m:=n) (by omega) ?_ ?_
     ·intro m2 k hk;simp only [um,Bs,hi,hk,cX hi,cX hk,aeY,aeZ,f',aeQ,aeS,bK,df (show k≤4611686018427387904 by omega)]
      by_cases al:((s.Rows.getD i default).bx.getD k default).cj.S.length≤200
      ·simp only [show¬ 200<((s.Rows.getD i default).bx.getD k default).cj.S.length by omega,al,aeR,aeQ,aeT,ae5]
      ·simp only [show 200<((s.Rows.getD i default).bx.getD k default).cj.S.length by omega,al,aeQ,aeR,aeS,ae6,Bool.false_eq_true]
     ·intro m2;simp only [um,Bs,HY,cX hi,aeY,bK,aeZ,Nat.lt_irrefl,aeR,aeT,df (show i≤4611686018427387904 by omega)]
    ·simp only [show 200<(s.Rows.getD i default).Key.length by omega,ad,hi,cX hi,bK,aeQ,aeR,ae4,aeS,Bool.and_false,Bool.false_and,ae6,Bool.false_eq_true]
   ·simp only [show 12<(s.Rows.getD i default).bx.length by omega,Z,hi,cX hi,bK,aeQ,aeR,Bool.true_or,aeS,Bool.false_and,ae6,Bool.false_eq_true]
  ·intro m;simp only [p9,Bt,HX,aeZ,Nat.lt_irrefl,aeR,aeT]
 ·simp only [f',show 12<s.Rows.length by omega,h,aeQ,aeR,aeS,Bool.false_and]
def abO{L:Nat→Int→ae_}{len:Nat}{Q:Nat→Prop}{fin:ae_}
 (step:∀m i,i<len→L (m+1) (i:Int)=some false∨(Q i∧L (m+1) (i:Int)=L m ((i+1:Nat):Int))) (stop:∀m,L (m+1) (len:Int)=fin):
 ∀m i,len<m+i→i≤len→L m (i:Int)=some false∨((∀k,i≤k→k<len→Q k)∧L m (i:Int)=fin):=by
 intro m;induction m with
 |zero=>intro i Z ad;omega
 |succ m a'=>
  intro i Z ad;by_cases hi:i<len
  ·rcases step m i hi with h|⟨ax,h⟩
   ·exact Or.inl h
   ·rcases a' (i+1) (by omega) (by omega)with al|⟨al,aH⟩
    ·exact Or.inl (h.trans al)
    ·refine Or.inr ⟨λk hk nQ=>?_,h.trans aH⟩
     by_cases e:k=i
     ·subst e;exact ax
     ·exact al k (by omega) nQ
  ·obtain rfl:i=len:=by omega
   exact Or.inr ⟨λk hk nQ=>by omega,stop m⟩
def ou{L:Nat→Int→ae_}{len m:Nat}{Q:Nat→Prop}{fin:ae_}(hm:len<m)
 (step:∀m i,i<len→L (m+1) (i:Int)=some false∨(Q i∧L (m+1) (i:Int)=L m ((i+1:Nat):Int))) (stop:∀m,L (m+1) (len:Int)=fin):
 L m 0=some false∨((∀k,k<len→Q k)∧L m 0=fin):=by
 rcases abO step stop m 0 (by omega) (by omega)with h|⟨Z,ad⟩
 ·exact Or.inl h
 ·exact Or.inr ⟨λk hk=>Z k (by omega) hk,ad⟩
structure Se(f:eK):Prop where
 r:f.Reads.length≤100
 w:f.cz.length≤100
 rs:∀i,i<f.Reads.length→(f.Reads.getD i default).length≤100
 ws:∀i,i<f.cz.length→(f.cz.getD i default).length≤100
def abP{n:Nat}(hn:2000≤n)(f:eK):r9 n f 100=some false∨(Se f∧r9 n f 100=some true):=by
 unfold r9;simp only [f',fE];by_cases Z:f.Reads.length≤100
 ·by_cases ad:f.cz.length≤100
  ·simp only [show¬ 100<f.Reads.length by omega,show¬ 100<f.cz.length by omega,aeR,Bool.or_false,aeT]
   have hw:=ou (L:=r8 n f) (len:=f.cz.length) (m:=n) (Q:=λi=>(f.cz.getD i default).length≤100) (fin:=some true) (by omega)
    (λm i hi=>by
     simp only [r8,Bv,hi,cX hi,aeY,aeZ,f',aeQ,aeS,bK,df (show i≤4611686018427387904 by omega)]
     by_cases h:(f.cz.getD i default).length≤100
     ·right;simp only [show¬ 100<(f.cz.getD i default).length by omega,aeR,aeT,h,true_and]
     ·left;simp only [show 100<(f.cz.getD i default).length by omega,aeQ,aeS])
    (λm=>by simp only [r8,Bv,HZ,aeZ,Nat.lt_irrefl,aeR,aeT])
   have ai:=ou (L:=un n f) (len:=f.Reads.length) (m:=n) (Q:=λi=>(f.Reads.getD i default).length≤100) (fin:=r8 n f n 0) (by omega)
    (λm i hi=>by
     simp only [un,Bw,hi,cX hi,aeY,aeZ,f',aeQ,aeS,bK,df (show i≤4611686018427387904 by omega)]
     by_cases h:(f.Reads.getD i default).length≤100
     ·right;simp only [show¬ 100<(f.Reads.getD i default).length by omega,aeR,aeT,h,true_and]
     ·left;simp only [show 100<(f.Reads.getD i default).length by omega,aeQ,aeS])
    (λm=>by simp only [un,Bw,H0,aeZ,Nat.lt_irrefl,aeR,aeT])
   rcases ai with ai|⟨hy,hM⟩
   ·exact Or.inl ai
   ·rw [hM];rcases hw with hw|⟨v_,wa⟩
    ·exact Or.inl hw
    ·exact Or.inr ⟨⟨Z,ad,hy,v_⟩,wa⟩
  ·left;simp only [show 100<f.cz.length by omega,aeQ,ae4,aeS]
 ·left;simp only [show 100<f.Reads.length by omega,aeQ,Bool.true_or,aeS]
structure Jj(r:Request):Prop where
 p:r.bb.length≤300
 a:r.aw.length≤40
 vs:∀i,i<r.aw.length→(r.aw.getD i default).S.length≤300
 f:Se r.br
def abQ{n:Nat}(hn:2000≤n)(r:Request):xx n r=some false∨(Jj r∧xx n r=some true):=by
 unfold xx;simp only [f',fE];by_cases Z:r.bb.length≤300
 ·by_cases ad:r.aw.length≤40
  ·simp only [show¬ 300<r.bb.length by omega,show¬ 40<r.aw.length by omega,aeR,Bool.or_false,Bool.false_or,aeV,aeS]
   rcases abP hn r.br with h|⟨al,h⟩
   ·left;rw [show r9 n _ 100=some false from h];rfl
   ·rw [show r9 n (⟨r.br.ee,r.br.Reads,r.br.cz⟩:eK) 100=some true from h,aP]
    simp only [aeU,aeT]
    rcases ou (L:=uo n r) (len:=r.aw.length) (m:=n) (Q:=λi=>(r.aw.getD i default).S.length≤300) (fin:=some true) (by omega)
     (λm i hi=>by
      simp only [uo,Bx,hi,cX hi,aeY,aeZ,f',aeQ,aeS,bK,df (show i≤4611686018427387904 by omega)]
      by_cases h:(r.aw.getD i default).S.length≤300
      ·right;simp only [show¬ 300<(r.aw.getD i default).S.length by omega,aeR,aeT,h,true_and]
      ·left;simp only [show 300<(r.aw.getD i default).S.length by omega,aeQ,aeS])
     (λm=>by simp only [uo,Bx,H2,aeZ,Nat.lt_irrefl,aeR,aeT])with aH|⟨aH,a6⟩
    ·exact Or.inl aH
    ·exact Or.inr ⟨⟨Z,ad,aH,al⟩,a6⟩
  ·left;simp only [show 40<r.aw.length by omega,aeQ,ae4,Bool.true_or,aeU,aeT,aP,aeS]
 ·left;simp only [show 300<r.bb.length by omega,aeQ,Bool.true_or,aeU,aeT,aP,aeS]
structure Sf(p:ck)(h:List be):Prop where
 pl:p.aX.length≤20
 ab:h.length≤40
 b9:∀i,i<p.aX.length→(p.aX.getD i default).fp.length≤200∧(p.aX.getD i default).hH.length≤200
 hs:∀i,i<h.length→(h.getD i default).Key.length≤200
def abR{n:Nat}(hn:2000≤n)(p:ck)(h:List be):xy n p h=some false∨(Sf p h∧xy n p h=some true):=by
 unfold xy
 have bf:=ou (L:=r' n h p) (len:=min h.length 41) (m:=n) (Q:=λi=>(h.getD i default).Key.length≤200) (fin:=By n h p) (by omega)
  (λm i hi=>by
   have nx:i<h.length:=by omega
   have pz:(i:Int)<41:=by omega
   simp only [r',Bz,nx,pz,cX nx,aeY,aeZ,f',aeQ,aeS,bK,df (show i≤4611686018427387904 by omega)]
   by_cases g:(h.getD i default).Key.length≤200
   ·right;simp only [show¬ 200<(h.getD i default).Key.length by omega,aeR,aeT,g,true_and]
   ·left;simp only [show 200<(h.getD i default).Key.length by omega,aeQ,aeS])
  (λm=>by
   simp only [r',Bz];by_cases e:h.length≤40
   ·rw [Nat.min_eq_left (by omega)];simp only [aeZ,Nat.lt_irrefl,aeR,aeT]
   ·rw [Nat.min_eq_right (by omega)]
    cases decide (((41:Nat):Int)<((h.length:Nat):Int))<;>rfl)
 have hp:=ou (L:=uq n h p) (len:=min p.aX.length 21) (m:=n) (Q:=λi=>(p.aX.getD i default).fp.length≤200∧(p.aX.getD i default).hH.length≤200) (fin:=r' n h p n 0) (by omega)
  (λm i hi=>by
   have nx:i<p.aX.length:=by omega
   have pz:(i:Int)<21:=by omega
   simp only [uq,BA,nx,pz,cX nx,aeY,aeZ,f',aeQ,aeS,fE,ae4,bK,df (show i≤4611686018427387904 by omega)]
   by_cases Z:(p.aX.getD i default).fp.length≤200
   ·by_cases ad:(p.aX.getD i default).hH.length≤200
    ·right;simp only [show¬ 200<(p.aX.getD i default).fp.length by omega,show¬ 200<(p.aX.getD i default).hH.length by omega,aeR,Bool.or_false,aeT,Z,ad,true_and,and_self]
    ·left;simp only [show 200<(p.aX.getD i default).hH.length by omega,aeQ,ae4,aeS]
   ·left;simp only [show 200<(p.aX.getD i default).fp.length by omega,aeQ,Bool.true_or,aeS])
  (λm=>by
   simp only [uq,BA,H3];by_cases e:p.aX.length≤20
   ·rw [Nat.min_eq_left (by omega)];simp only [aeZ,Nat.lt_irrefl,aeR,aeT]
   ·rw [Nat.min_eq_right (by omega)]
    cases decide (((21:Nat):Int)<((p.aX.length:Nat):Int))<;>rfl)
 rcases hp with hp|⟨DY,te⟩
 ·exact Or.inl hp
 ·rw [te];rcases bf with bf|⟨abS,yK⟩
  ·exact Or.inl bf
  ·rw [yK];unfold By;by_cases a:p.aX.length≤20
   ·by_cases b:h.length≤40
    ·right
     refine⟨⟨a,b,λi hi=>DY i (by omega),λi hi=>abS i (by omega)⟩,?_⟩
     simp only [kW,a,b,aeQ,aeS]
    ·left;simp only [kW,a,b,aeQ,aeR,aeS]
   ·left;simp only [kW,a,aeR,aeT]
structure Sg(o:Outcome):Prop where
 l:o.Out.length≤20
 vs:∀i,i<o.Out.length→(o.Out.getD i default).S.length≤200
structure Jk(s:bC):Prop where
 l:s.bV.length≤12
 os:∀i,i<s.bV.length→Sg (s.bV.getD i default).Outcome
def abT{n:Nat}(hn:2000≤n)(l:List bC):xz n l=some false∨((l.length≤6∧∀i,i<l.length→Jk (l.getD i default))∧xz n l=some true):=by
 unfold xz
 rcases ou (L:=nl n l) (len:=min l.length 7) (m:=n) (Q:=λi=>Jk (l.getD i default)) (fin:=BB n l) (by omega)
  (λm i hi=>by
   have nx:i<l.length:=by omega
   have pz:(i:Int)<7:=by omega
   simp only [nl,BE,nx,pz,cX nx,aeY,aeZ,f',aeQ,aeS,bK];by_cases Z:(l.getD i default).bV.length≤12
   ·simp only [show¬ 12<(l.getD i default).bV.length by omega,aeR,aeT]
    rcases ou (L:=p' n (nl n l m) l (i:Int)) (len:=(l.getD i default).bV.length) (m:=n) (Q:=λj=>Sg ((l.getD i default).bV.getD j default).Outcome) (fin:=nl n l m ((i+1:Nat):Int)) (by omega)
     (λm2 j hj=>by
      simp only [p',BD,nx,hj,cX nx,cX hj,aeY,aeZ,f',aeQ,aeS,bK];by_cases ad:((l.getD i default).bV.getD j default).Outcome.Out.length≤20
      ·simp only [show¬ 20<((l.getD i default).bV.getD j default).Outcome.Out.length by omega,aeR,aeT]
       rcases ou (L:=ur n (p' n (nl n l m) l (i:Int) m2) (nl n l m) l (i:Int) (j:Int)) (len:=((l.getD i default).bV.getD j default).Outcome.Out.length) (m:=n) (Q:=λk=>(((l.getD i default).bV.getD j default).Outcome.Out.getD k default).S.length≤200) (fin:=p' n (nl n l m) l (i:Int) m2 ((j+1:Nat):Int)) (by omega)
        (λm3 k hk=>by
         simp only [ur,BC,hk,cX hk,aeY,aeZ,f',aeQ,aeS,bK,df (show k≤4611686018427387904 by omega)]
         by_cases al:(((l.getD i default).bV.getD j default).Outcome.Out.getD k default).S.length≤200
         ·right;simp only [show¬ 200<(((l.getD i default).bV.getD j default).Outcome.Out.getD k default).S.length by omega,aeR,aeT,al,true_and]
         ·left;simp only [show 200<(((l.getD i default).bV.getD j default).Outcome.Out.getD k default).S.length by omega,aeQ,aeS])
        (λm3=>by simp only [ur,BC,H5,aeY,aeZ,Nat.lt_irrefl,aeR,aeT,df (show j≤4611686018427387904 by omega)])with h|⟨h,g⟩
       ·exact Or.inl h
       ·exact Or.inr ⟨⟨ad,h⟩,g⟩
      ·left;simp only [show 20<((l.getD i default).bV.getD j default).Outcome.Out.length by omega,aeQ,aeS])
     (λm2=>by simp only [p',BD,H4,cX nx,bK,aeY,aeZ,Nat.lt_irrefl,aeR,aeT,df (show i≤4611686018427387904 by omega)])with h|⟨h,g⟩
    ·exact Or.inl h
    ·exact Or.inr ⟨⟨Z,h⟩,g⟩
   ·left;simp only [show 12<(l.getD i default).bV.length by omega,aeQ,aeS])
  (λm=>by
   simp only [nl,BE];by_cases e:l.length≤6
   ·rw [Nat.min_eq_left (by omega)];simp only [aeZ,Nat.lt_irrefl,aeR,aeT]
   ·rw [Nat.min_eq_right (by omega)]
    cases decide (((7:Nat):Int)<((l.length:Nat):Int))<;>rfl)with h|⟨h,g⟩
 ·exact Or.inl h
 ·rw [g];unfold BB;by_cases a:l.length≤6
  ·right;exact⟨⟨a,λi hi=>h i (by omega)⟩,by simp only [kW,a,aeQ]⟩
  ·left;simp only [kW,a,aeR]
structure u0(r:b_):Prop where
 Jl:r.aD.Rows.length≤12
 rs:∀i,i<r.aD.Rows.length→sG (r.aD.Rows.getD i default)=true
 pl:r.cp.length≤4
 b9:∀i,i<r.cp.length→Ce (r.cp.getD i default) 60
 je:r.cU.length≤6
 l2:∀i,i<r.cU.length→Jk (r.cU.getD i default)
 Cx:Sf r.Place r.be
 Sh:r.Queue.length≤6
 abU:∀i,i<r.Queue.length→Jj (r.Queue.getD i default)
def Si{n:Nat}(hn:2000≤n)(r:b_)(hp:∀i,i<r.cp.length→pc (r.cp.getD i default)):uu n r=some false∨(u0 r∧uu n r=some true):=by
 unfold uu;rw [abN hn,aP];simp only [f',fE];cases Z:decide (r.aD.Rows.length≤12)&&allI r.aD.Rows.length λi=>sG (r.aD.Rows.getD i default)
 ·left;simp only [aeV,Bool.true_or,aeU,aeT,aeS,aP]
 ·by_cases ad:r.cp.length≤4
  ·by_cases al:r.Queue.length≤6
   ·simp only [show¬ 4<r.cp.length by omega,show¬ 6<r.Queue.length by omega,aeR,aeU,Bool.or_false,Bool.false_or,aeV,aeS]
    rcases abT hn r.cU with aH|⟨⟨aH,a6⟩,bT⟩
    ·left;rw [aH,aP];simp only [aeV,Bool.true_or,aeU,aeT,aeS,aP]
    ·rw [bT,aP];simp only [aeU,aeV,aeS,Bool.false_or,Bool.or_false]
     (try rw [Jb])
     rcases abR hn r.Place r.be with cI|⟨cI,dO⟩
     ·left;rw [cI,aP];rfl
     ·rw [dO,aP];simp only [aeU,aeT]
      rcases ou (L:=ut n r) (len:=r.cp.length) (m:=n) (Q:=λi=>Ce (r.cp.getD i default) 60) (fin:=r_ n r n 0) (by omega)
       (λm i hi=>by
        obtain⟨b,e1,e2⟩:=aaE (n:=n) (r.cp.getD i default) 60 (by omega) (by omega) (hp i hi)
        simp only [ut,BG,hi,cX hi,aeY,aeZ,aeQ,aeS,bK,df (show i≤4611686018427387904 by omega)]
        rw [show xw n (r.cp.getD i default) 60=some b from e1,aP]
        cases b
        ·left;rfl
        ·right;exact⟨e2 rfl,rfl⟩)
       (λm=>by simp only [ut,BG,H7,aeZ,Nat.lt_irrefl,aeR,aeT])with gX|⟨gX,g9⟩
      ·exact Or.inl gX
      ·rw [g9]
       rcases ou (L:=r_ n r) (len:=r.Queue.length) (m:=n) (Q:=λi=>Jj (r.Queue.getD i default)) (fin:=some true) (by omega)
        (λm i hi=>by
         simp only [r_,BF,hi,cX hi,aeY,aeZ,aeQ,aeS,bK,df (show i≤4611686018427387904 by omega)]
         rcases abQ hn (r.Queue.getD i default)with h|⟨h,g⟩
         ·left;rw [h];rfl
         ·right;rw [g];exact⟨h,rfl⟩)
        (λm=>by simp only [r_,BF,H6,aeZ,Nat.lt_irrefl,aeR,aeT])with jS|⟨jS,g10⟩
       ·exact Or.inl jS
       ·rw [Bool.and_eq_true,decide_eq_true_eq,iT]at Z;exact Or.inr ⟨⟨Z.1,Z.2,ad,gX,aH,a6,cI,al,jS⟩,g10⟩
   ·left;simp only [show 6<r.Queue.length by omega,aeQ,ae4,Bool.true_or,aeU,aeT,aeS,aP]
  ·left;simp only [show 4<r.cp.length by omega,aeQ,ae4,Bool.true_or,aeU,aeT,aeS,aP]
def ov(r:Row):bv:=(r.bx.getD (r.bx.length-1) default).cj
def gl:List Row→List bS
 |[]=>[]
 |r::l=>if(ov r).Kind=0 then gl l else⟨r.Key,ov r⟩::gl l
structure yj(n:Nat)(a:Int)(r:Row):Prop where
 l:r.bx.length<n
 b:r.bx.length≤1000000000
 p:0<r.bx.length
 s:∀i,i<r.bx.length→(r.bx.getD i default).fB≤a
def abV{n:Nat}{a:Int}{r:Row}(h:yj n a r):z7 n r a=some ((r.bx.length:Nat):Int):=by
 have ab:=h.l;have hb:=h.b;unfold z7
 have key:∀m i,r.bx.length<m+i→i≤r.bx.length→wF n a r m (i:Int)=some ((r.bx.length:Nat):Int):=by
  intro m;induction m with
  |zero=>intro i Z ad;omega
  |succ m a'=>
   intro i Z ad;simp only [wF,Fc,Fb,aeZ,aeY];by_cases hi:i<r.bx.length
   ·simp only [hi,cX hi,aeQ,ae4,bK,aeS,h.s i hi,df (show i≤4611686018427387904 by omega)]
    exact a' (i+1) (by omega) (by omega)
   ·obtain rfl:i=r.bx.length:=by omega
    simp only [Nat.lt_irrefl,aeR,aeV,Bool.true_or,bK,aeT]
 exact key n 0 (by omega) (by omega)
def abW{n:Nat}{a:Int}{r:Row}(h:yj n a r):z8 n r a=some (ov r):=by
 have ab:=h.l;have hb:=h.b;have hp:=h.p;unfold z8;rw [abV h,aP];have e:ae9 (((r.bx.length:Nat):Int)-1)=((r.bx.length-1:Nat):Int):=by(try unfold ae9);rw [IntKind.wrap_i64];omega
 simp only [show¬ ((r.bx.length:Nat):Int)=0 by omega,aeR,aeT,e,cX (show r.bx.length-1<r.bx.length by omega),bK,aeY]
 rfl
section
variable {n:Nat} {s:aD} {a:Int} (ab:s.Rows.length≤1000) (hn:2000≤n) (h:∀i,i<s.Rows.length→yj n a (s.Rows.getD i default)) (a7:s.cy≤a) (ha:a≤s.ct)
include ab hn h a7 ha
theorem abX(ar:tI n s=some true):wI n s a=some (gl s.Rows,0):=by
 have key:∀m i acc,s.Rows.length<m+i→i≤s.Rows.length→acc.length≤i→wH n a s m (i:Int) acc=some (acc++gl (s.Rows.drop i),0):=by
  intro m;induction m with
  |zero=>intro i acc Z ad;omega
  |succ m a'=>
   intro i acc Z ad al;simp only [wH,Fe,aeZ];by_cases hi:i<s.Rows.length
   ·simp only [hi,cX hi,aeY,aeQ,aeS,bK];rw [abW (h i hi),aP,iP s.Rows i default hi,gl];by_cases k:(ov (s.Rows.getD i default)).Kind=0
    ·simp only [k,aeQ,aeU,aeT,wG,df (show i≤4611686018427387904 by omega),ae5]
     exact a' (i+1) _ (by omega) (by omega) (by omega)
    ·simp only [k,aeR,aeV,aeS,ae1,wG,df (show i≤4611686018427387904 by omega),abg (show(acc.length+1)*48≤140737488355328 by omega),bK,ae6]
     rw [a' (i+1) _ (by omega) (by omega) (by rw [ae0,ae1];omega)]
     simp
   ·obtain rfl:i=s.Rows.length:=by omega
    simp only [Nat.lt_irrefl,aeR,aeT,Fd,kv s.Rows _ hi,gl,List.append_nil]
 unfold wI;rw [ar,aP]
 have ai:z6 n s a=some 0:=by
  unfold z6;simp only [show¬ a<s.cy by omega,show¬ s.ct<a by omega,aeR,aeT]
 simp only [aeU,aeT,ai,aP,aeQ];exact key n 0 [] (by omega) (by omega) (by simp)
end
def Sj{n:Nat}{s:aD}(hs:mK s=true)(ar:∀i,i<s.Rows.length→(s.Rows.getD i default).bx.length<n∧(s.Rows.getD i default).bx.length≤1000000000)(i:Nat)(hi:i<s.Rows.length):yj n s.ct (s.Rows.getD i default):=by
 unfold mK at hs;rw [Bool.and_eq_true,iT]at hs;have Z:=hs.2 i hi;rw [Bool.and_eq_true]at Z;have ad:=Z.2;unfold uU at ad;rw [Bool.and_eq_true,iT]at ad;obtain⟨al,aH⟩:=ad;refine⟨(ar i hi).1,(ar i hi).2,?_,λk hk=>?_⟩
 ·by_cases e:(s.Rows.getD i default).bx.length=0
  ·rw [e]at al;simp at al
  ·omega
 ·have a6:=aH k hk;unfold yg at a6;simp only [Bool.and_eq_true,Bool.not_eq_true',decide_eq_false_iff_not]at a6;have:=a6.1.1.2
  omega
def u1:List ae7→Prop
 |[]=>True
 |k::l=>(∀j∈l,Op.bytesLess k j=true)∧u1 l
def Sk:∀l:List ae7,(∀i,i+1<l.length→Op.bytesLess (l.getD i []) (l.getD (i+1) [])=true)→u1 l
 |[],_=>trivial
 |k::l,h=>by
  have a':=Sk l λi hi=>by have:=h (i+1) (by simpa using hi);simpa using this
  refine⟨λj hj=>?_,a'⟩
  cases l with
  |nil=>simp at hj
  |cons aq l=>
   have h0:Op.bytesLess k aq=true:=by simpa using h 0 (by simp)
   rcases List.mem_cons.1 hj with rfl|hj
   ·exact h0
   ·exact RN _ _ _ h0 (a'.1 j hj)
def Sl:∀(l:List ae7) (i:Nat),u1 l→i+1<l.length→Op.bytesLess (l.getD i []) (l.getD (i+1) [])=true
 |[],i,_,h=>by simp at h
 |k::l,0,⟨Z,_⟩,h=>by
  cases l with
  |nil=>simp at h
  |cons aq l=>simpa using Z aq (by simp)
 |k::l,i+1,⟨_,ad⟩,h=>by
  have:=Sl l i ad (by simpa using h)
  simpa using this
def Jm:∀l:List Row,(∀p∈gl l,p.Key∈l.map (·.Key))
 |[],p,h=>by simp [gl]at h
 |r::l,p,h=>by
  unfold gl at h;by_cases k:(ov r).Kind=0
  ·rw [if_pos k]at h;have:=Jm l p h
   simp only [List.map_cons,List.mem_cons];exact Or.inr this
  ·rw [if_neg k]at h;rcases List.mem_cons.1 h with rfl|h
   ·simp
   ·have:=Jm l p h
    simp only [List.map_cons,List.mem_cons];exact Or.inr this
def Sm:∀l:List Row,u1 (l.map (·.Key))→u1 ((gl l).map (·.Key))
 |[],_=>trivial
 |r::l,h=>by
  obtain⟨Z,ad⟩:=h;have a':=Sm l ad;unfold gl;by_cases k:(ov r).Kind=0
  ·rw [if_pos k];exact a'
  ·rw [if_neg k];refine⟨λj hj=>?_,a'⟩
   obtain⟨p,hp,rfl⟩:=List.mem_map.1 hj;exact Z _ (Jm l p hp)
def Cy:∀(l:List Row) (p:bS),p∈gl l→∃r∈l,p=⟨r.Key,ov r⟩∧(ov r).Kind≠0
 |[],p,h=>by simp [gl]at h
 |r::l,p,h=>by
  unfold gl at h;by_cases k:(ov r).Kind=0
  ·rw [if_pos k]at h;obtain⟨x,hx,e⟩:=Cy l p h;exact⟨x,by simp [hx],e⟩
  ·rw [if_neg k]at h;rcases List.mem_cons.1 h with rfl|h
   ·exact⟨r,by simp,rfl,k⟩
   ·obtain⟨x,hx,e⟩:=Cy l p h;exact⟨x,by simp [hx],e⟩
def Sn{s:aD}(hs:mK s=true)(hb:∀i,i<s.Rows.length→(s.Rows.getD i default).bx.length≤1000000000)(i:Nat)(hi:i<s.Rows.length):mI (s.Rows.getD i default).Key=true∧lF (ov (s.Rows.getD i default))=true:=by
 have h0:=Sj (n:=1000000001) hs (λi hi=>⟨by have:=hb i hi;omega,hb i hi⟩) i hi
 unfold mK at hs;rw [Bool.and_eq_true,iT]at hs;have Z:=hs.2 i hi;simp only [Bool.and_eq_true]at Z;refine⟨Z.1.1,?_⟩
 have ad:=Z.2;unfold uU at ad;rw [Bool.and_eq_true,iT]at ad;have hp:=h0.p;have a6:=ad.2 ((s.Rows.getD i default).bx.length-1) (by omega)
 unfold yg at a6;simp only [Bool.and_eq_true]at a6;exact a6.1.2
def Jn{α:Type}[Inhabited α]{l:List α}{x:α}(h:x∈l):∃i,i<l.length∧l.getD i default=x:=by
 obtain⟨i,hi,e⟩:=List.mem_iff_getElem.1 h;exact⟨i,hi,by rw [List.getD_eq_getElem?_getD,List.getElem?_eq_getElem hi];exact e⟩
def Cz{α:Type}[Inhabited α](l:List α)(f:α→ae7)(i:Nat)(hi:i<l.length):(l.map f).getD i []=f (l.getD i default):=by
 simp only [List.getD_eq_getElem?_getD,List.getElem?_map,List.getElem?_eq_getElem hi,Option.map_some,Option.getD_some]
def CA:∀l:List Row,(gl l).length≤l.length
 |[]=>Nat.le_refl _
 |r::l=>by
  have:=CA l
  unfold gl;split
  ·simp only [aeW];omega
  ·simp only [aeW];omega
def abY{s:aD}(hs:mK s=true)(ab:s.Rows.length≤1000000)(hb:∀i,i<s.Rows.length→(s.Rows.getD i default).bx.length≤1000000000):I6 (gl s.Rows)=true:=by
 have hlen:=CA s.Rows
 have abZ:u1 (s.Rows.map (·.Key)):=by
  refine Sk _ λi hi=>?_
  rw [List.length_map]at hi;have h0:=hs;unfold mK at h0;rw [Bool.and_eq_true,iT]at h0;have Z:=h0.2 (i+1) hi;simp only [Bool.and_eq_true]at Z;have ad:=Z.1.2;rw [RO i (by omega),show decide (0<((i+1:Nat):Int))=true from decide_eq_true (by omega),aeU,Bool.false_or]at ad
  rw [Cz s.Rows (·.Key) i (by omega),Cz s.Rows (·.Key) (i+1) hi]
  exact ad
 have ab0:=Sm _ abZ
 have Jo:∀i,i<(gl s.Rows).length→mI ((gl s.Rows).getD i default).Key=true∧lF ((gl s.Rows).getD i default).cj=true∧((gl s.Rows).getD i default).cj.Kind≠0:=λi hi=>by
  have hm:(gl s.Rows).getD i default∈gl s.Rows:=by
   rw [List.getD_eq_getElem?_getD,List.getElem?_eq_getElem hi];exact List.getElem_mem hi
  obtain⟨r,ai,e,hk⟩:=Cy _ _ hm;obtain⟨j,hj,rfl⟩:=Jn ai;obtain⟨a,b⟩:=Sn hs hb j hj;rw [e];exact⟨a,b,hk⟩
 unfold I6 RQ;rw [Bool.and_eq_true,iT,iT];refine⟨λi hi=>?_,λi hi=>by rw [decide_eq_false (Jo i hi).2.2];rfl⟩
 rw [(Jo i hi).1,(Jo i hi).2.1];cases i with
 |zero=>rfl
 |succ i=>
  have:=Sl _ i ab0 (by rw [List.length_map];exact hi)
  rw [Cz (gl s.Rows) (λx=>x.Key) i (by omega),Cz (gl s.Rows) (λx=>x.Key) (i+1) hi]at this
  rw [RO i (by omega),this]
  simp
def So{α:Type}:∀(l:List α),l.length=4→∃a b c d,l=[a,b,c,d]
 |[a,b,c,d],_=>⟨a,b,c,d,rfl⟩
 |[],h=>by simp at h
 |[_],h=>by simp at h
 |[_,_],h=>by simp at h
 |[_,_,_],h=>by simp at h
 |_::_::_::_::_::_,h=>by simp at h
section
variable {H:Type} {enc:TypeId×Value→H} {W:World}
theorem Jp:Tryz.prog.cellsOf 165=4:=by kernel_rfl
theorem mL:Tryz.prog.cellsOf 3=1:=by kernel_rfl
theorem ny:Tryz.prog.cellsOf 2=1:=by kernel_rfl
theorem mM:Tryz.prog.cellsOf 9=1:=by kernel_rfl
theorem ab1:Tryz.prog.cellsOf 163=1:=by kernel_rfl
theorem Sp:∀l:List Expr,(∀i,i<l.length→ky (l.getD i default))→uJ l
 |[],h=>trivial
 |x::l,h=>⟨h 0 (by simp),Sp l λi hi=>by have:=h (i+1) (by simpa using hi);simpa using this⟩
theorem Sq:∀(fuel:Nat) (cs:List Value) (x:DataW H×List MemPlace),DataW.trod enc Tryz.prog W 0 (λ_=>true) true fuel 165 cs=some x→∃e:Expr,ky e∧eY W cs (bP e).cells:=by
 intro fuel;induction fuel using Nat.strongRecOn with
 |_ fuel a'=>
  intro cs x h;obtain⟨xs,n,hn,_,ab,fN,a7⟩:=DataW.trod_struct Tryz.underlying165 h;rw [Jp]at ab;obtain⟨c0,c1,c2,c3,rfl⟩:=So cs ab;obtain⟨fm,fF,hF,pn,rfl⟩:=So xs fN;have h0:DataW.trod enc Tryz.prog W 0 (λ_=>true) true n 3 (List.take (Tryz.prog.cellsOf 3) [c0,c1,c2,c3])=some fm:=a7 0 _ rfl
  have Z:DataW.trod enc Tryz.prog W 0 (λ_=>true) true n 2 (List.take (Tryz.prog.cellsOf 2) [c1,c2,c3])=some fF:=a7 1 _ rfl
  have ad:DataW.trod enc Tryz.prog W 0 (λ_=>true) true n 9 (List.take (Tryz.prog.cellsOf 9) [c2,c3])=some hF:=a7 2 _ rfl
  have al:DataW.trod enc Tryz.prog W 0 (λ_=>true) true n 163 (List.take (Tryz.prog.cellsOf 163) [c3])=some pn:=a7 3 _ rfl
  rw [mL]at h0;rw [ny]at Z;rw [mM]at ad;rw [ab1]at al;obtain⟨Op,_,cZ⟩:=g_ (k:=.i64) Tryz.underlying3 h0;obtain⟨N,bA,ah⟩:=g_ (k:=.i64) Tryz.underlying2 Z;obtain⟨S,yk,ak⟩:=mw Tryz.underlying9 ad;obtain⟨A,ei,eR,aE⟩:=jT (encA:=bP) (ok:=ky) Tryz.underlying163 Jp (by omega) al (λm cs' fa hm hx=>a' m (by omega) cs' fa hx)
  refine⟨⟨Op,N,S,A⟩,⟨bA.2,yk,ei,Sp A eR⟩,?_⟩
  have:=((cZ.app ah).app ak).app aE
  exact this.zA (wo ⟨Op,N,S,A⟩)
end
def ab2{α:Type}(l:List α)(h:l.length=13):∃a b c d e f g i j k m n o,l=[a,b,c,d,e,f,g,i,j,k,m,n,o]:=by
 match l,h with
 |[a,b,c,d,e,f,g,i,j,k,m,n,o],_=>exact⟨a,b,c,d,e,f,g,i,j,k,m,n,o,rfl⟩
def ab3{α:Type}(l:List α)(h:l.length=7):∃a b c d e f g,l=[a,b,c,d,e,f,g]:=by
 match l,h with
 |[a,b,c,d,e,f,g],_=>exact⟨a,b,c,d,e,f,g,rfl⟩
def Sr{α:Type}(l:List α)(h:l.length=3):∃a b c,l=[a,b,c]:=by
 match l,h with
 |[a,b,c],_=>exact⟨a,b,c,rfl⟩
def Ss{α:Type}(l:List α)(h:l.length=2):∃a b,l=[a,b]:=by
 match l,h with
 |[a,b],_=>exact⟨a,b,rfl⟩
section
variable {H:Type} {enc:TypeId×Value→H} {W:World}
theorem CB:Tryz.prog.cellsOf 167=13:=by kernel_rfl
theorem St:Tryz.prog.cellsOf 109=2:=by kernel_rfl
theorem Su:Tryz.prog.cellsOf 52=3:=by kernel_rfl
theorem Sv:Tryz.prog.cellsOf 50=1:=by kernel_rfl
theorem ab4:Tryz.prog.cellsOf 49=1:=by kernel_rfl
theorem CC:∀l:List Stmt,(∀i,i<l.length→og (l.getD i default))→oh l
 |[],h=>trivial
 |x::l,h=>⟨h 0 (by simp),CC l λi hi=>by have:=h (i+1) (by simpa using hi);simpa using this⟩
theorem ab5:∀(fuel:Nat) (cs:List Value) (x:DataW H×List MemPlace),DataW.trod enc Tryz.prog W 0 (λ_=>true) true fuel 167 cs=some x→∃s:Stmt,og s∧eY W cs (bI s).cells:=by
 intro fuel;induction fuel using Nat.strongRecOn with
 |_ fuel a'=>
  intro cs x h;obtain⟨xs,n,hn,_,ab,fN,a7⟩:=DataW.trod_struct Tryz.underlying167 h;rw [CB]at ab;obtain⟨c0,c1,c2,c3,c4,c5,jI,jh,mN,c9,lK,u2,c12,rfl⟩:=ab2 cs ab;obtain⟨fm,fF,hF,pn,fe,l7,ni,rfl⟩:=ab3 xs fN;have h0:DataW.trod enc Tryz.prog W 0 (λ_=>true) true n 3 (List.take (Tryz.prog.cellsOf 3) [c0,c1,c2,c3,c4,c5,jI,jh,mN,c9,lK,u2,c12])=some fm:=a7 0 _ rfl
  have Z:DataW.trod enc Tryz.prog W 0 (λ_=>true) true n 9 (List.take (Tryz.prog.cellsOf 9) [c1,c2,c3,c4,c5,jI,jh,mN,c9,lK,u2,c12])=some fF:=a7 1 _ rfl
  have ad:DataW.trod enc Tryz.prog W 0 (λ_=>true) true n 3 (List.take (Tryz.prog.cellsOf 3) [c2,c3,c4,c5,jI,jh,mN,c9,lK,u2,c12])=some hF:=a7 2 _ rfl
  have al:DataW.trod enc Tryz.prog W 0 (λ_=>true) true n 165 (List.take (Tryz.prog.cellsOf 165) [c3,c4,c5,jI,jh,mN,c9,lK,u2,c12])=some pn:=a7 3 _ rfl
  have aH:DataW.trod enc Tryz.prog W 0 (λ_=>true) true n 165 (List.take (Tryz.prog.cellsOf 165) [jh,mN,c9,lK,u2,c12])=some fe:=a7 4 _ rfl
  have a6:DataW.trod enc Tryz.prog W 0 (λ_=>true) true n 50 (List.take (Tryz.prog.cellsOf 50) [u2,c12])=some l7:=a7 5 _ rfl
  have bT:DataW.trod enc Tryz.prog W 0 (λ_=>true) true n 50 (List.take (Tryz.prog.cellsOf 50) [c12])=some ni:=a7 6 _ rfl
  rw [mL]at h0 ad;rw [mM]at Z;rw [Jp]at al aH;rw [Sv]at a6 bT;obtain⟨Op,_,cZ⟩:=g_ (k:=.i64) Tryz.underlying3 h0;obtain⟨Nm,bA,ah⟩:=mw Tryz.underlying9 Z;obtain⟨Sw,cr,ak⟩:=g_ (k:=.i64) Tryz.underlying3 ad;obtain⟨A,ei,aE⟩:=Sq n _ _ al;obtain⟨B,dg,bn⟩:=Sq n _ _ aH;obtain⟨an,aer,Jq,cF⟩:=jT (encA:=bI) (ok:=og) Tryz.underlying50 CB (by omega) a6 (λm cs' fa hm hx=>a' m (by omega) cs' fa hx)
  obtain⟨Jr,aes,Js,bQ⟩:=jT (encA:=bI) (ok:=og) Tryz.underlying50 CB (by omega) bT (λm cs' fa hm hx=>a' m (by omega) cs' fa hx)
  refine⟨⟨Op,Nm,Sw,A,B,an,Jr⟩,⟨cr,bA,ei,dg,CC an Jq,CC Jr Js⟩,?_⟩
  have:=(((((cZ.app ah).app ak).app (aE.zA (EN A))).app (bn.zA (EN B))).app cF).app bQ
  exact this.zA (Mr ⟨Op,Nm,Sw,A,B,an,Jr⟩)
theorem ab6(fuel:Nat)(cs:List Value)(x:DataW H×List MemPlace)(h:DataW.trod enc Tryz.prog W 0 (λ_=>true) true fuel 109 cs=some x):∃p:Param,p.Name.length≤9223372036854775807∧eY W cs (d_ p).cells:=by
 obtain⟨xs,n,hn,_,ab,fN,a7⟩:=DataW.trod_struct Tryz.underlying109 h;rw [St]at ab;obtain⟨c0,c1,rfl⟩:=Ss cs ab;obtain⟨fm,fF,rfl⟩:=Ss xs fN;have h0:DataW.trod enc Tryz.prog W 0 (λ_=>true) true n 9 (List.take (Tryz.prog.cellsOf 9) [c0,c1])=some fm:=a7 0 _ rfl
 have Z:DataW.trod enc Tryz.prog W 0 (λ_=>true) true n 3 (List.take (Tryz.prog.cellsOf 3) [c1])=some fF:=a7 1 _ rfl
 rw [mM]at h0;rw [mL]at Z;obtain⟨Nm,bA,cZ⟩:=mw Tryz.underlying9 h0;obtain⟨ab7,_,ah⟩:=g_ (k:=.i64) Tryz.underlying3 Z;exact⟨⟨Nm,ab7⟩,bA,cZ.app ah⟩
theorem ab8(fuel:Nat)(cs:List Value)(x:DataW H×List MemPlace)(h:DataW.trod enc Tryz.prog W 0 (λ_=>true) true fuel 52 cs=some x):∃p:bb,pc p∧eY W cs (dK p).cells:=by
 obtain⟨xs,n,hn,_,ab,fN,a7⟩:=DataW.trod_struct Tryz.underlying52 h;rw [Su]at ab;obtain⟨c0,c1,c2,rfl⟩:=Sr cs ab;obtain⟨fm,fF,hF,rfl⟩:=Sr xs fN;have h0:DataW.trod enc Tryz.prog W 0 (λ_=>true) true n 9 (List.take (Tryz.prog.cellsOf 9) [c0,c1,c2])=some fm:=a7 0 _ rfl
 have Z:DataW.trod enc Tryz.prog W 0 (λ_=>true) true n 49 (List.take (Tryz.prog.cellsOf 49) [c1,c2])=some fF:=a7 1 _ rfl
 have ad:DataW.trod enc Tryz.prog W 0 (λ_=>true) true n 50 (List.take (Tryz.prog.cellsOf 50) [c2])=some hF:=a7 2 _ rfl
 rw [mM]at h0;rw [ab4]at Z;rw [Sv]at ad;obtain⟨Nm,bA,cZ⟩:=mw Tryz.underlying9 h0;obtain⟨ab9,jQ,Jq,ah⟩:=jT (encA:=d_) (ok:=λp:Param=>p.Name.length≤9223372036854775807) Tryz.underlying49 St (by omega) Z (λm cs' fa hm hx=>ab6 m cs' fa hx)
 obtain⟨an,dg,Js,ak⟩:=jT (encA:=bI) (ok:=og) Tryz.underlying50 CB (by omega) ad (λm cs' fa hm hx=>ab5 m cs' fa hx)
 exact⟨⟨Nm,ab9,an⟩,⟨bA,jQ,Jq,CC an Js⟩,(cZ.app ah).app ak⟩
end
def sH{α:Type}(l:List α)(h:l.length=2):∃a0 aR,l=[a0,aR]:=by
 match l,h with
 |[a0,aR],_=>exact⟨a0,aR,rfl⟩
def nz{α:Type}(l:List α)(h:l.length=3):∃a0 aR a2,l=[a0,aR,a2]:=by
 match l,h with
 |[a0,aR,a2],_=>exact⟨a0,aR,a2,rfl⟩
def ab'{α:Type}(l:List α)(h:l.length=4):∃a0 aR a2 a3,l=[a0,aR,a2,a3]:=by
 match l,h with
 |[a0,aR,a2,a3],_=>exact⟨a0,aR,a2,a3,rfl⟩
def Jt{α:Type}(l:List α)(h:l.length=5):∃a0 aR a2 a3 a4,l=[a0,aR,a2,a3,a4]:=by
 match l,h with
 |[a0,aR,a2,a3,a4],_=>exact⟨a0,aR,a2,a3,a4,rfl⟩
def ab_{α:Type}(l:List α)(h:l.length=6):∃a0 aR a2 a3 a4 a5,l=[a0,aR,a2,a3,a4,a5]:=by
 match l,h with
 |[a0,aR,a2,a3,a4,a5],_=>exact⟨a0,aR,a2,a3,a4,a5,rfl⟩
def Sx{α:Type}(l:List α)(h:l.length=8):∃a0 aR a2 a3 a4 a5 nu sI,l=[a0,aR,a2,a3,a4,a5,nu,sI]:=by
 match l,h with
 |[a0,aR,a2,a3,a4,a5,nu,sI],_=>exact⟨a0,aR,a2,a3,a4,a5,nu,sI,rfl⟩
def aca{α:Type}(l:List α)(h:l.length=11):∃a0 aR a2 a3 a4 a5 nu sI Ju a9 Jv,l=[a0,aR,a2,a3,a4,a5,nu,sI,Ju,a9,Jv]:=by
 match l,h with
 |[a0,aR,a2,a3,a4,a5,nu,sI,Ju,a9,Jv],_=>exact⟨a0,aR,a2,a3,a4,a5,nu,sI,Ju,a9,Jv,rfl⟩
section
variable {H:Type} {enc:TypeId×Value→H} {W:World}
theorem Sy:Tryz.prog.cellsOf 4=1:=by kernel_rfl
theorem acb:Tryz.prog.cellsOf 22=1:=by kernel_rfl
theorem Sz:Tryz.prog.cellsOf 24=3:=by kernel_rfl
theorem acd:Tryz.prog.cellsOf 25=1:=by kernel_rfl
theorem ace:Tryz.prog.cellsOf 26=1:=by kernel_rfl
theorem acf:Tryz.prog.cellsOf 27=1:=by kernel_rfl
theorem SA:Tryz.prog.cellsOf 29=2:=by kernel_rfl
theorem acg:Tryz.prog.cellsOf 30=1:=by kernel_rfl
theorem ach:Tryz.prog.cellsOf 31=1:=by kernel_rfl
theorem aci:Tryz.prog.cellsOf 32=1:=by kernel_rfl
theorem acj:Tryz.prog.cellsOf 34=11:=by kernel_rfl
theorem SB:Tryz.prog.cellsOf 54=1:=by kernel_rfl
theorem SC:Tryz.prog.cellsOf 55=1:=by kernel_rfl
theorem SD:Tryz.prog.cellsOf 57=3:=by kernel_rfl
theorem SE:Tryz.prog.cellsOf 59=8:=by kernel_rfl
theorem SF:Tryz.prog.cellsOf 61=5:=by kernel_rfl
theorem CD:Tryz.prog.cellsOf 63=3:=by kernel_rfl
theorem SG:Tryz.prog.cellsOf 65=4:=by kernel_rfl
theorem ack:Tryz.prog.cellsOf 66=1:=by kernel_rfl
theorem SH:Tryz.prog.cellsOf 68=2:=by kernel_rfl
theorem acl:Tryz.prog.cellsOf 99=1:=by kernel_rfl
theorem SI:Tryz.prog.cellsOf 101=3:=by kernel_rfl
theorem SJ:Tryz.prog.cellsOf 103=3:=by kernel_rfl
theorem SK:Tryz.prog.cellsOf 105=5:=by kernel_rfl
theorem SL:Tryz.prog.cellsOf 107=2:=by kernel_rfl
structure sJ(x:bv):Prop where
 aet:e5 x.Kind
 SM:e5 x.N
 aeu:x.S.length≤9223372036854775807
theorem Jw(fuel:Nat)(cs:List Value)(x:DataW H×List MemPlace)(h:DataW.trod enc Tryz.prog W 0 (λ_=>true) true fuel 63 cs=some x):∃p:bv,sJ p∧eY W cs (dG p).cells:=by
 obtain⟨xs,n,hn,_,ab,fN,a7⟩:=DataW.trod_struct Tryz.underlying63 h;rw [CD]at ab;obtain⟨c0,c1,c2,rfl⟩:=nz cs ab;obtain⟨fm,fF,hF,rfl⟩:=nz xs fN;have h0:DataW.trod enc Tryz.prog W 0 (λ_=>true) true n 3 (List.take (Tryz.prog.cellsOf 3) [c0,c1,c2])=some fm:=a7 0 _ rfl
 rw [mL]at h0;obtain⟨v0,ez,cZ⟩:=g_ (k:=.i64) Tryz.underlying3 h0;have Z:DataW.trod enc Tryz.prog W 0 (λ_=>true) true n 2 (List.take (Tryz.prog.cellsOf 2) [c1,c2])=some fF:=a7 1 _ rfl
 rw [ny]at Z;obtain⟨v1,cq,ah⟩:=g_ (k:=.i64) Tryz.underlying2 Z;have ad:DataW.trod enc Tryz.prog W 0 (λ_=>true) true n 9 (List.take (Tryz.prog.cellsOf 9) [c2])=some hF:=a7 2 _ rfl
 rw [mM]at ad;obtain⟨v2,aq,ak⟩:=mw Tryz.underlying9 ad;exact⟨⟨v0,v1,v2⟩,⟨⟨ez.1,ez.2⟩,⟨cq.1,cq.2⟩,aq⟩,((cZ.app ah).app ak)⟩
structure Jx(x:Version):Prop where
 aev:e5 x.fB
 acm:sJ x.cj
theorem acn(fuel:Nat)(cs:List Value)(x:DataW H×List MemPlace)(h:DataW.trod enc Tryz.prog W 0 (λ_=>true) true fuel 65 cs=some x):∃p:Version,Jx p∧eY W cs (ia p).cells:=by
 obtain⟨xs,n,hn,_,ab,fN,a7⟩:=DataW.trod_struct Tryz.underlying65 h;rw [SG]at ab;obtain⟨c0,c1,c2,c3,rfl⟩:=ab' cs ab;obtain⟨fm,fF,rfl⟩:=sH xs fN;have h0:DataW.trod enc Tryz.prog W 0 (λ_=>true) true n 2 (List.take (Tryz.prog.cellsOf 2) [c0,c1,c2,c3])=some fm:=a7 0 _ rfl
 rw [ny]at h0;obtain⟨v0,ez,cZ⟩:=g_ (k:=.i64) Tryz.underlying2 h0;have Z:DataW.trod enc Tryz.prog W 0 (λ_=>true) true n 63 (List.take (Tryz.prog.cellsOf 63) [c1,c2,c3])=some fF:=a7 1 _ rfl
 rw [CD]at Z;obtain⟨v1,cq,ah⟩:=Jw n _ _ Z;exact⟨⟨v0,v1⟩,⟨⟨ez.1,ez.2⟩,cq⟩,(cZ.app ah)⟩
structure Jy(x:Row):Prop where
 aco:x.Key.length≤9223372036854775807
 acp:x.bx.length≤9223372036854775807∧∀i,i<x.bx.length→Jx (x.bx.getD i default)
theorem acq(fuel:Nat)(cs:List Value)(x:DataW H×List MemPlace)(h:DataW.trod enc Tryz.prog W 0 (λ_=>true) true fuel 68 cs=some x):∃p:Row,Jy p∧eY W cs (cM p).cells:=by
 obtain⟨xs,n,hn,_,ab,fN,a7⟩:=DataW.trod_struct Tryz.underlying68 h;rw [SH]at ab;obtain⟨c0,c1,rfl⟩:=sH cs ab;obtain⟨fm,fF,rfl⟩:=sH xs fN;have h0:DataW.trod enc Tryz.prog W 0 (λ_=>true) true n 9 (List.take (Tryz.prog.cellsOf 9) [c0,c1])=some fm:=a7 0 _ rfl
 rw [mM]at h0;obtain⟨v0,ez,cZ⟩:=mw Tryz.underlying9 h0;have Z:DataW.trod enc Tryz.prog W 0 (λ_=>true) true n 66 (List.take (Tryz.prog.cellsOf 66) [c1])=some fF:=a7 1 _ rfl
 rw [ack]at Z;obtain⟨v1,cq,g1,ah⟩:=jT (encA:=ia) (ok:=Jx) Tryz.underlying66 SG (by omega) Z (λm cs' fa hm hx=>acn m cs' fa hx)
 exact⟨⟨v0,v1⟩,⟨ez,⟨cq,g1⟩⟩,(cZ.app ah)⟩
structure Jz(x:aD):Prop where
 aew:e5 x.cy
 aex:e5 x.ct
 acr:x.Rows.length≤9223372036854775807∧∀i,i<x.Rows.length→Jy (x.Rows.getD i default)
theorem acs(fuel:Nat)(cs:List Value)(x:DataW H×List MemPlace)(h:DataW.trod enc Tryz.prog W 0 (λ_=>true) true fuel 24 cs=some x):∃p:aD,Jz p∧eY W cs (Ws p).cells:=by
 obtain⟨xs,n,hn,_,ab,fN,a7⟩:=DataW.trod_struct Tryz.underlying24 h;rw [Sz]at ab;obtain⟨c0,c1,c2,rfl⟩:=nz cs ab;obtain⟨fm,fF,hF,rfl⟩:=nz xs fN;have h0:DataW.trod enc Tryz.prog W 0 (λ_=>true) true n 2 (List.take (Tryz.prog.cellsOf 2) [c0,c1,c2])=some fm:=a7 0 _ rfl
 rw [ny]at h0;obtain⟨v0,ez,cZ⟩:=g_ (k:=.i64) Tryz.underlying2 h0;have Z:DataW.trod enc Tryz.prog W 0 (λ_=>true) true n 2 (List.take (Tryz.prog.cellsOf 2) [c1,c2])=some fF:=a7 1 _ rfl
 rw [ny]at Z;obtain⟨v1,cq,ah⟩:=g_ (k:=.i64) Tryz.underlying2 Z;have ad:DataW.trod enc Tryz.prog W 0 (λ_=>true) true n 22 (List.take (Tryz.prog.cellsOf 22) [c2])=some hF:=a7 2 _ rfl
 rw [acb]at ad;obtain⟨v2,aq,g2,ak⟩:=jT (encA:=cM) (ok:=Jy) Tryz.underlying22 SH (by omega) ad (λm cs' fa hm hx=>acq m cs' fa hx)
 exact⟨⟨v0,v1,v2⟩,⟨⟨ez.1,ez.2⟩,⟨cq.1,cq.2⟩,⟨aq,g2⟩⟩,((cZ.app ah).app ak)⟩
structure JA(x:Outcome):Prop where
 aey:e5 x.Status
 aez:e5 x.Code
 act:x.Out.length≤9223372036854775807∧∀i,i<x.Out.length→sJ (x.Out.getD i default)
theorem acu(fuel:Nat)(cs:List Value)(x:DataW H×List MemPlace)(h:DataW.trod enc Tryz.prog W 0 (λ_=>true) true fuel 103 cs=some x):∃p:Outcome,JA p∧eY W cs (Wu p).cells:=by
 obtain⟨xs,n,hn,_,ab,fN,a7⟩:=DataW.trod_struct Tryz.underlying103 h;rw [SJ]at ab;obtain⟨c0,c1,c2,rfl⟩:=nz cs ab;obtain⟨fm,fF,hF,rfl⟩:=nz xs fN;have h0:DataW.trod enc Tryz.prog W 0 (λ_=>true) true n 3 (List.take (Tryz.prog.cellsOf 3) [c0,c1,c2])=some fm:=a7 0 _ rfl
 rw [mL]at h0;obtain⟨v0,ez,cZ⟩:=g_ (k:=.i64) Tryz.underlying3 h0;have Z:DataW.trod enc Tryz.prog W 0 (λ_=>true) true n 3 (List.take (Tryz.prog.cellsOf 3) [c1,c2])=some fF:=a7 1 _ rfl
 rw [mL]at Z;obtain⟨v1,cq,ah⟩:=g_ (k:=.i64) Tryz.underlying3 Z;have ad:DataW.trod enc Tryz.prog W 0 (λ_=>true) true n 54 (List.take (Tryz.prog.cellsOf 54) [c2])=some hF:=a7 2 _ rfl
 rw [SB]at ad;obtain⟨v2,aq,g2,ak⟩:=jT (encA:=dG) (ok:=sJ) Tryz.underlying54 CD (by omega) ad (λm cs' fa hm hx=>Jw m cs' fa hx)
 exact⟨⟨v0,v1,v2⟩,⟨⟨ez.1,ez.2⟩,⟨cq.1,cq.2⟩,⟨aq,g2⟩⟩,((cZ.app ah).app ak)⟩
structure JB(x:ea):Prop where
 SN:e5 x.Client
 acv:e5 x.Seq
 acw:JA x.Outcome
theorem acx(fuel:Nat)(cs:List Value)(x:DataW H×List MemPlace)(h:DataW.trod enc Tryz.prog W 0 (λ_=>true) true fuel 105 cs=some x):∃p:ea,JB p∧eY W cs (hf p).cells:=by
 obtain⟨xs,n,hn,_,ab,fN,a7⟩:=DataW.trod_struct Tryz.underlying105 h;rw [SK]at ab;obtain⟨c0,c1,c2,c3,c4,rfl⟩:=Jt cs ab;obtain⟨fm,fF,hF,rfl⟩:=nz xs fN;have h0:DataW.trod enc Tryz.prog W 0 (λ_=>true) true n 3 (List.take (Tryz.prog.cellsOf 3) [c0,c1,c2,c3,c4])=some fm:=a7 0 _ rfl
 rw [mL]at h0;obtain⟨v0,ez,cZ⟩:=g_ (k:=.i64) Tryz.underlying3 h0;have Z:DataW.trod enc Tryz.prog W 0 (λ_=>true) true n 2 (List.take (Tryz.prog.cellsOf 2) [c1,c2,c3,c4])=some fF:=a7 1 _ rfl
 rw [ny]at Z;obtain⟨v1,cq,ah⟩:=g_ (k:=.i64) Tryz.underlying2 Z;have ad:DataW.trod enc Tryz.prog W 0 (λ_=>true) true n 103 (List.take (Tryz.prog.cellsOf 103) [c2,c3,c4])=some hF:=a7 2 _ rfl
 rw [SJ]at ad;obtain⟨v2,aq,ak⟩:=acu n _ _ ad;exact⟨⟨v0,v1,v2⟩,⟨⟨ez.1,ez.2⟩,⟨cq.1,cq.2⟩,aq⟩,((cZ.app ah).app ak)⟩
structure CE(x:bC):Prop where
 SN:e5 x.Client
 aeA:e5 x.Next
 acy:x.bV.length≤9223372036854775807∧∀i,i<x.bV.length→JB (x.bV.getD i default)
theorem acz(fuel:Nat)(cs:List Value)(x:DataW H×List MemPlace)(h:DataW.trod enc Tryz.prog W 0 (λ_=>true) true fuel 101 cs=some x):∃p:bC,CE p∧eY W cs (c8 p).cells:=by
 obtain⟨xs,n,hn,_,ab,fN,a7⟩:=DataW.trod_struct Tryz.underlying101 h;rw [SI]at ab;obtain⟨c0,c1,c2,rfl⟩:=nz cs ab;obtain⟨fm,fF,hF,rfl⟩:=nz xs fN;have h0:DataW.trod enc Tryz.prog W 0 (λ_=>true) true n 3 (List.take (Tryz.prog.cellsOf 3) [c0,c1,c2])=some fm:=a7 0 _ rfl
 rw [mL]at h0;obtain⟨v0,ez,cZ⟩:=g_ (k:=.i64) Tryz.underlying3 h0;have Z:DataW.trod enc Tryz.prog W 0 (λ_=>true) true n 2 (List.take (Tryz.prog.cellsOf 2) [c1,c2])=some fF:=a7 1 _ rfl
 rw [ny]at Z;obtain⟨v1,cq,ah⟩:=g_ (k:=.i64) Tryz.underlying2 Z;have ad:DataW.trod enc Tryz.prog W 0 (λ_=>true) true n 99 (List.take (Tryz.prog.cellsOf 99) [c2])=some hF:=a7 2 _ rfl
 rw [acl]at ad;obtain⟨v2,aq,g2,ak⟩:=jT (encA:=hf) (ok:=JB) Tryz.underlying99 SK (by omega) ad (λm cs' fa hm hx=>acx m cs' fa hx)
 exact⟨⟨v0,v1,v2⟩,⟨⟨ez.1,ez.2⟩,⟨cq.1,cq.2⟩,⟨aq,g2⟩⟩,((cZ.app ah).app ak)⟩
structure JC(x:Part):Prop where
 acA:e5 x.Id
 aeB:x.fp.length≤9223372036854775807
 acB:e5 x.Node
 acC:e5 x.hh
 aeC:x.hH.length≤9223372036854775807
theorem acD(fuel:Nat)(cs:List Value)(x:DataW H×List MemPlace)(h:DataW.trod enc Tryz.prog W 0 (λ_=>true) true fuel 61 cs=some x):∃p:Part,JC p∧eY W cs (cJ p).cells:=by
 obtain⟨xs,n,hn,_,ab,fN,a7⟩:=DataW.trod_struct Tryz.underlying61 h;rw [SF]at ab;obtain⟨c0,c1,c2,c3,c4,rfl⟩:=Jt cs ab;obtain⟨fm,fF,hF,pn,fe,rfl⟩:=Jt xs fN;have h0:DataW.trod enc Tryz.prog W 0 (λ_=>true) true n 3 (List.take (Tryz.prog.cellsOf 3) [c0,c1,c2,c3,c4])=some fm:=a7 0 _ rfl
 rw [mL]at h0;obtain⟨v0,ez,cZ⟩:=g_ (k:=.i64) Tryz.underlying3 h0;have Z:DataW.trod enc Tryz.prog W 0 (λ_=>true) true n 9 (List.take (Tryz.prog.cellsOf 9) [c1,c2,c3,c4])=some fF:=a7 1 _ rfl
 rw [mM]at Z;obtain⟨v1,cq,ah⟩:=mw Tryz.underlying9 Z;have ad:DataW.trod enc Tryz.prog W 0 (λ_=>true) true n 3 (List.take (Tryz.prog.cellsOf 3) [c2,c3,c4])=some hF:=a7 2 _ rfl
 rw [mL]at ad;obtain⟨v2,aq,ak⟩:=g_ (k:=.i64) Tryz.underlying3 ad;have al:DataW.trod enc Tryz.prog W 0 (λ_=>true) true n 3 (List.take (Tryz.prog.cellsOf 3) [c3,c4])=some pn:=a7 3 _ rfl
 rw [mL]at al;obtain⟨v3,dX,aE⟩:=g_ (k:=.i64) Tryz.underlying3 al;have aH:DataW.trod enc Tryz.prog W 0 (λ_=>true) true n 9 (List.take (Tryz.prog.cellsOf 9) [c4])=some fe:=a7 4 _ rfl
 rw [mM]at aH;obtain⟨v4,du,bn⟩:=mw Tryz.underlying9 aH;exact⟨⟨v0,v1,v2,v3,v4⟩,⟨⟨ez.1,ez.2⟩,cq,⟨aq.1,aq.2⟩,⟨dX.1,dX.2⟩,du⟩,((((cZ.app ah).app ak).app aE).app bn)⟩
structure JD(x:ck):Prop where
 acE:e5 x.Version
 acF:x.aX.length≤9223372036854775807∧∀i,i<x.aX.length→JC (x.aX.getD i default)
theorem acG(fuel:Nat)(cs:List Value)(x:DataW H×List MemPlace)(h:DataW.trod enc Tryz.prog W 0 (λ_=>true) true fuel 29 cs=some x):∃p:ck,JD p∧eY W cs (Wv p).cells:=by
 obtain⟨xs,n,hn,_,ab,fN,a7⟩:=DataW.trod_struct Tryz.underlying29 h;rw [SA]at ab;obtain⟨c0,c1,rfl⟩:=sH cs ab;obtain⟨fm,fF,rfl⟩:=sH xs fN;have h0:DataW.trod enc Tryz.prog W 0 (λ_=>true) true n 2 (List.take (Tryz.prog.cellsOf 2) [c0,c1])=some fm:=a7 0 _ rfl
 rw [ny]at h0;obtain⟨v0,ez,cZ⟩:=g_ (k:=.i64) Tryz.underlying2 h0;have Z:DataW.trod enc Tryz.prog W 0 (λ_=>true) true n 27 (List.take (Tryz.prog.cellsOf 27) [c1])=some fF:=a7 1 _ rfl
 rw [acf]at Z;obtain⟨v1,cq,g1,ah⟩:=jT (encA:=cJ) (ok:=JC) Tryz.underlying27 SF (by omega) Z (λm cs' fa hm hx=>acD m cs' fa hx)
 exact⟨⟨v0,v1⟩,⟨⟨ez.1,ez.2⟩,⟨cq,g1⟩⟩,(cZ.app ah)⟩
structure CF(x:be):Prop where
 aco:x.Key.length≤9223372036854775807
 acH:e5 x.Count
theorem acI(fuel:Nat)(cs:List Value)(x:DataW H×List MemPlace)(h:DataW.trod enc Tryz.prog W 0 (λ_=>true) true fuel 107 cs=some x):∃p:be,CF p∧eY W cs (dx p).cells:=by
 obtain⟨xs,n,hn,_,ab,fN,a7⟩:=DataW.trod_struct Tryz.underlying107 h;rw [SL]at ab;obtain⟨c0,c1,rfl⟩:=sH cs ab;obtain⟨fm,fF,rfl⟩:=sH xs fN;have h0:DataW.trod enc Tryz.prog W 0 (λ_=>true) true n 9 (List.take (Tryz.prog.cellsOf 9) [c0,c1])=some fm:=a7 0 _ rfl
 rw [mM]at h0;obtain⟨v0,ez,cZ⟩:=mw Tryz.underlying9 h0;have Z:DataW.trod enc Tryz.prog W 0 (λ_=>true) true n 2 (List.take (Tryz.prog.cellsOf 2) [c1])=some fF:=a7 1 _ rfl
 rw [ny]at Z;obtain⟨v1,cq,ah⟩:=g_ (k:=.i64) Tryz.underlying2 Z;exact⟨⟨v0,v1⟩,⟨ez,⟨cq.1,cq.2⟩⟩,(cZ.app ah)⟩
structure SO(x:eK):Prop where
 aeD:True
 aeE:x.Reads.length≤9223372036854775807∧∀i,i<x.Reads.length→(x.Reads.getD i default).length≤9223372036854775807
 aeF:x.cz.length≤9223372036854775807∧∀i,i<x.cz.length→(x.cz.getD i default).length≤9223372036854775807
theorem acJ(fuel:Nat)(cs:List Value)(x:DataW H×List MemPlace)(h:DataW.trod enc Tryz.prog W 0 (λ_=>true) true fuel 57 cs=some x):∃p:eK,SO p∧eY W cs (Ww p).cells:=by
 obtain⟨xs,n,hn,_,ab,fN,a7⟩:=DataW.trod_struct Tryz.underlying57 h;rw [SD]at ab;obtain⟨c0,c1,c2,rfl⟩:=nz cs ab;obtain⟨fm,fF,hF,rfl⟩:=nz xs fN;have h0:DataW.trod enc Tryz.prog W 0 (λ_=>true) true n 4 (List.take (Tryz.prog.cellsOf 4) [c0,c1,c2])=some fm:=a7 0 _ rfl
 rw [Sy]at h0;obtain⟨v0,cZ⟩:=L8 Tryz.underlying4 h0;have Z:DataW.trod enc Tryz.prog W 0 (λ_=>true) true n 55 (List.take (Tryz.prog.cellsOf 55) [c1,c2])=some fF:=a7 1 _ rfl
 rw [SC]at Z;obtain⟨v1,cq,g1,ah⟩:=jT (encA:=bp) (ok:=λs:ae7=>s.length≤9223372036854775807) Tryz.underlying55 mM (by omega) Z (λm cs' fa hm hx=>mw Tryz.underlying9 hx)
 have ad:DataW.trod enc Tryz.prog W 0 (λ_=>true) true n 55 (List.take (Tryz.prog.cellsOf 55) [c2])=some hF:=a7 2 _ rfl
 rw [SC]at ad;obtain⟨v2,aq,g2,ak⟩:=jT (encA:=bp) (ok:=λs:ae7=>s.length≤9223372036854775807) Tryz.underlying55 mM (by omega) ad (λm cs' fa hm hx=>mw Tryz.underlying9 hx)
 exact⟨⟨v0,v1,v2⟩,⟨trivial,⟨cq,g1⟩,⟨aq,g2⟩⟩,((cZ.app ah).app ak)⟩
structure CG(x:Request):Prop where
 SN:e5 x.Client
 acv:e5 x.Seq
 aeG:x.bb.length≤9223372036854775807
 fArgs:x.aw.length≤9223372036854775807∧∀i,i<x.aw.length→sJ (x.aw.getD i default)
 aeH:True
 aeI:SO x.br
theorem acK(fuel:Nat)(cs:List Value)(x:DataW H×List MemPlace)(h:DataW.trod enc Tryz.prog W 0 (λ_=>true) true fuel 59 cs=some x):∃p:Request,CG p∧eY W cs (eb p).cells:=by
 obtain⟨xs,n,hn,_,ab,fN,a7⟩:=DataW.trod_struct Tryz.underlying59 h;rw [SE]at ab;obtain⟨c0,c1,c2,c3,c4,c5,jI,jh,rfl⟩:=Sx cs ab;obtain⟨fm,fF,hF,pn,fe,l7,rfl⟩:=ab_ xs fN;have h0:DataW.trod enc Tryz.prog W 0 (λ_=>true) true n 3 (List.take (Tryz.prog.cellsOf 3) [c0,c1,c2,c3,c4,c5,jI,jh])=some fm:=a7 0 _ rfl
 rw [mL]at h0;obtain⟨v0,ez,cZ⟩:=g_ (k:=.i64) Tryz.underlying3 h0;have Z:DataW.trod enc Tryz.prog W 0 (λ_=>true) true n 2 (List.take (Tryz.prog.cellsOf 2) [c1,c2,c3,c4,c5,jI,jh])=some fF:=a7 1 _ rfl
 rw [ny]at Z;obtain⟨v1,cq,ah⟩:=g_ (k:=.i64) Tryz.underlying2 Z;have ad:DataW.trod enc Tryz.prog W 0 (λ_=>true) true n 9 (List.take (Tryz.prog.cellsOf 9) [c2,c3,c4,c5,jI,jh])=some hF:=a7 2 _ rfl
 rw [mM]at ad;obtain⟨v2,aq,ak⟩:=mw Tryz.underlying9 ad;have al:DataW.trod enc Tryz.prog W 0 (λ_=>true) true n 54 (List.take (Tryz.prog.cellsOf 54) [c3,c4,c5,jI,jh])=some pn:=a7 3 _ rfl
 rw [SB]at al;obtain⟨v3,dX,g3,aE⟩:=jT (encA:=dG) (ok:=sJ) Tryz.underlying54 CD (by omega) al (λm cs' fa hm hx=>Jw m cs' fa hx)
 have aH:DataW.trod enc Tryz.prog W 0 (λ_=>true) true n 4 (List.take (Tryz.prog.cellsOf 4) [c4,c5,jI,jh])=some fe:=a7 4 _ rfl
 rw [Sy]at aH;obtain⟨v4,bn⟩:=L8 Tryz.underlying4 aH;have a6:DataW.trod enc Tryz.prog W 0 (λ_=>true) true n 57 (List.take (Tryz.prog.cellsOf 57) [c5,jI,jh])=some l7:=a7 5 _ rfl
 rw [SD]at a6;obtain⟨v5,JE,cF⟩:=acJ n _ _ a6;exact⟨⟨v0,v1,v2,v3,v4,v5⟩,⟨⟨ez.1,ez.2⟩,⟨cq.1,cq.2⟩,aq,⟨dX,g3⟩,trivial,JE⟩,(((((cZ.app ah).app ak).app aE).app bn).app cF)⟩
structure ow(x:b_):Prop where
 acL:e5 x.Pos
 acM:Jz x.aD
 JF:x.cp.length≤9223372036854775807∧∀i,i<x.cp.length→pc (x.cp.getD i default)
 acN:x.cU.length≤9223372036854775807∧∀i,i<x.cU.length→CE (x.cU.getD i default)
 SP:JD x.Place
 acO:x.be.length≤9223372036854775807∧∀i,i<x.be.length→CF (x.be.getD i default)
 acP:x.Queue.length≤9223372036854775807∧∀i,i<x.Queue.length→CG (x.Queue.getD i default)
 acQ:jY x.dh
theorem SQ(fuel:Nat)(cs:List Value)(x:DataW H×List MemPlace)(h:DataW.trod enc Tryz.prog W 0 (λ_=>true) true fuel 34 cs=some x):∃p:b_,ow p∧eY W cs (EO p).cells:=by
 obtain⟨xs,n,hn,_,ab,fN,a7⟩:=DataW.trod_struct Tryz.underlying34 h;rw [acj]at ab;obtain⟨c0,c1,c2,c3,c4,c5,jI,jh,mN,c9,lK,rfl⟩:=aca cs ab;obtain⟨fm,fF,hF,pn,fe,l7,ni,xd,rfl⟩:=Sx xs fN;have h0:DataW.trod enc Tryz.prog W 0 (λ_=>true) true n 2 (List.take (Tryz.prog.cellsOf 2) [c0,c1,c2,c3,c4,c5,jI,jh,mN,c9,lK])=some fm:=a7 0 _ rfl
 rw [ny]at h0;obtain⟨v0,ez,cZ⟩:=g_ (k:=.i64) Tryz.underlying2 h0;have Z:DataW.trod enc Tryz.prog W 0 (λ_=>true) true n 24 (List.take (Tryz.prog.cellsOf 24) [c1,c2,c3,c4,c5,jI,jh,mN,c9,lK])=some fF:=a7 1 _ rfl
 rw [Sz]at Z;obtain⟨v1,cq,ah⟩:=acs n _ _ Z;have ad:DataW.trod enc Tryz.prog W 0 (λ_=>true) true n 25 (List.take (Tryz.prog.cellsOf 25) [c4,c5,jI,jh,mN,c9,lK])=some hF:=a7 2 _ rfl
 rw [acd]at ad;obtain⟨v2,aq,g2,ak⟩:=jT (encA:=dK) (ok:=pc) Tryz.underlying25 Su (by omega) ad (λm cs' fa hm hx=>ab8 m cs' fa hx)
 have al:DataW.trod enc Tryz.prog W 0 (λ_=>true) true n 26 (List.take (Tryz.prog.cellsOf 26) [c5,jI,jh,mN,c9,lK])=some pn:=a7 3 _ rfl
 rw [ace]at al;obtain⟨v3,dX,g3,aE⟩:=jT (encA:=c8) (ok:=CE) Tryz.underlying26 SI (by omega) al (λm cs' fa hm hx=>acz m cs' fa hx)
 have aH:DataW.trod enc Tryz.prog W 0 (λ_=>true) true n 29 (List.take (Tryz.prog.cellsOf 29) [jI,jh,mN,c9,lK])=some fe:=a7 4 _ rfl
 rw [SA]at aH;obtain⟨v4,du,bn⟩:=acG n _ _ aH;have a6:DataW.trod enc Tryz.prog W 0 (λ_=>true) true n 30 (List.take (Tryz.prog.cellsOf 30) [mN,c9,lK])=some l7:=a7 5 _ rfl
 rw [acg]at a6;obtain⟨v5,JE,g5,cF⟩:=jT (encA:=dx) (ok:=CF) Tryz.underlying30 SL (by omega) a6 (λm cs' fa hm hx=>acI m cs' fa hx)
 have bT:DataW.trod enc Tryz.prog W 0 (λ_=>true) true n 31 (List.take (Tryz.prog.cellsOf 31) [c9,lK])=some ni:=a7 6 _ rfl
 rw [ach]at bT;obtain⟨v6,n6,g6,bQ⟩:=jT (encA:=eb) (ok:=CG) Tryz.underlying31 SE (by omega) bT (λm cs' fa hm hx=>acK m cs' fa hx)
 have cI:DataW.trod enc Tryz.prog W 0 (λ_=>true) true n 32 (List.take (Tryz.prog.cellsOf 32) [lK])=some xd:=a7 7 _ rfl
 rw [aci]at cI;obtain⟨bz,SR,cE⟩:=g_ (k:=.u64) Tryz.underlying32 cI;exact⟨⟨v0,v1,v2,v3,v4,v5,v6,bz⟩,⟨⟨ez.1,ez.2⟩,cq,⟨aq,g2⟩,⟨dX,g3⟩,du,⟨JE,g5⟩,⟨n6,g6⟩,⟨SR.1,Int.lt_of_le_of_lt SR.2 (by decide)⟩⟩,(((((((cZ.app ah).app ak).app aE).app bn).app cF).app bQ).app cE)⟩
end
def md{α:Type}[Inhabited α]{P:α→Prop}{l:List α}(h:∀i,i<l.length→P (l.getD i default))(h0:P default)(i:Nat):P (l.getD i default):=by
 by_cases hi:i<l.length
 ·exact h i hi
 ·rw [List.getD_eq_getElem?_getD,List.getElem?_eq_none (by omega)];exact h0
def ox{α:Type}[Inhabited α]{P:α→Prop}{l:List α}(h:∀i,i<l.length→P (l.getD i default))(x:α)(hx:x∈l):P x:=by
 obtain⟨i,hi,e⟩:=Jn hx;rw [←e];exact h i hi
def u0.bU{r:b_}(h:u0 r)(hi:ow r){n:Nat}(hn:3000000≤n):Jd n r where
 st:=⟨by have:=h.Jl;omega,λi=>md (P:=I7 n) (λk hk=>by
  have Z:=h.rs k hk;unfold sG at Z;simp only [Bool.and_eq_true,decide_eq_true_eq,iT]at Z;obtain⟨⟨ad,al⟩,aH⟩:=Z;exact⟨by omega,by omega,λj=>md (P:=λx:Version=>x.cj.S.length≤1000) (λm hm=>by have:=aH m hm;omega) (by show([]:ae7).length≤1000;simp) j⟩) ((R_ (n:=n) (by omega)).st.row 0) i⟩
 Je:=by have:=h.pl;omega
 sF:=λi=>md (P:=oo) (λk hk=>by
  obtain⟨Z,ad,al,aH⟩:=h.b9 k hk;have a6:=Cd (r.cp.getD k default).Body;exact⟨hi.JF.2 k hk,by omega,by omega,by omega⟩) R7 i
 Cu:=by have:=h.je;omega
 qz:=λi=>md (P:=sD n) (λk hk=>by
  obtain⟨Z,ad⟩:=h.l2 k hk
  exact⟨by omega,λj=>md (P:=λx:ea=>yd n x.Outcome) (λm hm=>by
   obtain⟨al,aH⟩:=ad m hm;exact⟨by omega,λq=>md (P:=λx:bv=>x.S.length≤1000) (λm hm=>by have:=aH m hm;omega) (by show([]:ae7).length≤1000;simp) q⟩) ((I_ (n:=n) (by omega) (l:=[]) (λx hx=>by cases hx) 0).out 0) j⟩) (I_ (n:=n) (by omega) (l:=[]) (λx hx=>by cases hx) 0) i
 pl:=by have:=h.Cx.pl;omega
 Cv:=λi=>md (P:=sC) (λk hk=>by obtain⟨a,b⟩:=h.Cx.b9 k hk;exact⟨by omega,by omega⟩) ((R_ (n:=n) (by omega)).Cv 0) i
 bH:=by have:=h.Cx.ab;omega
 jo:=λi=>md (P:=λx:be=>x.Key.length≤1000) (λk hk=>by have:=h.Cx.hs k hk;omega) (by show([]:ae7).length≤1000;simp) i
 qA:=by have:=h.Sh;omega
 Cw:=λi=>md (P:=uQ n) (λk hk=>by
  obtain⟨Z,ad,al,f1,f2,f3,f4⟩:=h.abU k hk
  exact⟨by omega,by omega,λj=>md (P:=λx:bv=>x.S.length≤1000) (λm hm=>by have:=al m hm;omega) (by show([]:ae7).length≤1000;simp) j,by omega,by omega,
   λj=>md (P:=λx:ae7=>x.length≤1000) (λm hm=>by have:=f3 m hm;omega) (by show([]:ae7).length≤1000;simp) j,
   λj=>md (P:=λx:ae7=>x.length≤1000) (λm hm=>by have:=f4 m hm;omega) (by show([]:ae7).length≤1000;simp) j⟩) (R' (by omega)) i
def JG{k:ae7}(h:mI k=true):k.length≤24:=by
 unfold mI at h;simp only [Bool.and_eq_true,decide_eq_true_eq]at h;exact h.1.2
def SS{k:ae7}(h:pi k=true):k.length≤24:=by
 unfold pi at h;simp only [Bool.and_eq_true,decide_eq_true_eq]at h;exact h.2
def ST{l:List bv}(h:qs l=true)(hi:∀i,i<l.length→sJ (l.getD i default)):∀v∈l,sx v:=by
 unfold qs at h;rw [iT]at h;refine ox λi ab=>?_
 have Z:=h i ab;rw [Bool.and_eq_true]at Z;exact⟨Z.1,(hi i ab).SM⟩
def acR{o:Outcome}(h:uT o=true)(hi:JA o):ol o:=by
 unfold uT at h;by_cases hs:o.Status=1
 ·simp only [hs,aeQ,aeS,Bool.and_eq_true,decide_eq_true_eq]at h;obtain⟨⟨Z,ad⟩,al⟩:=h;exact⟨by omega,by omega,ad,ST al hi.act.2⟩
 ·simp only [hs,aeR,aeT,Bool.and_eq_true,decide_eq_true_eq]at h;obtain⟨⟨⟨Z,ad⟩,al⟩,aH⟩:=h;have a6:o.Out=[]:=List.length_eq_zero_iff.1 aH;exact⟨by omega,by omega,by rw [a6];simp,by rw [a6];exact λv ar=>by cases ar⟩
def acS{s:bC}(h:yf s=true)(hi:CE s):sE s:=by
 unfold yf at h;simp only [Bool.and_eq_true,Bool.not_eq_true',decide_eq_true_eq,iT]at h;obtain⟨⟨Z,ad⟩,al⟩:=h;obtain⟨aR,a2,a3,a4⟩:=RZ Z;have hk:=Cp ⟨a3,a4⟩
 have aH:∀i,i<s.bV.length→((s.bV.getD i default).Client=s.Client∧(s.bV.getD i default).Seq=s.Next-(s.bV.length:Int)+(i:Int))∧uT (s.bV.getD i default).Outcome=true:=λi ab=>by
  have:=al i ab
  unfold Co at this;simp only [Bool.and_eq_true,decide_eq_true_eq]at this;exact this
 refine⟨⟨aR,a2⟩,⟨a3,a4⟩,?_,by rw [List.length_map];omega,?_⟩
 ·refine List.ext_getElem (by simp [I']) λi g1 g2=>?_
  have a6:=aH i g1;rw [List.getD_eq_getElem?_getD,List.getElem?_eq_getElem g1,Option.getD_some]at a6;simp only [I',List.getElem_map,List.getElem_zipIdx,Nat.zero_add];rw [wr (x:=lG s.Next-(i:Int)) (by omega) (by omega),wr (x:=s.Next-(lG s.Next-(i:Int))) (by omega) (by omega)]
  generalize s.bV[i]=x at a6
  obtain⟨c,q,o⟩:=x;obtain⟨⟨e1,e2⟩,_⟩:=a6;simp only at e1 e2
  subst e1;rw [e2,ad,show s.Next-lG s.Next+(i:Int)=s.Next-(lG s.Next-(i:Int))by omega]
 ·intro o am;obtain⟨x,hx,rfl⟩:=List.mem_map.1 am;exact ox (P:=λx:ea=>ol x.Outcome) (λi ab=>acR (aH i ab).2 (hi.acy.2 i ab).acw) x hx
def acT{p:ck}(h:pj p=true)(hi:JD p):p.aX.length≤16∧∀x∈p.aX,uW x:=by
 unfold pj at h;simp only [Bool.and_eq_true,Bool.not_eq_true',Bool.or_eq_false_iff,decide_eq_false_iff_not,Bool.not_eq_false',decide_eq_true_eq,iT]at h;obtain⟨⟨⟨⟨⟨Z,ad⟩,al⟩,aH⟩,a6⟩,bT⟩:=h;refine⟨by omega,ox λi ab=>?_⟩
 have cI:=bT i ab;have hx:=hi.acF.2 i ab;unfold yc uS at cI;simp only [Bool.and_eq_true]at cI;obtain⟨dO,⟨_,gX⟩,_⟩:=cI;refine⟨hx.acA,?_,hx.acB,hx.acC,?_⟩
 ·cases i with
  |zero=>rw [a6];simp
  |succ i=>
   rw [show decide (0<((i+1:Nat):Int))=true from decide_eq_true (by omega),aeU,Bool.false_or,Bool.and_eq_true]at dO
   exact SS dO.1
 ·by_cases hd:(p.aX.getD i default).hh=0
  ·simp only [hd,aeQ,aeS,decide_eq_true_eq]at gX;rw [gX];simp
  ·simp only [hd,aeR,aeT,Bool.and_eq_true]at gX;exact SS gX.1.1.2
def acU{l:List be}(h:sz l=true)(hi:∀i,i<l.length→CF (l.getD i default)):l.length≤32∧∀x∈l,x.Key.length≤24∧e5 x.Count:=by
 unfold sz at h;simp only [Bool.and_eq_true,decide_eq_true_eq,iT]at h;obtain⟨Z,ad⟩:=h;exact⟨by omega,ox (P:=λx:be=>x.Key.length≤24∧e5 x.Count) λi ab=>⟨JG (Z i ab).1.1.1,(hi i ab).acH⟩⟩
def SU{l:qx}(h:sA l=true):∀v∈l,v.length≤24:=by
 unfold sA at h;rw [iT]at h
 exact ox (P:=λv:ae7=>v.length≤24) λi ab=>by
  have:=h i ab
  rw [Bool.and_eq_true]at this;exact JG this.1
def acV{s:ae7}(h:gy s=true):s.length≤16:=by obtain⟨_,_,_,_,_,_,h⟩:=QZ h;exact h
def acW{
 r:Request} (h:sB r=0) (hi:CG r):qy r∧Cr r=true:=by
 have h0:=h;unfold sB at h;cases Z:((decide (r.Client<1)||decide (32<r.Client))||decide (r.Seq<1))||decide (1099511627776<r.Seq)
 ·cases ad:gy r.bb
  ·rw [Z,ad]at h;simp at h
  ·cases al:decide (6<r.aw.length)
   ·cases aH:qs r.aw
    ·rw [Z,ad,al,aH]at h;simp at h
    ·cases a6:((!uP r.br||r.br.ee)||(!r.eA&&decide (0<r.br.Reads.length+r.br.cz.length)))
     ·simp only [Bool.or_eq_false_iff,decide_eq_false_iff_not]at Z al a6;obtain⟨⟨⟨cH,iD⟩,IU⟩,acX⟩:=Z;obtain⟨⟨c1,c2⟩,c3⟩:=a6;rw [Bool.not_eq_false']at c1;unfold uP at c1;rw [c2,aeT]at c1;simp only [Bool.and_eq_true,decide_eq_true_eq]at c1;obtain⟨⟨d1,d2⟩,d3,d4⟩:=c1;refine⟨⟨⟨by omega,by omega⟩,⟨by omega,by omega⟩,acV ad,⟨by omega,ST aH hi.fArgs.2⟩,?_,c2⟩,?_⟩
      ·unfold Cq;cases hd:r.eA
       ·rw [hd]at c3;simp only [aeV,Bool.true_and,decide_eq_false_iff_not]at c3;rw [if_neg (by simp)]
        rw [List.length_eq_zero_iff.1 (show r.br.Reads.length=0 by omega),List.length_eq_zero_iff.1 (show r.br.cz.length=0 by omega)]
       ·rw [if_pos rfl];exact⟨⟨d2,SU d1⟩,d4,SU d3⟩
      ·unfold Cr;rw [h0,decide_eq_true (show r.Client≤32 by omega),decide_eq_true (show r.Seq≤1099511627776 by omega)];rfl
     ·rw [Z,ad,al,aH,a6]at h;simp at h
   ·rw [Z,ad,al]at h;simp at h
 ·rw [Z]at h;simp at h
def acY{s:aD}(hs:mK s=true)(hi:Jz s)(hb:∀i,i<s.Rows.length→(s.Rows.getD i default).bx.length≤1000000000):∀p∈gl s.Rows,I9 p:=by
 intro p hp;obtain⟨r,ai,e,_⟩:=Cy _ _ hp;obtain⟨j,hj,rfl⟩:=Jn ai;obtain⟨a,b⟩:=Sn hs hb j hj;rw [e];refine⟨JG a,b,?_⟩
 have Z:=(hi.acr.2 j hj).acp.2;exact md (P:=λv:Version=>e5 v.cj.N) (λk hk=>(Z k hk).acm.SM) (by show e5 (0:Int);exact⟨by omega,by omega⟩) _
def acZ{r:b_}(hs:jZ r=true)(hi:ow r)(rj:r.aD.Rows.length≤1000000)(hb:∀i,i<r.aD.Rows.length→(r.aD.Rows.getD i default).bx.length≤1000000000)(yk:r.cU.length≤32):uX (mc r (gl r.aD.Rows)):=by
 unfold jZ at hs;simp only [Bool.and_eq_true,decide_eq_true_eq]at hs;obtain⟨⟨⟨⟨⟨⟨⟨⟨Z,ad⟩,al⟩,aH⟩,a6⟩,bT⟩,cI⟩,dO⟩,gX⟩:=hs;have m1:=CA r.aD.Rows;refine⟨hi.acL,⟨⟨by show(gl r.aD.Rows).length≤_;omega,acY al hi.acM hb⟩,abY al rj hb⟩,?_,⟨⟨yk,?_⟩,bT⟩,⟨⟨hi.SP.acE,acT cI hi.SP⟩,cI⟩,acU dO hi.acO.2,?_,hi.acQ⟩
 ·unfold yh at a6;simp only [Bool.and_eq_true,decide_eq_true_eq,iT]at a6;obtain⟨jS,ac0⟩:=a6;refine⟨by show(r.cp.map k1).length≤16;rw [List.length_map];exact ac0,λs hs=>?_⟩
  obtain⟨p,hp,rfl⟩:=List.mem_map.1 (show s∈r.cp.map k1 from hs)
  refine ox (P:=λp:bb=>(k1 p).length≤16384) (λi ab=>?_) p hp
  have:=(jS i ab).1
  simp only [Bool.not_eq_true',Bool.or_eq_false_iff,decide_eq_false_iff_not]at this;omega
 ·have jS:=bT;unfold qt at jS;simp only [Bool.and_eq_true,iT]at jS;exact ox (P:=sE) λi ab=>acS (jS i ab).1 (hi.acN.2 i ab)
 ·have jS:=gX;unfold Ct at jS;simp only [Bool.and_eq_true,decide_eq_true_eq,iT]at jS;exact⟨jS.2,ox (P:=λq:Request=>qy q∧Cr q=true) λi ab=>acW (jS.1 i ab) (hi.acP.2 i ab)⟩
def JH{α:Type}{E:α→ae7}{k:Nat}:∀{l:List α},(∀v∈l,(E v).length≤k)→(gR E l).length≤k*l.length
 |[],_=>by simp [gR]
 |v::l,h=>by
  have Z:=h v (by simp)
  have ad:=JH (E:=E) (l:=l) λw hw=>h w (by simp [hw])
  rw [uO,ae0,aeW,Nat.mul_add,Nat.mul_one];omega
def oy{α:Type}{E:α→ae7}{k:Nat}(m:Nat){l:List α}(ab:l.length≤m)(hm:m<18446744073709551616)(hk:∀v∈l,(E v).length≤k):(ef E l).length≤10+k*m:=by
 have Z:=JH hk;have ad:=kY (u:=l.length) (by omega)
 have al:=Nat.mul_le_mul_left k ab;unfold ef;rw [ae0];omega
def JI{v:bv}(h:sx v):(cu v).length≤84:=by
 have Z:=qv h;have ad:=RF h.2 (by omega)
 omega
def qB{s:ae7}{k:Nat}(h:s.length≤k)(hk:k≤1000000):(ht s).length≤k+10:=by
 have:=Cj (s:=s) (by omega)
 omega
def ac1{o:Outcome}(h:ol o):(qw o).length≤1374:=by
 obtain⟨Z,ad⟩:=Sb h;have aR:=lJ Z;have a2:=lJ ad;have a3:=oy (E:=cu) (k:=84) 16 h.2.2.1 (by omega) λv ar=>JI (h.2.2.2 v ar)
 unfold qw;simp only [ae0];omega
def ac2{s:bC}(h:sE s):(lI s).length≤11012:=by
 obtain⟨Z,ad,al,aH,a6⟩:=h;have aR:=lJ (z:=s.Client) ⟨by omega,by omega⟩
 have a2:=lJ (z:=s.Next) ⟨by omega,by omega⟩
 have a3:=JH (E:=qw) (k:=1374) λo am=>ac1 (a6 o am)
 have a4:=Cp ad;unfold lI;simp only [ae0];omega
def ac3{x:Part}(h:uW x):(uV x).length≤98:=by
 obtain⟨Z,ad,al,aH,a6⟩:=h;have aR:=oj Z;have a2:=oj al;have a3:=oj aH;have a4:=qB ad (by omega)
 have a5:=qB a6 (by omega)
 unfold uV;simp only [ae0];omega
def ac4{r:Request}(h:qy r):(jG r).length≤5000:=by
 obtain⟨Z,ad,al,aH,a6,bT⟩:=h;have aR:=lJ Z;have a2:=lJ ad;have a3:=qB al (by omega)
 have a4:=oy (E:=cu) (k:=84) 6 aH.1 (by omega) λv ar=>JI (aH.2 v ar)
 have a5:=Ji r.eA
 have nu:(pk r.eA (r.br.Reads,r.br.cz)).length≤4372:=by
  unfold pk Cq at *;cases hd:r.eA
  ·simp
  ·rw [hd]at a6;obtain⟨⟨c1,c2⟩,c3,c4⟩:=a6;have d1:=oy (E:=ht) (k:=34) 64 c1 (by omega) λv ar=>qB (c2 v ar) (by omega)
   have d2:=oy (E:=ht) (k:=34) 64 c3 (by omega) λv ar=>qB (c4 v ar) (by omega)
   simp only [ae5,ae0];simp only at d1 d2
   omega
 unfold jG;simp only [ae0];omega
def ac5{r:b_}{A:List bS}(hp:uX (mc r A))(ei:A.length≤100)(yk:r.cU.length≤10)(dq:r.Queue.length≤64):(jg (mc r A)).length≤800000:=by
 have cH:(mH r.Pos).length≤10:=oj hp.pos
 have iD:=oy (E:=lH) (k:=118) 100 ei (by omega) λp h=>by
  obtain⟨c1,c2⟩:=hp.sF.1.2 p h;have d1:=qB c1 (by omega)
  have d2:=JI c2;unfold lH;rw [ae0];omega
 have IU:=oy (E:=ht) (k:=16394) 16 hp.src.1 (by omega) λs h=>qB (hp.src.2 s h) (by omega)
 have acX:=oy (E:=lI) (k:=11012) 10 yk (by omega) λs h=>ac2 (hp.qz.1.2 s h)
 have aeJ:=oy (E:=uV) (k:=98) 16 hp.uY.1.2.1 (by omega) λs h=>ac3 (hp.uY.1.2.2 s h)
 have aeK:=oy (E:=om) (k:=44) 32 hp.bH.1 (by omega) λx h=>by
  obtain⟨c1,c2⟩:=hp.bH.2 x h;have d1:=qB c1 (by omega)
  have d2:=oj c2;unfold om;rw [ae0];omega
 have aeL:=oy (E:=jG) (k:=5000) 64 dq (by omega) λq h=>ac4 (hp.qA.2 q h).1
 have aeM:=lJ hp.R9;have aeN:=oj hp.uY.1.1;unfold jg nw;simp only [ae0];simp only [mc]at *;omega
abbrev oz(r:b_):yi:=mc r (gl r.aD.Rows)
section
variable {n:Nat} (hn:3000000≤n) (bA:n≤1000000000) {r:b_} (a7:u0 r) (hi:ow r)
include hn bA a7 hi
theorem ac6(hs:jZ r=true):uX (oz r)∧(jg (oz r)).length≤800000:=by
 have hsh:=a7.bU hi hn;have ac7:=a7.Jl;have hp:=acZ hs hi (by omega) (λi ab=>by have:=(hsh.st.row i).I8;omega) (by have:=a7.je;omega)
 exact⟨hp,ac5 hp (by have:=CA r.aD.Rows;omega) (by have:=a7.je;omega) (by have:=a7.Sh;omega)⟩
theorem ac8(hs:jZ r=true):(∀i,i<r.aD.Rows.length→yj n r.Pos (r.aD.Rows.getD i default))∧r.aD.cy≤r.Pos∧r.Pos≤r.aD.ct:=by
 have hsh:=a7.bU hi hn;unfold jZ at hs;simp only [Bool.and_eq_true,decide_eq_true_eq]at hs;obtain⟨⟨⟨⟨⟨⟨⟨⟨Z,ad⟩,al⟩,aH⟩,a6⟩,bT⟩,cI⟩,dO⟩,gX⟩:=hs;have CH:=Sj (n:=n) al (λi ab=>by have:=(hsh.st.row i).I8;exact⟨this,by omega⟩)
 rw [aH]at CH;refine⟨CH,?_⟩
 unfold mK at al;simp only [Bool.and_eq_true,Bool.not_eq_true',Bool.or_eq_false_iff,decide_eq_false_iff_not]at al;obtain⟨⟨⟨aR,a2⟩,a3⟩,_⟩:=al;omega
theorem JJ(hs:jZ r=true):rS n r=some (jg (oz r)):=by
 have hsh:=a7.bU hi hn;have ac7:=a7.Jl;have m1:=a7.pl;obtain⟨hp,ab⟩:=ac6 hn bA a7 hi hs;obtain⟨CH,ac9,ac'⟩:=ac8 hn bA a7 hi hs;have wd:=hs;unfold jZ Ct at wd;simp only [Bool.and_eq_true,decide_eq_true_eq,iT]at wd;obtain⟨⟨⟨⟨⟨⟨⟨⟨Z,ad⟩,al⟩,aH⟩,a6⟩,bT⟩,cI⟩,dO⟩,gX,jS⟩:=wd
 exact abG hn bA hp ab (ox λi _=>hsh.sF i) (by omega) (abX (by omega) (by omega) CH ac9 ac' (by rw [R3 (by omega) bA hsh.st,al]))
  (by rw [R0 (by omega) bA hsh.Cu hsh.qz,bT]) (ox (P:=λq:Request=>nf n q=some 0) λi ab=>by rw [RV (by omega) bA (hsh.Cw i),gX i ab])
def encA(r:b_):ae7×Int:=bif !jZ r then([],1)else bif decide (16384<(((jg (oz r)).length:Nat):Int)) then([],2) else(jg (oz r),0)
theorem SV:uc n r=some (encA r):=by
 have hsh:=a7.bU hi hn;unfold uc encA;rw [Jf hn bA hsh,aP];cases hs:jZ r
 ·rfl
 ·simp only [aeU,aeT];rw [JJ hn bA a7 hi hs,aP];cases decide (16384<(((jg (oz r)).length:Nat):Int))<;>rfl
end
def ac_{n:Nat}(hn:3000000≤n)(bA:n≤1000000000){a b:b_}(yl:u0 a)(oN:ow a)(ym:u0 b)(u3:ow b):
 uj n a b=some (jZ a&&(jZ b&&decide (jg (oz a)=jg (oz b)))):=by
 unfold uj;rw [Jf hn bA (yl.bU oN hn),aP];cases ha:jZ a
 ·rfl
 ·rw [Jf hn bA (ym.bU u3 hn)];cases hb:jZ b
  ·rfl
  ·rw [JJ hn bA yl oN ha,JJ hn bA ym u3 hb];rfl
def SW{r:b_}(h:(encA r).2=0):jZ r=true∧(encA r).1=jg (oz r):=by
 unfold encA at h ⊢;cases hs:jZ r
 ·rw [hs]at h;exact absurd h (by simp)
 ·rw [hs]at h;simp only [aeU,aeT]at h ⊢;cases ab:decide (16384<(((jg (oz r)).length:Nat):Int))
  ·exact⟨trivial,rfl⟩
  ·rw [ab]at h;exact absurd h (by simp)
def ada(a b:b_)(oN:ow a)(u3:ow b):H8 10000000 a b=some true:=by
 unfold H8
 (try simp only [Cs])
 rcases Si (n:=10000000) (by omega) a oN.JF.2 with h|⟨yl,h⟩
 ·simp only [h,aP,aeV,aeU,aeS,aeT,Jg]
 ·rcases Si (n:=10000000) (by omega) b u3.JF.2 with g|⟨ym,g⟩
  ·simp only [h,g,aP,aeV,aeU,aeS,aeT,Jg]
  ·simp only [h,g,aP,aeV,aeU,aeS,aeT,Jg,SV (n:=10000000) (by omega) (by omega) yl oN,SV (n:=10000000) (by omega) (by omega) ym u3,ac_ (n:=10000000) (by omega) (by omega) yl oN ym u3]
   by_cases e1:(encA a).2=0
   ·by_cases e2:(encA b).2=0
    ·obtain⟨s1,t1⟩:=SW e1;obtain⟨s2,t2⟩:=SW e2;simp only [e1,e2,s1,s2,t1,t2,aeQ,aeU,aeT,Bool.true_and,beq_self_eq_true,aeS,aP]
    ·simp only [e1,e2,aeQ,aeR,aeU,aeV,aeS,aeT]
   ·simp only [e1,aeR,aeV,aeS]
end Go.Ab.Y

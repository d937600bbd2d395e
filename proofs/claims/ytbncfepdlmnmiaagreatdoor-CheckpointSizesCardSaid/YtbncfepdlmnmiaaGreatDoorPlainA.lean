/- The plain law: what the functions compute answers as the statement says. -/
import Derived.Lib.ItoaNum
import Derived.Lib.ItoaLen
import Derived.Test.YtbncfepdlmnmiaaGreatDoorCtrB
set_option linter.all false
namespace Go.Ab.Y
open Go Go.Ab Go.Proofs
def ahb{h:Decidable True}:@decide True h=true:=_root_.decide_true h
def ahc{h:Decidable False}:@decide False h=false:=_root_.decide_false h
def ahj:(∀n:Nat,(n:Int).toNat=n)∧∀(α:Type)(_:Inhabited α)(l:List α)(n:Nat),ahv l n=l.getD n default:=⟨λ_=>rfl,λ_ _ _ _=>rfl⟩
def ahd{α:Type}{a b:α}:cond true a b=a:=rfl
def ahe{α:Type}{a b:α}:cond false a b=b:=rfl
def ahf:(!true)=false:=rfl
def ahg:(!false)=true:=rfl
def ahh{α:Type}{a:α}{l:List α}:(a::l).length=l.length+1:=rfl
def ahi{α:Type}:([]:List α).length=0:=rfl
def ahk{a b:Nat}:((a:Int)<b)↔a<b:=_root_.Int.ofNat_lt
def ahl{α:Type}{a b:List α}:(a++b).length=a.length+b.length:=_root_.List.length_append
def ahm{α:Type}{a:α}:[a].length=1:=rfl
def ahn{α:Type}{b:Bool}{x y:α}:cond b x y=if b then x else y:=_root_.Bool.cond_eq_ite b x y
def aho(a:Int):¬a<a:=_root_.Int.lt_irrefl a
def ahp(a:Bool):(a||true)=true:=_root_.Bool.or_true a
def ahq{α:Type}{a b:α}{h:Decidable True}:@ite α True h a b=a:=_root_.if_true a b
def ahr{α:Type}{a b:α}{h:Decidable False}:@ite α False h a b=b:=_root_.if_false a b
def wr{x:Int}(ab : -9223372036854775808≤x)(ah:x≤9223372036854775807):ahu x=x:=by(try unfold ahu);rw [IntKind.wrap_i64];omega
def rR{i:Nat}(h:i≤4611686018427387904):ahu ((i:Int)+1)=((i+1:Nat):Int):=by rw [wr]<;>omega
def iB{i:Nat}(h:i≤9223372036854775806):ahu ((i:Int)+1)=((i+1:Nat):Int):=by rw [wr]<;>omega
def gF{i n:Nat}(h:i<n):aV (i:Int) n=true:=by simp [aV];omega
def acI{n:Nat}(h:0<n):aV 0 n=true:=by simp [aV];omega
@[simp] def fO {α : Type} (x : Option α) : av true x = x := rfl
def o3{α:Type}(l:List α)(i:Nat)(d:α)(h:i<l.length):l.drop i=l.getD i d::l.drop (i+1):=by
 rw [List.drop_eq_getElem_cons h];simp [List.getD,h]
def tD{α:Type}(l:List α)(i:Nat)(h:¬ i<l.length):l.drop i=[]:=List.drop_of_length_le (by omega)
def H2(a k:Nat):((a:Int)<(no_index (OfNat.ofNat k):Int))↔a<k:=Int.ofNat_lt
def z_(a k:Nat):((a:Int)≤(no_index (OfNat.ofNat k):Int))↔a≤k:=Int.ofNat_le
def mL(a k:Nat):((no_index (OfNat.ofNat k):Int)<(a:Int))↔k<a:=Int.ofNat_lt
def Aa(a k:Nat):((no_index (OfNat.ofNat k):Int)≤(a:Int))↔k≤a:=Int.ofNat_le
def rS(a k:Nat):((a:Int)=(no_index (OfNat.ofNat k):Int))↔a=k:=Int.ofNat_inj
def ki(a b:Bool):(bif a then true else b)=(a||b):=by cases a<;>rfl
def og(a b:Bool):(bif a then b else false)=(a&&b):=by cases a<;>rfl
def eG{α β:Type}(a:α)(f:α→Option β):Option.bind (some a) f=f a:=rfl
def okB(c:UInt8):Bool:=decide (32≤c.toNat)&&decide (c.toNat≤126)
def mM(s:ahs):Bool:=s.all okB&&decide (s.length≤64)
def TX(c:UInt8):(decide (c.toNat<32)||decide (126<c.toNat)) = !okB c:=by
 unfold okB;by_cases h:c.toNat<32
 ·simp [h]
 ·by_cases ah:c.toNat≤126
  ·simp [ah,show 32≤c.toNat by omega,h]
  ·simp [ah];omega
def acJ(n:Nat)(s:ahs)(hs:s.length≤9223372036854775807):∀m i,s.length<i+m→i≤s.length→sY n s m (i:Int)=some ((s.drop i).all okB&&decide (s.length≤64)):=by
 intro m;induction m with
 |zero=>intro i h ah;omega
 |succ m bD=>
  intro i hm hi;simp only [sY,Dl,Dk];by_cases h:i<s.length
  ·rw [o3 s i 0 h,iB (by omega),bD (i+1) (by omega) (by omega)]
   simp only [h,gF h,ahj,ahk,ahb,ahd,fO,ahp,List.all_cons,H2,mL,ki,TX];cases okB (s.getD i 0)<;>simp
  ·rw [tD s i h];simp [h,z_]
def acK{n:Nat}{s:ahs}(h:s.length<n)(hs:s.length≤9223372036854775807):Dm n s=some (mM s):=acJ n s hs n 0 (by omega) (by omega)
def H3:List ahs:=[[112,114,111,99],[108,101,116],[112,117,116],[100,101,108,101,116,101],[105,102],[101,108,115,101],[102,111,114],[116,111],[109,97,120],[101,109,105,116],[97,98,111,114,116],[110,111,116],[97,110,100],[111,114],[105,110,116],[115,116,114],[98,111,111,108],[116,101,120,116],[108,101,110],[103,101,116,105,110,116],[103,101,116,115,116,114],[104,97,115],[110,111,119],[114,97,110,100,111,109],[110,111,100,101]]
def TY(s:ahs):Bool:=decide (s∈H3)
def TZ(c:UInt8):Bool:=decide (97≤c.toNat)&&decide (c.toNat≤122)
def acL(c:UInt8)(s:ahs):oN (c::s)=bif nc c then oN s+1 else 0:=by
 unfold oN;cases h:nc c<;>simp [List.takeWhile,h]
def nq(s:ahs):Bool:=
 match s with
 |[]=>false
 |c::l=>decide (l.length≤15)&&TZ c&&decide (oN (c::l)=l.length+1) && !TY (c::l)
def tE(op:Int):Int:=bif decide (op<1)||decide (27<op)then -1 else bif decide (op≤3)||decide (25≤op)then 0 else bif decide (op=9)||decide (op=18)||decide (20≤op)then 1 else 2
def T0(e:Expr)(depth:Int):Int:=
 if tE e.Op<0∨(e.Op≠1∧e.N≠0)∨(e.Op≠2∧e.Op≠3∧e.S≠[])then 1
 else if e.Op=3∧nq e.S=false then 7
 else if e.N<0∨(e.Op=2∧mM e.S=false)∨(e.aA.length:Int)≠tE e.Op then 1
 else if 12<depth then 2 else 0
mutual
def lg:Expr→Nat
 |⟨_,_,S,aA⟩=>30+S.length+rT aA
def rT:List Expr→Nat
 |[]=>0
 |x::l=>lg x+1+rT l
end
def acM(e:Expr):lg e=30+e.S.length+rT e.aA:=by cases e;rfl
open Go Go.Ab Go.Proofs
def val(u:Nat)(l:ahs):Nat:=l.foldl (λu c=>u*10+(c.toNat-48)) u
open Go Go.Ab Go.Proofs
open Go Go.Ab Go.Proofs
def up(k:Nat):Int ⊕ (ahs×Nat)→Int ⊕ (ahs×Nat)
 |.inl e=>.inl e
 |.inr p=>.inr (p.1,p.2+k)
open Go Go.Ab Go.Proofs
def two:List ahs:=[[61,61],[33,61],[60,61],[62,61],[43,43]]
def acN:ahs:=[40,41,123,125,44,59,58,61,60,62,43,45,42,47,37]
def marks:List ahs:=two++acN.map λc=>[c]
open Go Go.Ab Go.Proofs
open Go Go.Ab Go.Proofs
def fd(s:ahs)(i:Nat):Nat:=(s.take i).count 10
open Go Go.Ab Go.Proofs
def clone{n:Nat}{s:ahs}(h:s.length≤281474976710656):yS n s=some s:=by
 unfold yS yu;simp only [h,ahb,fO,eG]
open Go Go.Ab Go.Proofs
def h1(l:List Token)(i:Nat)(w:ahs):Bool:=
 decide (i<l.length)&&((decide ((l.getD i default).Kind=2)||decide ((l.getD i default).Kind=5))&&decide ((l.getD i default).Text=w))
def T1{l:List Token}{i:Nat}{w:ahs}(h:h1 l i w=true):i<l.length:=by
 unfold h1 at h;simp only [Bool.and_eq_true,decide_eq_true_eq]at h;exact h.1
def H4(n:Nat)(l:List Token)(i:Nat)(w:ahs):pP n w ⟨l,(i:Int)⟩=some (h1 l i w):=by
 unfold pP h1;simp only [ahj,Int.ofNat_le,ki,og];by_cases h:i<l.length
 ·simp only [show¬ l.length≤i by omega,ahc,ahe,gF h,fO,h,ahb,Bool.true_and]
 ·simp only [show l.length≤i by omega,ahb,ahd,h,ahc,Bool.false_and]
def T2(l:List Token)(i:Nat):Int:=
 if i<l.length then(l.getD i default).ky else if l.length=0 then 1 else(l.getD (l.length-1) default).ky
def sl(l:List Token)(i:Nat)(c:Int):V:=.iface 379 (.agg [.int .i64 (T2 l i),.int .i64 c])
def Ac(l:List Token)(i:Nat)(c:Int):Int:=if i<l.length then c else 6
def T3(n:Nat)(l:List Token)(i:Nat)(c:Int)(ag:l.length≤4611686018427387904):oT n c ⟨l,(i:Int)⟩=some (.bb (sl l i (Ac l i c)) ()):=by
 unfold oT EL EK sl T2 Ac;simp only [ahj,ahk];by_cases h:i<l.length
 ·simp only [h,gF h,ahb,ahd,fO,ahq]
 ·simp only [h,ahc,ahe,ahr];by_cases h0:l.length=0
  ·simp only [h0,ahq];rfl
  ·have:ahu (((l.length:Nat):Int)-1)=((l.length-1:Nat):Int):=by rw [wr]<;>omega
   rw [this];simp only [rS,h0,ahc,ahe,gF (show l.length-1<l.length by omega),fO,ahj,ahr]
def acO(n:Nat)(l:List Token)(i:Nat)(w:ahs)(hi:i≤4611686018427387904):jy n w ⟨l,(i:Int)⟩=some (h1 l i w,(((bif h1 l i w then i+1 else i):Nat):Int)):=by
 unfold jy;rw [H4,eG,rR hi];cases h1 l i w<;>rfl
def T4(n:Nat)(l:List Token)(i:Nat)(w:ahs)(hi:i≤4611686018427387904)(ag:l.length≤4611686018427387904):
 je n w ⟨l,(i:Int)⟩=some (bif h1 l i w then .ret () ((i+1:Nat):Int)else .bb (sl l i (Ac l i 5)) (i:Int)):=by
 unfold je;rw [acO n l i w hi,eG];cases h1 l i w
 ·simp only [ahg,ahd,ahe];rw [T3 n l i 5 ag,eG];rfl
 ·rfl
def p5:List (ahs×Int×Int):=[([111,114],1,17),([97,110,100],2,16),([61,61],4,10),([33,61],4,11),([60],4,12),([60,61],4,13),([62],4,14),([62,61],4,15),([43,43],5,19),([43],6,4),([45],6,5),([42],7,6),([47],7,7),([37],7,8)]
def T6:Option (ahs×Int×Int)→Int×Int
 |none=>(0,0)
 |some r=>r.2
def H5(l:List Token)(i:Nat):Int×Int:=T6 (p5.find? λr=>h1 l i r.1)
def H6{l:List Token}{i:Nat}(h:i<l.length)(hk:(l.getD i default).Kind=2∨(l.getD i default).Kind=5)(w:ahs):h1 l i w=decide ((l.getD i default).Text=w):=by
 unfold h1;have:(decide ((l.getD i default).Kind=2)||decide ((l.getD i default).Kind=5))=true:=by rcases hk with hk|hk<;>rw [decide_eq_true hk]<;>simp
 rw [this,decide_eq_true h];rfl
def Ad{l:List Token}{i:Nat}(h:¬ (i<l.length∧((l.getD i default).Kind=2∨(l.getD i default).Kind=5)))(w:ahs):h1 l i w=false:=by
 unfold h1;by_cases ab:i<l.length
 ·by_cases ah:(l.getD i default).Kind=2
  ·exact absurd ⟨ab,Or.inl ah⟩ h
  ·by_cases ay:(l.getD i default).Kind=5
   ·exact absurd ⟨ab,Or.inr ay⟩ h
   ·rw [decide_eq_false ah,decide_eq_false ay];simp
 ·rw [decide_eq_false ab];rfl
def acP(n:Nat)(l:List Token)(i:Nat):yU n ⟨l,(i:Int)⟩=some (H5 l i):=by
 unfold yU H5
 (simp only [ahj])
 simp only [Int.ofNat_le,og];by_cases h:i<l.length
 ·simp only [show¬ l.length≤i by omega,ahc,ahe,gF h,fO]
  by_cases hk:(l.getD i default).Kind=2∨(l.getD i default).Kind=5
  ·have gA:((!decide ((l.getD i default).Kind=2)) && !decide ((l.getD i default).Kind=5))=false:=by
    rcases hk with hk|hk<;>rw [decide_eq_true hk]<;>simp
   rw [gA];simp only [ahe,H6 h hk];generalize (l.getD i default).Text=w
   by_cases hw:w∈p5.map (·.1)
   ·simp only [p5,List.map_cons,List.map_nil,List.mem_cons,List.not_mem_nil,or_false]at hw;rcases hw with rfl|rfl|rfl|rfl|rfl|rfl|rfl|rfl|rfl|rfl|rfl|rfl|rfl|rfl<;>rfl
   ·simp only [p5,List.map_cons,List.map_nil,List.mem_cons,List.not_mem_nil,or_false,not_or]at hw;simp only [hw,ahc,ahe,p5,List.find?_cons,List.find?_nil];rfl
  ·have gA:((!decide ((l.getD i default).Kind=2)) && !decide ((l.getD i default).Kind=5))=true:=by
    simp only [not_or]at hk;rw [decide_eq_false hk.1,decide_eq_false hk.2];rfl
   rw [gA];simp only [ahd,Ad (λx=>hk x.2),p5,List.find?_cons,List.find?_nil]
   rfl
 ·simp only [show l.length≤i by omega,ahb,ahd,Ad (λx=>h x.1),p5,List.find?_cons,List.find?_nil]
  rfl
open Go Go.Ab Go.Proofs
def oh:List (ahs×Int):=[([116,101,120,116],20),([108,101,110],21),([103,101,116,105,110,116],22),([103,101,116,115,116,114],23),([104,97,115],24),([110,111,119],25),([114,97,110,100,111,109],26),([110,111,100,101],27)]
def call2:Option (ahs×Int)→Int
 |none=>0
 |some r=>r.2
def Ae(l:List Token)(i:Nat):Int:=call2 (oh.find? λr=>h1 l i r.1)
def T7(l:List Token):Prop:=∀t,t∈l→t.Kind=5→t.Text∈marks
def acQ(n:Nat)(l:List Token)(i:Nat)(hg:T7 l):yW n ⟨l,(i:Int)⟩=some (Ae l i):=by
 unfold yW Ae
 (simp only [ahj])
 simp only [Int.ofNat_le,ki];by_cases h:i<l.length
 ·simp only [show¬ l.length≤i by omega,ahc,Bool.false_or,gF h,fO]
  by_cases hk:(l.getD i default).Kind=2
  ·simp only [hk,ahb,ahf,ahe,H6 h (Or.inl hk)];generalize (l.getD i default).Text=w
   by_cases hw:w∈oh.map (·.1)
   ·simp only [oh,List.map_cons,List.map_nil,List.mem_cons,List.not_mem_nil,or_false]at hw;rcases hw with rfl|rfl|rfl|rfl|rfl|rfl|rfl|rfl<;>rfl
   ·simp only [oh,List.map_cons,List.map_nil,List.mem_cons,List.not_mem_nil,or_false,not_or]at hw;simp only [hw,ahc,ahe,oh,List.find?_cons,List.find?_nil];rfl
  ·simp only [hk,ahc,ahg,ahd];by_cases bQ:(l.getD i default).Kind=5
   ·have hm:(l.getD i default).Text∈marks:=hg _ (by simp [List.getD,h]) bQ
    simp only [H6 h (Or.inr bQ)];generalize (l.getD i default).Text=w at hm
    have:∀w,w∈marks→oh.find? (λr=>decide (w=r.1))=none:=by decide
    rw [this w hm];rfl
   ·have:∀w,h1 l i w=false:=Ad (λx=>by rcases x.2 with e|e;exact hk e;exact bQ e)
    simp only [this,oh,List.find?_cons,List.find?_nil];rfl
 ·simp only [show l.length≤i by omega,ahb,Bool.true_or,fO,ahd,Ad (λx=>h x.1),oh,List.find?_cons,List.find?_nil]
  rfl
def acR(n:Nat)(l:List Token)(i d:Nat)(ag:l.length≤4611686018427387904)(hd:d≤24):s6 n (d:Int) ⟨l,(i:Int)⟩=some (if d=24 then .bb (sl l i (Ac l i 2)) ()else .ret ((d+1:Nat):Int) ()):=by
 unfold s6 yV;simp only [Aa];by_cases h:d=24
 ·simp only [show 24≤d by omega,ahb,ahd,T3 n l i 2 ag,eG,h,ahq];rfl
 ·simp only [show¬ 24≤d by omega,ahc,ahe,h,ahr]
  rw [rR (by omega)]
open Go Go.Ab Go.Proofs
def T8(n:Nat):jf (n+1)=vn n (jf n) (vq n) (pQ n) (ru n):=rfl
def acS(n:Nat):pQ (n+1)=yY n (jf n) (vq n) (pQ n) (ru n):=rfl
def acT(n:Nat):ru (n+1)=yZ n (jf n) (vq n) (pQ n) (ru n):=rfl
section
variable {l:List Token}
theorem acU{i:Nat}(h:i≤1000000000):ahu (((i+1:Nat):Int)-1)=(i:Int):=by rw [wr]<;>omega
end
open Go Go.Ab Go.Proofs
section
variable {l:List Token}
end
open Go Go.Ab Go.Proofs
open Go Go.Ab Go.Proofs
section
variable {α:Type} {wt:α→Nat} {l:List Token}
end
mutual
def fst:Stmt→Nat
 |⟨_,Name,_,A,B,Body,da⟩=>80+Name.length+lg A+lg B+oi Body+oi da
def oi:List Stmt→Nat
 |[]=>0
 |x::l=>fst x+1+oi l
end
open Go Go.Ab Go.Proofs
section
variable {l:List Token}
end
open Go Go.Ab Go.Proofs
section
variable {l:List Token}
end
open Go Go.Ab Go.Proofs
section
variable {l:List Token}
end
open Go Go.Ab Go.Proofs
section
variable {l:List Token}
end
open Go Go.Ab Go.Proofs
section
variable {l:List Token}
end
open Go Go.Ab Go.Proofs
def rU:List Param→Nat
 |[]=>0
 |p::l=>60+p.Name.length+rU l
section
variable {l:List Token}
def acV(p:bh):Nat:=p.Name.length+rU p.Params+oi p.Body
end
open Go Go.Ab Go.Proofs
mutual
def tF:Expr→Int→Int
 |⟨Op,N,S,aA⟩,d=>if T0 ⟨Op,N,S,aA⟩ d=0 then T9 aA (ahu (d+1))else T0 ⟨Op,N,S,aA⟩ d
def T9:List Expr→Int→Int
 |[],d=>0
 |x::l,d=>if tF x d=0 then T9 l d else tF x d
end
def H7(e:Expr):Bool:=decide (e.Op=0)&&decide (e.N=0)&&decide (e.S=[])&&decide (e.aA.length=0)
def wB(op:Int):jw×Bool:=
 if op=1∨op=2 then(⟨true,true,false,false,false,false⟩,true)
 else if op=3 then(⟨false,true,true,false,false,false⟩,true)
 else if op=4∨op=7 then(⟨false,true,false,false,false,false⟩,true)
 else if op=5 then(⟨false,true,false,false,true,true⟩,true)
 else if op=6 then(⟨true,true,true,true,true,false⟩,true)
 else if op=8 then(⟨false,false,false,true,false,false⟩,true)
 else(⟨false,false,false,false,false,false⟩,false)
def acW(s:Stmt)(u:jw):Bool:=
 (!u.name && !decide (s.Name=[]))||(!u.a && !H7 s.A)||(!u.b && !H7 s.B)||(!u.max && !decide (s.Max=0))||(!u.body&&decide (0<s.Body.length))||(!u.other&&decide (0<s.da.length))
def acX(s:Stmt):Bool:=if s.Op=6 then decide (1≤s.Max)&&decide (s.Max≤16)else if s.Op=8 then decide (0≤s.Max)&&decide (s.Max≤999)else true
def acY(s:Stmt)(d:Int):Int:=
 if(wB s.Op).2=false∨acW s (wB s.Op).1=true∨acX s=false then 1
 else if(wB s.Op).1.name=true∧nq s.Name=false then 7
 else if(wB s.Op).1.a=true∧tF s.A 1≠0 then tF s.A 1
 else if(wB s.Op).1.b=true∧tF s.B 1≠0 then tF s.B 1
 else if 12<d then 2 else 0
open Go Go.Ab Go.Proofs
open Go Go.Ab Go.Proofs
def T_(before:List Param):List Param→Int
 |[]=>0
 |x::l=>if nq x.Name=false then 7 else if x.hU<1∨3<x.hU then 10 else if(before.any λy=>decide (y.Name=x.Name))=true then 8 else T_ (before++[x]) l
def Ua(l:List Param):Int:=if 6<l.length then 2 else T_ [] l
open Go Go.Ab Go.Proofs
mutual
def Ub:Expr→Nat→Nat
 |⟨_,_,_,aA⟩,k=>if k=0 then 0 else Uc aA (k-1)
def Uc:List Expr→Nat→Nat
 |[],k=>k
 |x::l,k=>Uc l (Ub x k)
end
def Ud(e:Expr)(k:Nat):Nat:=if k=0∨H7 e=true then k else Ub e k
mutual
def acZ:Stmt→Int→Nat×Int→Nat×Int
 |⟨Op,Name,Max,A,B,Body,da⟩,d,r=>
  tG da (ahu (d+1)) (tG Body (ahu (d+1)) (Ud B (Ud A (r.1-1)),if r.2=0 then acY ⟨Op,Name,Max,A,B,Body,da⟩ d else r.2))
def tG:List Stmt→Int→Nat×Int→Nat×Int
 |[],d,r=>r
 |s::l,d,r=>if r.1=0 then r else tG l d (acZ s d r)
end
open Go Go.Ab Go.Proofs
open Go Go.Ab Go.Proofs
open Go Go.Ab Go.Proofs
open Go Go.Ab Go.Proofs
def Ue(p:bh):Int:=
 if nq p.Name=false then 7 else if Ua p.Params≠0 then Ua p.Params
 else if(tG p.Body 1 (401,0)).2=0∧(tG p.Body 1 (401,0)).1=0 then 2 else(tG p.Body 1 (401,0)).2
open Go Go.Ab Go.Proofs
open Go Go.Ab Go.Proofs
def hQ(t:Token):Token:=⟨t.Kind,t.Text,t.N,0⟩
open Go Go.Ab Go.Proofs
def ac0{w:ahs}:oN w=w.length→w.all nc=true:=by
 induction w with
 |nil=>intro;rfl
 |cons c w bD=>
  intro h;rw [acL]at h;cases hc:nc c
  ·rw [hc]at h;simp at h
  ·rw [hc]at h;simp only [ahd,ahh]at h;rw [List.all_cons,hc,bD (by omega)];rfl
def ac1{w:ahs}(h:nq w=true):∃c l,w=c::l∧TZ c=true∧w.all nc=true∧TY w=false∧w.length≤16:=by
 cases w with
 |nil=>cases h
 |cons c l=>
  simp only [nq,Bool.and_eq_true,decide_eq_true_eq,Bool.not_eq_true']at h;obtain⟨⟨⟨ab,ah⟩,ay⟩,bl⟩:=h;exact⟨c,l,rfl,ah,ac0 (by simpa using ay),bl,by simp;omega⟩
def wC:ahs→ahs
 |[]=>[]
 |c::l=>if c.toNat=34∨c.toNat=92 then 92::c::wC l else c::wC l
def quo(s:ahs):ahs:=34::(wC s++[34])
def spell(t:Token):ahs:=if t.Kind=3 then Lib.decDigits t.N.toNat else if t.Kind=4 then quo t.Text else t.Text
def wD(t:Token):Prop:=
 t.ky=0∧((t.Kind=1∧nq t.Text=true∧t.N=0)∨(t.Kind=2∧t.Text∈H3∧t.N=0)∨(t.Kind=3∧t.Text=[]∧0≤t.N∧t.N≤9223372036854775807)∨
  (t.Kind=4∧mM t.Text=true∧t.N=0)∨(t.Kind=5∧t.Text∈marks∧t.N=0))
open Go Go.Ab Go.Proofs
abbrev nr:=List (Option Token)
def flat:nr→ahs
 |[]=>[]
 |some t::l=>spell t++flat l
 |none::l=>32::flat l
def kj:nr→List Token
 |[]=>[]
 |some t::l=>t::kj l
 |none::l=>kj l
def wE:∀l m:nr,flat (l++m)=flat l++flat m
 |[],m=>rfl
 |some t::l,m=>by simp only [List.cons_append,flat,wE l m,List.append_assoc]
 |none::l,m=>by simp only [List.cons_append,flat,wE l m]
def H8:∀l m:nr,kj (l++m)=kj l++kj m
 |[],m=>rfl
 |some t::l,m=>by simp only [List.cons_append,kj,H8 l m]
 |none::l,m=>by simp only [List.cons_append,kj,H8 l m]
def lh(w:ahs):Token:=⟨2,w,0,0⟩
def gG(w:ahs):Token:=⟨5,w,0,0⟩
def ac2(w:ahs):Token:=⟨1,w,0,0⟩
def ac3(n:Int):Token:=⟨3,[],n,0⟩
def ac4(w:ahs):Token:=⟨4,w,0,0⟩
def jF(op:Int):Nat:=if op=17 then 1 else if op=16 then 2 else if op=18 then 3 else if 10≤op∧op≤15 then 4 else if op=19 then 5 else if op=4∨op=5 then 6 else if 6≤op∧op≤8 then 7 else if op=9 then 8 else 9
def wF(op:Int):Token:=
 if op=17 then lh [111,114]else if op=16 then lh [97,110,100]else if op=10 then gG [61,61]else if op=11 then gG [33,61]else if op=12 then gG [60]else if op=13 then gG [60,61]
 else if op=14 then gG [62]else if op=15 then gG [62,61]else if op=19 then gG [43,43]else if op=4 then gG [43]else if op=5 then gG [45]else if op=6 then gG [42]else if op=7 then gG [47]else gG [37]
def ns(op:Int):Token:=
 if op=20 then lh [116,101,120,116]else if op=21 then lh [108,101,110]else if op=22 then lh [103,101,116,105,110,116]else if op=23 then lh [103,101,116,115,116,114]else if op=24 then lh [104,97,115]
 else if op=25 then lh [110,111,119]else if op=26 then lh [114,97,110,100,111,109]else lh [110,111,100,101]
def li(op:Int)(p:nr)(least:Nat):nr:=if jF op<least then some (gG [40])::(p++[some (gG [41])])else p
def Af(Op N:Int)(S:ahs)(L:List (Int×nr)):nr:=
 if Op=1 then[some (ac3 N)]else if Op=2 then[some (ac4 S)]else if Op=3 then[some (ac2 S)]
 else match L with
  |[]=>[some (ns Op),some (gG [40]),some (gG [41])]
  |[a]=>if Op=18 then some (lh [110,111,116])::none::li a.1 a.2 3 else if Op=9 then some (gG [45])::li a.1 a.2 8 else some (ns Op)::some (gG [40])::(a.2++[some (gG [41])])
  |a::b::_=>li a.1 a.2 (if jF Op=4 then 5 else jF Op)++none::some (wF Op)::none::li b.1 b.2 (jF Op+1)
mutual
def f_:Expr→nr
 |⟨Op,N,S,aA⟩=>Af Op N S (wG aA)
def wG:List Expr→List (Int×nr)
 |[]=>[]
 |x::l=>(x.Op,f_ x)::wG l
end
def nV(op:Int)(n:Nat):Prop:=(1≤op∧op≤27)∧(n:Int)=tE op
mutual
def h':Expr→Prop
 |⟨Op,N,S,aA⟩=>nV Op aA.length∧(Op=1→0≤N∧N≤9223372036854775807)∧(Op≠1→N=0)∧(Op≠2∧Op≠3→S=[])∧(Op=2→mM S=true)∧(Op=3→nq S=true)∧H9 aA
def H9:List Expr→Prop
 |[]=>True
 |x::l=>h' x∧H9 l
end
mutual
def nt:Expr→Nat
 |⟨_,_,_,aA⟩=>1+wH aA
def wH:List Expr→Nat
 |[]=>0
 |x::l=>max (nt x) (wH l)
end
def ac5(e:Expr):h' e↔nV e.Op e.aA.length∧(e.Op=1→0≤e.N∧e.N≤9223372036854775807)∧(e.Op≠1→e.N=0)∧(e.Op≠2∧e.Op≠3→e.S=[])∧(e.Op=2→mM e.S=true)∧(e.Op=3→nq e.S=true)∧H9 e.aA:=by cases e;rfl
def ac6(e:Expr):nt e=1+wH e.aA:=by cases e;rfl
def Uf{w:ahs}(h:w∈H3):wD (lh w):=⟨rfl,Or.inr (Or.inl ⟨rfl,h,rfl⟩)⟩
def ac7{c:Prop}[Decidable c]{a b:Token}(ha:wD a)(hb:wD b):wD (if c then a else b):=by
 by_cases h:c
 ·rw [if_pos h];exact ha
 ·rw [if_neg h];exact hb
def ac8{c:Prop}[Decidable c]{a b:Token}{k:Int}(ha:a.Kind=k)(hb:b.Kind=k):(if c then a else b).Kind=k:=by
 by_cases h:c
 ·rw [if_pos h];exact ha
 ·rw [if_neg h];exact hb
def ac9(op:Int):wD (ns op)∧(ns op).Kind=2:=by
 unfold ns;constructor
 ·repeat refine ac7 (Uf (by decide)) ?_
  exact Uf (by decide)
 ·repeat refine ac8 rfl ?_
  rfl
def ac'{op:Int}(h:1≤op∧op≤27):tE op=0∧(op≤3∨25≤op)∨tE op=1∧(op=9∨op=18∨20≤op∧op≤24)∨tE op=2∧(4≤op∧op≤8∨10≤op∧op≤17∨op=19):=by
 obtain rfl|rfl|rfl|rfl|rfl|rfl|rfl|rfl|rfl|rfl|rfl|rfl|rfl|rfl|rfl|rfl|rfl|rfl|rfl|rfl|rfl|rfl|rfl|rfl|rfl|rfl|rfl:op=1∨op=2∨op=3∨op=4∨op=5∨op=6∨op=7∨op=8∨op=9∨op=10∨op=11∨op=12∨op=13∨op=14∨op=15∨op=16∨op=17∨op=18∨op=19∨op=20∨op=21∨op=22∨op=23∨op=24∨op=25∨op=26∨op=27:=by omega
 all_goals first|exact Or.inl ⟨rfl,by omega⟩|exact Or.inr (Or.inl ⟨rfl,by omega⟩)|exact Or.inr (Or.inr ⟨rfl,by omega⟩)
open Go Go.Ab Go.Proofs
def b4(l:List Token)(i:Nat)(T R:List Token):Prop:=(l.map hQ).drop i=T++R
def rV(R:List Token)(w:ahs):Bool:=
 match R with
 |[]=>false
 |t::_=>(decide (t.Kind=2)||decide (t.Kind=5))&&decide (t.Text=w)
def ac_(l:List Token)(i:Nat)(w:ahs):h1 l i w=rV ((l.map hQ).drop i) w:=by
 unfold h1;by_cases h:i<l.length
 ·rw [o3 (l.map hQ) i default (by simpa using h)]
  have:(l.map hQ).getD i default=hQ (l.getD i default):=by simp [List.getD,h]
  rw [this];generalize l.getD i default=t
  simp only [rV,h,hQ,ahb,Bool.true_and]
  congr
 ·rw [tD (l.map hQ) i (by simpa using h)]
  simp [rV,h]
def b4.is{l T R:List Token}{i:Nat}(h:b4 l i T R)(w:ahs):h1 l i w=rV (T++R) w:=by rw [ac_,h]
def b4.call{l T R:List Token}{i:Nat}(h:b4 l i T R):Ae l i=call2 (oh.find? λr=>rV (T++R) r.1):=by
 unfold Ae
 congr 2
 funext r
 exact h.is r.1
def b4.lt{l T R:List Token}{t:Token}{i:Nat}(h:b4 l i (t::T) R):i<l.length:=by
 by_cases hi:i<l.length
 ·exact hi
 ·unfold b4 at h;rw [tD (l.map hQ) i (by simpa using hi)]at h
  cases h
def b4.hd{l T R:List Token}{t:Token}{i:Nat}(h:b4 l i (t::T) R):hQ (l.getD i default)=t:=by
 have hi:=h.lt;unfold b4 at h;rw [o3 (l.map hQ) i default (by simpa using hi),List.cons_append]at h
 injection h with ab ah;rw [←ab];simp [List.getD,hi]
def b4.tH{l T U R:List Token}{i:Nat}(h:b4 l i (T++U) R):b4 l (i+T.length) U R:=by
 unfold b4 at *;rw [←List.drop_drop,h,List.append_assoc,List.drop_left]
def b4.le{l T R:List Token}{i:Nat}(h:b4 l i T R)(aO:T≠[]):i+T.length≤l.length:=by
 have:=congrArg List.length h
 simp only [List.length_drop,List.length_map,ahl]at this;have:0<T.length:=List.length_pos_iff.2 aO
 omega
def ada(R:List Token):Int:=(T6 (p5.find? λr=>rV R r.1)).1
def adb(op:Int)(R:List Token)(h:20≤op∧op≤27):call2 (oh.find? λr=>rV (ns op::R) r.1)=op:=by
 have:op=20∨op=21∨op=22∨op=23∨op=24∨op=25∨op=26∨op=27:=by omega
 rcases this with rfl|rfl|rfl|rfl|rfl|rfl|rfl|rfl<;>rfl
section
variable {l:List Token}
def gQ(l:List Token)(i d iS:Nat)(e:Expr)(k B:Nat):Prop:=∀n,B≤n→jf n (iS:Int) (d:Int) ⟨l,(i:Int)⟩=some (.ret e (k:Int))
def wI(l:List Token)(i d:Nat)(e:Expr)(k B:Nat):Prop:=∀n,B≤n→pQ n (d:Int) ⟨l,(i:Int)⟩=some (.ret e (k:Int))
def H_(l:List Token)(i d:Nat)(e:Expr)(k B:Nat):Prop:=∀n,B≤n→ru n (d:Int) ⟨l,(i:Int)⟩=some (.ret e (k:Int))
theorem gQ.mono{i d iS:Nat}{e:Expr}{k B Ug:Nat}(h:gQ l i d iS e k B)(agz:B≤Ug):gQ l i d iS e k Ug:=λn hn=>h n (by omega)
theorem adc(e:Expr):(⟨e.Op,e.N,e.S,e.aA⟩:Expr)=e:=by cases e;rfl
theorem gQ.down{i d iS:Nat}{e:Expr}{k B:Nat}(h:gQ l i d (iS+1) e k B)(nN:1≤iS)(agA:iS≤7)(hs:(H5 l k).1≠(iS:Int))(ay:iS=3→h1 l i [110,111,116]=false):gQ l i d iS e k (B+2):=by
 intro n hn;obtain⟨n,rfl⟩:∃j,n=j+1:=⟨n-1,by omega⟩
 have he:=h n (by omega)
 rw [T8];unfold vn;simp only [rS,H4,eG];by_cases e3:iS=3
 ·subst e3;rw [ay rfl];simp only [ahb,ahd,ahe];rw [show jf n 4 (d:Int) ⟨l,(i:Int)⟩=_ from he]
  rfl
 ·simp only [e3,show¬ iS=8 by omega,ahc,ahe]
  rw [rR (by omega),he]
  obtain⟨m,hm⟩:∃j,n=j+1:=⟨n-1,by omega⟩
  simp only [eG,aQ.on]
  conv=>lhs;arg 9;rw [hm]
  simp only [yX,EM,acP,eG,hs,ahc,ahg,ahd,adc]
theorem wI.down{i d:Nat}{e:Expr}{k B:Nat}(h:wI l i d e k B)(hR:h1 l i [45]=false):gQ l i d 8 e k (B+1):=by
 intro n hn;obtain⟨n,rfl⟩:∃j,n=j+1:=⟨n-1,by omega⟩
 rw [T8];unfold vn;simp only [rS,H4,eG,show¬ 8=3 by omega,ahb,ahc,ahd,ahe,hR]
 rw [h n (by omega)]
 rfl
theorem H_.of{i d:Nat}{e:Expr}{k B:Nat}(ag:l.length≤1000000000)(hi:h1 l i [40]=true)(h:gQ l (i+1) d 1 e k B)(hk:h1 l k [41]=true):H_ l i d e (k+1) (B+1):=by
 intro n hn;obtain⟨n,rfl⟩:∃j,n=j+1:=⟨n-1,by omega⟩
 have ab:=T1 hi;have ah:=T1 hk;rw [acT];unfold yZ;rw [T4 n l i _ (by omega) (by omega),hi]
 simp only [eG,ahd,aQ.on];rw [show jf n 1 (d:Int) ⟨l,((i+1:Nat):Int)⟩=_ from h n (by omega)]
 simp only [eG,aQ.on];rw [T4 n l k _ (by omega) (by omega),hk]
 rfl
theorem ade{n i d:Nat}(ag:l.length≤1000000000)(h:i<l.length):pQ (n+1) (d:Int) ⟨l,(i:Int)⟩ =
 if(l.getD i default).Kind=3 then some (.ret ⟨1,(l.getD i default).N,[],[]⟩ ((i+1:Nat):Int))else if(l.getD i default).Kind=4 then some (.ret ⟨2,0,(l.getD i default).Text,[]⟩ ((i+1:Nat):Int))
 else if(l.getD i default).Kind=1 then some (.ret ⟨3,0,(l.getD i default).Text,[]⟩ ((i+1:Nat):Int))else vp n (jf n) (vq n) (pQ n) (ru n) (d:Int) ⟨l,(i:Int)⟩ (i:Int):=by
 rw [acS];unfold yY
 (rw [rR (by omega)];simp only [ahj];rw [acU (by omega)])
 simp only [ahk,h,ahb,ahd,gF h,fO];by_cases ay:(l.getD i default).Kind=3
 ·simp only [ay,ahb,ahd,ahq]
 ·by_cases bl:(l.getD i default).Kind=4
  ·simp only [bl,show¬ (4:Int)=3 by omega,ahb,ahc,ahd,ahe,ahq,ahr]
  ·by_cases bQ:(l.getD i default).Kind=1
   ·simp only [bQ,show¬ (1:Int)=3 by omega,show¬ (1:Int)=4 by omega,ahb,ahc,ahd,ahe,ahq,ahr]
   ·simp only [ay,bl,bQ,ahc,ahe,ahr]
theorem wI.word{i d:Nat}{e:Expr}{k B:Nat}{op:Int}(nU:20≤op∧op≤24)(ag:l.length≤1000000000)(hg:T7 l){T R:List Token}(iT:b4 l i (ns op::T) R)(hd:d≤23)(h:H_ l (i+1) (d+1) e k B):wI l i d ⟨op,0,[],[e]⟩ k (B+1):=by
 intro n hn;obtain⟨n,rfl⟩:∃j,n=j+1:=⟨n-1,by omega⟩
 have cJ:=iT.lt;have bu:=iT.hd;have hk:(l.getD i default).Kind=2:=by have:=congrArg Token.Kind bu;exact this.trans (ac9 op).2
 rw [ade ag cJ,hk,if_neg (by decide),if_neg (by decide),if_neg (by decide)]
 unfold vp vo ER;rw [acQ n l i hg,iT.call,List.cons_append,adb op _ (by omega),acR n l i d (by omega) (by omega),if_neg (by omega)]
 simp only [eG,show¬ op=0 by omega,show¬ op=25 by omega,show¬ op=26 by omega,show¬ op=27 by omega,ahc,ahe,aQ.on]
 rw [rR (by omega),h n (by omega)]
 rfl
end
open Go Go.Ab Go.Proofs
def adf{l:List Expr}{n:Int}(h:(l.length:Int)=n)(ah:n=2):∃a b,l=[a,b]:=by
 match l,h with
 |[a,b],_=>exact⟨a,b,rfl⟩
 |[],h=>simp at h;omega
 |[a],h=>simp at h;omega
 |a::b::c::l,h=>simp at h;omega
def adg{l:List Expr}{n:Int}(h:(l.length:Int)=n)(ah:n=1):∃a,l=[a]:=by
 match l,h with
 |[a],_=>exact⟨a,rfl⟩
 |[],h=>simp at h;omega
 |a::b::l,h=>simp at h;omega
def adh{l:List Expr}{n:Int}(h:(l.length:Int)=n)(ah:n=0):l=[]:=by
 match l,h with
 |[],_=>rfl
 |a::l,h=>simp at h;omega
def adi(e:Expr)(h:h' e):
 (e.Op=1∧e=⟨1,e.N,[],[]⟩)∨(e.Op=2∧e=⟨2,0,e.S,[]⟩)∨(e.Op=3∧e=⟨3,0,e.S,[]⟩)∨((25≤e.Op∧e.Op≤27)∧e=⟨e.Op,0,[],[]⟩)∨
 (∃a,e=⟨e.Op,0,[],[a]⟩∧h' a∧nt e=1+nt a∧(e.Op=9∨e.Op=18∨20≤e.Op∧e.Op≤24))∨
 (∃a b,e=⟨e.Op,0,[],[a,b]⟩∧h' a∧h' b∧nt e=1+max (nt a) (nt b)∧(4≤e.Op∧e.Op≤8∨10≤e.Op∧e.Op≤17∨e.Op=19)):=by
 obtain⟨Op,N,S,aA⟩:=e;obtain⟨⟨ab,ah⟩,ay,bl,bQ,df,fK,hR⟩:=h;rcases ac' ab with⟨ha,hb⟩|⟨ha,hb⟩|⟨ha,hb⟩
 ·obtain rfl:=adh ah ha;by_cases e1:Op=1
  ·subst e1;obtain rfl:=bQ (by omega);exact Or.inl ⟨rfl,rfl⟩
  ·obtain rfl:=bl e1;by_cases e2:Op=2
   ·subst e2;exact Or.inr (Or.inl ⟨rfl,rfl⟩)
   ·by_cases e3:Op=3
    ·subst e3;exact Or.inr (Or.inr (Or.inl ⟨rfl,rfl⟩))
    ·obtain rfl:=bQ ⟨e2,e3⟩;exact Or.inr (Or.inr (Or.inr (Or.inl ⟨⟨by simp only;omega,by simp only;omega⟩,rfl⟩)))
 ·obtain⟨a,rfl⟩:=adg ah ha;obtain rfl:=bl (by omega)
  obtain rfl:=bQ (by omega)
  exact Or.inr (Or.inr (Or.inr (Or.inr (Or.inl ⟨a,rfl,hR.1,by simp [nt,wH],hb⟩))))
 ·obtain⟨a,b,rfl⟩:=adf ah ha;obtain rfl:=bl (by omega)
  obtain rfl:=bQ (by omega)
  exact Or.inr (Or.inr (Or.inr (Or.inr (Or.inr ⟨a,b,rfl,hR.1,hR.2.1,by simp [nt,wH],hb⟩))))
def adj{op:Int}{a b:Expr}(h:4≤op∧op≤8∨10≤op∧op≤17∨op=19):f_ ⟨op,0,[],[a,b]⟩=li a.Op (f_ a) (if jF op=4 then 5 else jF op)++none::some (wF op)::none::li b.Op (f_ b) (jF op+1):=by
 simp only [f_,wG,Af];rw [if_neg (by omega),if_neg (by omega),if_neg (by omega)]
section
variable {l:List Token}
abbrev wJ(e:Expr)(iS:Nat):List Token:=kj (li e.Op (f_ e) iS)
end
open Go Go.Ab Go.Proofs
section
variable {l:List Token}
def fa(l:List Token)(e:Expr):Prop:=∀(i d:Nat) (R:List Token),b4 l i (kj (f_ e)) R→ada R<(jF e.Op:Int)→d+2*nt e≤26→
 if jF e.Op=9 then wI l i d e (i+(kj (f_ e)).length) (24*(kj (f_ e)).length+20)else gQ l i d (jF e.Op) e (i+(kj (f_ e)).length) (24*(kj (f_ e)).length+40-2*jF e.Op)
end
open Go Go.Ab Go.Proofs
def adk(i:Int)(h0:0≤i)(ab:i≤9223372036854775807):(Lib.decDigits i.toNat).length≤21:=by
 have:=Lib.itoa_length_le i (by omega) ab
 unfold Lib.itoa at this
 rwa [if_neg (by omega)]at this
def Uh:∀s:ahs,(wC s).length≤2*s.length
 |[]=>Nat.le_refl _
 |c::s=>by
  have:=Uh s
  simp only [wC];split<;>simp only [ahh]<;>omega
def adl(s:ahs):(quo s).length≤2*s.length+2:=by
 have:=Uh s
 simp only [quo,ahh,ahl,ahi];omega
def Ui{c:Prop}[Decidable c]{a b:Token}{k:Nat}(ha:(spell a).length≤k)(hb:(spell b).length≤k):(spell (if c then a else b)).length≤k:=by
 by_cases h:c
 ·rw [if_pos h];exact ha
 ·rw [if_neg h];exact hb
def adm(op:Int):(spell (wF op)).length≤3:=by
 unfold wF
 repeat refine Ui (by decide) ?_
 decide
def Uj(op:Int):(spell (ns op)).length≤6:=by
 unfold ns
 repeat refine Ui (by decide) ?_
 decide
def Ag(op:Int)(p:nr)(k:Nat):(flat (li op p k)).length≤(flat p).length+2:=by
 unfold li;split
 ·simp only [flat,wE,spell,gG,ahl,ahh];simp;omega
 ·omega
def adn{w:ahs}(h:nq w=true):w.length≤16:=by
 obtain⟨c,l,_,_,_,_,bQ⟩:=ac1 h;exact bQ
def Bl:∀(h:Nat) (e:Expr),nt e≤h→h' e→(flat (f_ e)).length≤4*lg e:=by
 intro h;induction h with
 |zero=>intro e he;rw [ac6]at he;omega
 |succ h bD=>
  intro e he fU;have Ia:=(ac5 e).1 fU;have agB:=acM e;rcases adi e fU with⟨ab,aP⟩|⟨ab,aP⟩|⟨ab,aP⟩|⟨aj,aP⟩|⟨a,aP,ha,bu,nU⟩|⟨a,b,aP,ha,hb,bu,nU⟩
  ·have:=adk e.N (Ia.2.1 ab).1 (Ia.2.1 ab).2
   have e2:flat (f_ e)=Lib.decDigits e.N.toNat++[]:=by rw [aP];rfl
   rw [e2,List.append_nil];omega
  ·have:=adl e.S
   have e2:flat (f_ e)=quo e.S++[]:=by rw [aP];rfl
   rw [e2,List.append_nil];omega
  ·have:=adn (Ia.2.2.2.2.2.1 ab)
   have e2:flat (f_ e)=e.S++[]:=by rw [aP];rfl
   rw [e2,List.append_nil];omega
  ·have:=Uj e.Op
   generalize e.Op=op at aj aP this
   have e2:flat (f_ e)=spell (ns op)++([40]++([41]++[])):=by
    rw [aP];simp only [f_,wG,Af];rw [if_neg (by omega),if_neg (by omega),if_neg (by omega)];rfl
   rw [e2];simp only [ahl,ahh,ahi];omega
  ·have ado:=bD a (by omega) ha
   have adp:lg e=30+(lg a+1):=by rw [aP];simp [lg,rT]
   have:=Uj e.Op
   have ay:=Ag a.Op (f_ a) 3;have hR:=Ag a.Op (f_ a) 8;generalize e.Op=op at nU aP this
   have e2:f_ e=if op=18 then some (lh [110,111,116])::none::li a.Op (f_ a) 3 else if op=9 then some (gG [45])::li a.Op (f_ a) 8 else some (ns op)::some (gG [40])::(f_ a++[some (gG [41])]):=by
    rw [aP];simp only [f_,wG,Af];rw [if_neg (by omega),if_neg (by omega),if_neg (by omega)]
   rw [e2];split
   ·simp only [flat,spell,lh,ahl,ahh];simp;omega
   ·split
    ·simp only [flat,spell,gG,ahl,ahh];simp;omega
    ·simp only [flat,wE,ahl];have e3:(spell (gG [40])).length=1:=rfl;have uv:(spell (gG [41])).length=1:=rfl;simp only [ahi];omega
  ·have ado:=bD a (by omega) ha
   have agC:=bD b (by omega) hb
   have adp:lg e=30+(lg a+1+(lg b+1)):=by rw [aP];simp [lg,rT]
   have:=adm e.Op
   have ay:=Ag a.Op (f_ a) (if jF e.Op=4 then 5 else jF e.Op)
   have hR:=Ag b.Op (f_ b) (jF e.Op+1);generalize e.Op=op at nU aP this ay hR
   have e2:f_ e=li a.Op (f_ a) (if jF op=4 then 5 else jF op)++none::some (wF op)::none::li b.Op (f_ b) (jF op+1):=by rw [aP,adj nU]
   rw [e2];simp only [wE,flat,ahl,ahh];omega
open Go Go.Ab Go.Proofs
open Go Go.Ab Go.Proofs
mutual
def Ah:Expr→Prop
 |⟨Op,N,S,aA⟩=>N≤9223372036854775807∧S.length≤9223372036854775807∧aA.length≤9223372036854775807∧Uk aA
def Uk:List Expr→Prop
 |[]=>True
 |x::l=>Ah x∧Uk l
end
mutual
def wK:Expr→Nat
 |⟨_,_,S,aA⟩=>1+S.length / 64+Ai aA
def Ai:List Expr→Nat
 |[]=>0
 |x::l=>wK x+Ai l
end
mutual
def Ib:∀e:Expr,lg e+1≤95*wK e
 |⟨Op,N,S,aA⟩=>by
  have:=Ul aA
  simp only [lg,wK];omega
def Ul:∀l:List Expr,rT l≤95*Ai l
 |[]=>Nat.le_refl _
 |x::l=>by
  have ab:=Ib x;have ah:=Ul l;simp only [rT,Ai];omega
end
open Go Go.Ab Go.Proofs
mutual
def adq:Stmt→Prop
 |⟨_,Name,Max,A,B,Body,da⟩=>(-9223372036854775808≤Max∧Max≤9223372036854775807)∧Name.length≤9223372036854775807∧Ah A∧Ah B∧Aj Body∧Aj da
def Aj:List Stmt→Prop
 |[]=>True
 |x::l=>adq x∧Aj l
end
mutual
def Ic:Stmt→Nat
 |⟨_,Name,_,A,B,Body,da⟩=>1+Name.length / 64+wK A+wK B+tI Body+tI da
def tI:List Stmt→Nat
 |[]=>0
 |x::l=>Ic x+tI l
end
mutual
def adr:∀s:Stmt,fst s+1≤150*Ic s
 |⟨Op,Name,Max,A,B,Body,da⟩=>by
  have ab:=Ib A;have ah:=Ib B;have ay:=Ak Body;have bl:=Ak da;simp only [fst,Ic];omega
def Ak:∀l:List Stmt,oi l≤150*tI l
 |[]=>Nat.zero_le _
 |x::l=>by
  have ab:=adr x;have ah:=Ak l;simp only [oi,tI];omega
end
def Ie(p:bh):Prop:=p.Name.length≤9223372036854775807∧p.Params.length≤9223372036854775807∧(∀i,i<p.Params.length→(p.Params.getD i default).Name.length≤9223372036854775807)∧Aj p.Body
def ads(p:bh)(m:Nat):Prop:=p.Name.length≤200∧p.Params.length≤40∧rU p.Params≤16000∧tI p.Body≤m
open Go Go.Ab Go.Proofs
open Go Go.Ab Go.Proofs
def ind:Nat→ahs
 | 0=>[]
 |d+1=>32::32::32::32::ind d
def cat:List ahs→ahs
 |[]=>[]
 |x::l=>x++cat l
def l3(d:Nat)(l:List ahs):ahs:=ind d++(cat l++[10])
abbrev o4(e:Expr):ahs:=flat (f_ e)
abbrev Um(e:Expr):List Token:=kj (f_ e)
mutual
def adt:Stmt→Nat→ahs
 |⟨Op,Name,Max,A,B,Body,da⟩,d=>
  if Op=1 then l3 d [[108,101,116,32],Name,[32,61,32],o4 A,[59]]
  else if Op=2 then l3 d [Name,[32,61,32],o4 A,[59]]
  else if Op=3 then l3 d [[112,117,116,32],o4 A,[32,61,32],o4 B,[59]]
  else if Op=4 then l3 d [[100,101,108,101,116,101,32],o4 A,[59]]
  else if Op=5 then l3 d [[105,102,32],o4 A,[32,123]]++(wL Body (d+1)++((if da.length=0 then[]else l3 d [[125,32,101,108,115,101,32,123]]++wL da (d+1))++l3 d [[125]]))
  else if Op=6 then l3 d [[102,111,114,32],Name,[32,61,32],o4 A,[32,116,111,32],o4 B,[32,109,97,120,32],Lib.decDigits Max.toNat,[32,123]]++(wL Body (d+1)++l3 d [[125]])
  else if Op=7 then l3 d [[101,109,105,116,32],o4 A,[59]]
  else l3 d [[97,98,111,114,116,32],Lib.decDigits Max.toNat,[59]]
def wL:List Stmt→Nat→ahs
 |[],_=>[]
 |s::l,d=>adt s d++wL l d
end
open Go Go.Ab Go.Proofs
open Go Go.Ab Go.Proofs
open Go Go.Ab Go.Proofs
section
variable {l:List Token}
end
open Go Go.Ab Go.Proofs
section
variable {l:List Token}
end
open Go Go.Ab Go.Proofs
def If(t:Int):ahs:=if t=1 then[105,110,116]else if t=2 then[115,116,114] else[98,111,111,108]
def adu(x:Param):ahs:=(x.Name++[58,32])++If x.hU
def adv(l:List Param):ahs:=Lib.join (l.map adu) [44,32]
def adw(p:bh):ahs:=l3 0 [[112,114,111,99,32],p.Name,[40],adv p.Params,[41,32,123]]++(wL p.Body 1++l3 0 [[125]])
def agD(n:Nat)(t:Int):yG n t=some (If t):=by
 unfold yG If;by_cases ab:t=1
 ·simp [ab]
 ·by_cases ah:t=2
  ·simp [ah]
  ·simp [ab,ah]
open Go Go.Ab Go.Proofs
section
variable {l:List Token}
end
open Go Go.Ab Go.Proofs
def p6(u:Nat):ahs:=if u<128 then[UInt8.ofNat u]else UInt8.ofNat (u % 128+128)::p6 (u / 128)
termination_by u
decreasing_by omega
def fold(n:Int):Nat:=if n<0 then(2*(-(n+1))+1).toNat else(2*n).toNat
def gL(x:Int):Prop := -9223372036854775808≤x∧x≤9223372036854775807
def rW(n:Int):ahs:=p6 (fold n)
def o5(s:ahs):ahs:=p6 s.length++s
open Go Go.Ab Go.Proofs
def adx(n:Nat)(s:ahs)(hs:s.length≤9223372036854775807):∀m i,s.length<i+m→i≤s.length→tf n s m (i:Int)=some ((s.drop i).all okB):=by
 intro m;induction m with
 |zero=>intro i h ah;omega
 |succ m bD=>
  intro i hm hi;simp only [tf,GS,GR];by_cases h:i<s.length
  ·rw [o3 s i 0 h,iB (by omega),bD (i+1) (by omega) (by omega)]
   simp only [h,gF h,ahj,ahk,ahb,ahd,fO,ahp,List.all_cons,H2,mL,ki,TX];cases okB (s.getD i 0)<;>simp
  ·rw [tD s i h];simp [h]
def ady{n:Nat}(s:ahs)(h:s.length<n)(hs:s.length≤9223372036854775807):GT n s=some (s.all okB):=by
 have:=adx n s hs n 0 (by omega) (by omega)
 rw [List.drop_zero]at this;exact this
open Go Go.Ab Go.Proofs
open Go Go.Ab Go.Proofs
open Go Go.Ab Go.Proofs
open Go Go.Ab Go.Proofs
open Go Go.Ab Go.Proofs
def adz{β:Type}{L:Nat→Int→Option β}{len:Nat}{chk:Nat→Bool}{no yes:β}
 (step:∀m i,i<len→L (m+1) (i:Int)=if chk i then L m ((i+1:Nat):Int)else some no) (stop:∀m,L (m+1) (len:Int)=some yes):
 ∀m i,len<i+m→i≤len→L m (i:Int)=some (if(List.range' i (len-i)).all chk then yes else no):=by
 intro m;induction m with
 |zero=>intro i h ah;omega
 |succ m bD=>
  intro i h ah;by_cases hi:i<len
  ·rw [step m i hi,bD (i+1) (by omega) (by omega),show len-i=(len-(i+1))+1 by omega,List.range'_succ,List.all_cons]
   cases chk i
   ·rfl
   ·rw [if_pos rfl,Bool.true_and]
  ·obtain rfl:i=len:=by omega
   rw [stop m];simp
def Ig{β:Type}{L:Nat→Int→Option β}{len:Nat}{chk:Nat→Bool}{no yes:β}{m:Nat}(hm:len<m)
 (step:∀m i,i<len→L (m+1) (i:Int)=if chk i then L m ((i+1:Nat):Int)else some no) (stop:∀m,L (m+1) (len:Int)=some yes):
 L m 0=some (if(List.range len).all chk then yes else no):=by
 have:=adz step stop m 0 (by omega) (by omega)
 rwa [Nat.sub_zero,←List.range_eq_range']at this
def l4(c:UInt8):Bool:=decide (97≤c.toNat∧c.toNat≤122)||decide (48≤c.toNat∧c.toNat≤57)||decide (c.toNat=47)||decide (c.toNat=46)||decide (c.toNat=95)||decide (c.toNat=45)
def ih(k:ahs):Bool:=decide (1≤k.length)&&decide (k.length≤24)&&(List.range k.length).all λi=>l4 (k.getD i 0)
def adA{n:Nat}{s:ahs}(h:24<n):yz n s=some (decide (s.length≤24)&&(List.range s.length).all λi=>l4 (s.getD i 0)):=by
 unfold yz;by_cases ag:s.length≤24
 ·simp only [mL,show¬ 24<s.length by omega,ahc,ahe,ag,ahb,Bool.true_and]
  rw [Ig (L:=sU n s) (len:=s.length) (chk:=λi=>l4 (s.getD i 0)) (no:=false) (yes:=true) (by omega)]
  ·cases (List.range s.length).all λi=>l4 (s.getD i 0)<;>rfl
  ·intro m i hi;simp only [sU,yy,CW,ahk,hi,ahb,ahd,gF hi,fO,eG,ahj,rR (show i≤4611686018427387904 by omega),Aa,z_,rS,ki,og]
   have:(((((decide (97≤(s.getD i 0).toNat)&&decide ((s.getD i 0).toNat≤122)||(decide (48≤(s.getD i 0).toNat)&&decide ((s.getD i 0).toNat≤57)))||decide ((s.getD i 0).toNat=47))||decide ((s.getD i 0).toNat=46))||decide ((s.getD i 0).toNat=95))||decide ((s.getD i 0).toNat=45))=l4 (s.getD i 0):=by
    simp [l4,Bool.decide_and]
   rw [this];cases l4 (s.getD i 0)<;>rfl
  ·intro m;simp only [sU,yy,CX,aho,ahc,ahe]
 ·simp only [mL,show 24<s.length by omega,ahb,ahd,ag,ahc,Bool.false_and]
def adB{n:Nat}{k:ahs}(h:24<n):rc n k=some (ih k):=by
 unfold rc ih;rw [adA h];cases k with
 |nil=>rfl
 |cons c l=>simp [eG]
def adC(c:Nat):(((((decide (c<97)||decide (122<c))&&(decide (c<48)||decide (57<c))) && !decide (c=47)) && !decide (c=46)) && !decide (c=95) && !decide (c=45)) = !(decide (97≤c∧c≤122)||decide (48≤c∧c≤57)||decide (c=47)||decide (c=46)||decide (c=95)||decide (c=45)):=by
 rw [Bool.eq_iff_iff];simp only [Bool.and_eq_true,Bool.or_eq_true,decide_eq_true_eq,Bool.not_eq_true',Bool.or_eq_false_iff,decide_eq_false_iff_not];omega
def adD{n:Nat}{k:ahs}(h:k.length<n)(hk:k.length≤9223372036854775807):rC n k=some (ih k):=by
 unfold rC;rw [Ig (L:=s' n k) (len:=k.length) (chk:=λi=>l4 (k.getD i 0)) (no:=false) (yes:=decide (1≤k.length)&&decide (k.length≤24)) h]
 ·unfold ih;cases (List.range k.length).all λi=>l4 (k.getD i 0)<;>simp
 ·intro m i hi;simp only [s',zf,ahk,hi,ahb,ahd,gF hi,fO,ahj,iB (show i≤9223372036854775806 by omega),H2,mL,rS,ki,og]
  have:=adC (k.getD i 0).toNat
  rw [show(decide (97≤(k.getD i 0).toNat∧(k.getD i 0).toNat≤122)||decide (48≤(k.getD i 0).toNat∧(k.getD i 0).toNat≤57)||decide ((k.getD i 0).toNat=47)||decide ((k.getD i 0).toNat=46)||decide ((k.getD i 0).toNat=95)||decide ((k.getD i 0).toNat=45))=l4 (k.getD i 0)from rfl]at this
  rw [this];cases l4 (k.getD i 0)<;>rfl
 ·intro m;simp only [s',zf,FK,aho,ahc,ahe,Aa,z_,og]
open Go Go.Ab Go.Proofs
def Un(n:Nat)(s:ahs):∀m,u7 n s m=sY n s m
 | 0=>rfl
 |m+1=>by
  show C2 n s (u7 n s m)=_
  rw [Un n s m];rfl
def adE{n:Nat}{s:ahs}(h:s.length<n)(hs:s.length≤9223372036854775807):u9 n s=some (mM s):=by
 unfold u9;rw [Un];exact acK h hs
def Uo(n:Nat)(s:ahs):∀m,vH n s m=tf n s m
 | 0=>rfl
 |m+1=>by
  show FJ n s (vH n s m)=_
  rw [Uo n s m];rfl
def adF{n:Nat}{s:ahs}(h:s.length<n)(hs:s.length≤9223372036854775807):ze n s=some (mM s):=by
 unfold ze mM;by_cases ag:s.length≤64
 ·simp only [mL,show¬ 64<s.length by omega,ahc,ahe,ag,ahb,Bool.and_true]
  rw [Uo];exact ady s h hs
 ·simp only [mL,show 64<s.length by omega,ahb,ahd,ag,ahc,Bool.and_false]
def l5(v:bv):Bool:=if v.Kind=0 then decide (v.N=0)&&decide (v.S=[])else if v.Kind=1 then decide (v.S=[])else decide (v.Kind=2)&&decide (v.N=0)&&mM v.S
def adG{n:Nat}{v:bv}(h:v.S.length<n)(hs:v.S.length≤9223372036854775807):pK n v=some (l5 v):=by
 unfold pK l5;by_cases h0:v.Kind=0
 ·simp [h0]
 ·by_cases ab:v.Kind=1
  ·simp [ab]
  ·by_cases ah:v.Kind=2
   ·by_cases ay:v.N=0
    ·simp [ah,ay,adE h hs]
    ·simp [ah,ay]
   ·simp [h0,ab,ah]
def adH{n:Nat}{v:bv}(h:v.S.length<n)(hs:v.S.length≤9223372036854775807):pT n v=some (l5 v):=by
 unfold pT l5;by_cases h0:v.Kind=0
 ·by_cases ay:v.N=0<;>simp [h0,ay]
 ·by_cases ab:v.Kind=1
  ·simp [ab]
  ·by_cases ah:v.Kind=2
   ·by_cases ay:v.N=0
    ·simp [ah,ay,adF h hs]
    ·simp [ah,ay]
   ·simp [h0,ab,ah]
def b6(v:bv):ahs:=if v.Kind=1 then p6 1++rW v.N else if v.Kind=2 then p6 2++o5 v.S else p6 0
open Go Go.Ab Go.Proofs
open Go Go.Ab Go.Proofs
def jG:List Token→Nat
 |[]=>0
 |t::l=>(spell t).length+jG l
def Up:∀l m:List Token,jG (l++m)=jG l+jG m
 |[],m=>by simp [jG]
 |t::l,m=>by simp only [List.cons_append,jG,Up l m];omega
def cp(l:List Token)(i:Nat):Nat:=jG (l.take i)
def hh{α β:Type}(Q:α→β→Prop)(p:Option (aQ α β)):Prop:=∀a z,p=some (.ret a z)→Q a z
def hh.ret{α β:Type}{Q:α→β→Prop}{a:α}{z:β}(h:Q a z):hh Q (some (.ret a z)):=λdr Uq e=>by cases e;exact h
def hh.bb{α β:Type}{Q:α→β→Prop}{x:V}{z:β}:hh Q (some (.bb x z)):=λdr Uq e=>by cases e
def hh.none{α β:Type}{Q:α→β→Prop}:hh Q none:=λdr Uq e=>by cases e
def hh.bind{α β dj gd:Type}{Q:α→β→Prop}{R:dj→gd→Prop}{p:Option (aQ α β)}{f:α→β→Option (aQ dj gd)}{h:V→β→Option (aQ dj gd)}(hp:hh Q p)(b2:∀a z,Q a z→hh R (f a z))(bu:∀x z,hh R (h x z)):
 hh R (Option.bind p λr=>aQ.on r f h):=by
 match p,hp with
 |.none,_=>exact .none
 |some (.ret a z),hp=>exact b2 a z (hp a z rfl)
 |some (.bb x z),_=>exact bu x z
def hh.bif{dj gd:Type}{R:dj→gd→Prop}{c:Bool}{p q:Option (aQ dj gd)}(ab:c=true→hh R p)(ah:c=false→hh R q):hh R (bif c then p else q):=by cases c;exact ah rfl;exact ab rfl
def hh.av{dj gd:Type}{R:dj→gd→Prop}{c:Bool}{p:Option (aQ dj gd)}(ab:hh R p):hh R (Go.Ab.av c p):=by cases c;exact .none;exact ab
section
variable {l:List Token}
theorem Ur(e:Expr)(k:Nat):jG (wJ e k)=jG (Um e)+if jF e.Op<k then 2 else 0:=by
 unfold wJ li;split
 ·have ab:(spell (gG [40])).length=1:=rfl;have ah:(spell (gG [41])).length=1:=rfl;have ay:jG (Um e)=jG (kj (f_ e)):=rfl;simp only [kj,H8,jG,Up,ab,ah,ay];omega
 ·rfl
theorem adI(e:Expr){j k:Nat}(h:j≤k):jG (wJ e j)≤jG (wJ e k):=by
 rw [Ur,Ur];split<;>split<;>omega
def Ih(l:List Token)(i iS:Nat)(e:Expr)(z:Int):Prop:=∃k:Nat,z=(k:Int)∧i≤k∧k≤l.length∧Ah e∧cp l i+jG (wJ e iS)≤cp l k
theorem Ih.mono{i j iS Us:Nat}{e:Expr}{z:Int}(h:Ih l j iS e z)(hi:i≤j)(hp:cp l i≤cp l j)(nN:Us≤iS):Ih l i Us e z:=by
 obtain⟨k,ab,ah,ay,bl,bQ⟩:=h;have:=adI e nN
 exact⟨k,ab,by omega,ay,bl,by omega⟩
end
open Go Go.Ab Go.Proofs
section
variable {l:List Token}
end
open Go Go.Ab Go.Proofs
section
variable {l:List Token}
end
open Go Go.Ab Go.Proofs
section
variable {l:List Token}
end
open Go Go.Ab Go.Proofs
section
variable {l:List Token}
end
open Go Go.Ab Go.Proofs
abbrev kl(α:Type):=ahs→Except Int (α×ahs)
structure ji{α:Type}(D:kl α)(E:α→ahs)(ok:α→Prop):Prop where
 rt:∀v t,ok v→D (E v++t) = .ok (v,t)
 kI:∀x v t,D x = .ok (v,t)→x=E v++t∧ok v
 hQ:∀x e,D x = .error e→e≠0
def Al{α β:Type}(D:kl α)(k:α→kl β):kl (α×β):=λx=>match D x with
 |.ok (v,t)=>match k v t with
  |.ok (w,u)=>.ok ((v,w),u)
  |.error e=>.error e
 |.error e=>.error e
def ji.dep{α β:Type}{D:kl α}{E:α→ahs}{ok:α→Prop}{k:α→kl β}{dD:α→β→ahs}{Ut:α→β→Prop}(h:ji D E ok)(ah:∀a,ok a→ji (k a) (dD a) (Ut a)):
 ji (Al D k) (λp=>E p.1++dD p.1 p.2) (λp=>ok p.1∧Ut p.1 p.2) where
 rt:=fun⟨v,w⟩ t ⟨ay,bl⟩=>by simp only [Al,List.append_assoc,h.rt v _ ay,(ah v ay).rt w t bl]
 kI:=
  λx ⟨v,w⟩ t hx=>by
  unfold Al at hx;split at hx
  ·rename_i v0 t0 hd;obtain⟨ay,bl⟩:=h.kI _ _ _ hd;split at hx
   ·rename_i wM JH hk;obtain⟨bQ,df⟩:=(ah v0 bl).kI _ _ _ hk;cases hx;exact⟨by rw [ay,bQ,List.append_assoc],bl,df⟩
   ·cases hx
  ·cases hx
 hQ:=
  λx e hx=>by
  unfold Al at hx;split at hx
  ·rename_i v0 t0 hd;split at hx
   ·cases hx
   ·rename_i bI hk;cases hx;exact(ah v0 (h.kI _ _ _ hd).2).hQ _ _ hk
  ·rename_i bI hd;cases hx;exact h.hQ _ _ hd
def Am{α β:Type}(f:α→β)(D:kl α):kl β:=λx=>match D x with
 |.ok (v,t)=>.ok (f v,t)
 |.error e=>.error e
def ji.map{α β:Type}{D:kl α}{E:α→ahs}{ok:α→Prop}(h:ji D E ok)(f:α→β)(g:β→α)(tJ:β→Prop)(cW:β→ahs)(ab:∀b,tJ b→f (g b)=b∧ok (g b)∧cW b=E (g b))(ah:∀a,ok a→g (f a)=a∧tJ (f a)):
 ji (Am f D) cW tJ where
 rt:=λv t az=>by
  obtain⟨ay,bl,bQ⟩:=ab v az;simp only [Am,bQ,h.rt _ t bl,ay]
 kI:=λx v t hx=>by
  unfold Am at hx;split at hx
  ·rename_i v0 t0 hd;cases hx;obtain⟨ay,bl⟩:=h.kI _ _ _ hd;obtain⟨bQ,df⟩:=ah _ bl;obtain⟨_,_,fK⟩:=ab _ df;exact⟨by rw [fK,bQ,ay],df⟩
  ·cases hx
 hQ:=λx e hx=>by
  unfold Am at hx;split at hx
  ·cases hx
  ·rename_i bI hd;cases hx;exact h.hQ _ _ hd
def An{α:Type}(p:α→Bool)(e:Int)(D:kl α):kl α:=λx=>match D x with
 |.ok (v,t)=>if p v then .ok (v,t)else .error e
 |.error f=>.error f
def ji.chk{α:Type}{D:kl α}{E:α→ahs}{ok:α→Prop}(h:ji D E ok)(p:α→Bool)(e:Int)(he:e≠0):ji (An p e D) E (λv=>ok v∧p v=true) where
 rt:=λv t ⟨ab,ah⟩=>by simp only [An,h.rt v t ab,ah,ahq]
 kI:=
  λx v t hx=>by
  unfold An at hx;split at hx
  ·rename_i v0 t0 hd;split at hx
   ·rename_i hp;cases hx;exact⟨(h.kI _ _ _ hd).1,(h.kI _ _ _ hd).2,hp⟩
   ·cases hx
  ·cases hx
 hQ:=λx f hx=>by
  unfold An at hx;split at hx
  ·split at hx
   ·cases hx
   ·cases hx;exact he
  ·rename_i bI hd;cases hx;exact h.hQ _ _ hd
def tK{α:Type}(E:α→ahs)(l:List α):ahs:=(l.map E).flatten
def Uu{α:Type}(E:α→ahs)(v:α)(l:List α):tK E (v::l)=E v++tK E l:=rfl
def wN{α:Type}(D:kl α):Nat→kl (List α)
 | 0,x=>.ok ([],x)
 |n+1,x=>match D x with
  |.ok (v,t)=>match wN D n t with
   |.ok (l,u)=>.ok (v::l,u)
   |.error e=>.error e
  |.error e=>.error e
def ji.rep{α:Type}{D:kl α}{E:α→ahs}{ok:α→Prop}(h:ji D E ok):∀n,ji (wN D n) (tK E) (λl=>l.length=n∧∀v∈l,ok v)
 | 0=>{
  rt:=λv t ⟨ab,_⟩=>by
   obtain rfl:=List.eq_nil_of_length_eq_zero ab;rfl
  kI:=λx v t hx=>by cases hx;exact⟨rfl,rfl,λv az=>by cases az⟩
  hQ:=λx e hx=>by cases hx}
 |n+1=>{
  rt:=λv t ⟨ab,ah⟩=>by
   cases v with
   |nil=>simp at ab
   |cons a l=>
    have ay:=h.rt a (tK E l++t) (ah a (by simp))
    have bl:=(ji.rep h n).rt l t ⟨by simpa using ab,λv az=>ah v (by simp [az])⟩
    simp only [wN,Uu,List.append_assoc,ay,bl]
  kI:=
   λx v t hx=>by
   unfold wN at hx;split at hx
   ·rename_i v0 t0 hd;split at hx
    ·rename_i l0 JH hk;cases hx;obtain⟨ay,bl⟩:=h.kI _ _ _ hd;obtain⟨bQ,df,fK⟩:=(ji.rep h n).kI _ _ _ hk;refine⟨by rw [ay,bQ,Uu,List.append_assoc],by simp [df],λv az=>?_⟩
     rcases List.mem_cons.1 az with rfl|az
     ·exact bl
     ·exact fK v az
    ·cases hx
   ·cases hx
  hQ:=λx e hx=>by
   unfold wN at hx;split at hx
   ·split at hx
    ·cases hx
    ·rename_i bI hk;cases hx;exact(ji.rep h n).hQ _ _ hk
   ·rename_i bI hd;cases hx;exact h.hQ _ _ hd}
def p7(z:Int):Prop:=0≤z∧z<18446744073709551616
def rX(z:Int):ahs:=p6 z.toNat
def oj{α:Type}(E:α→ahs)(l:List α):ahs:=p6 l.length++tK E l
def adJ(b:Bool):ahs:=if b then[1] else[0]
open Go Go.Ab Go.Proofs
def ji.as{α:Type}{D:kl α}{E:α→ahs}{ok:α→Prop}(h:ji D E ok)(cW:α→ahs)(tJ:α→Prop)(ab:∀v,tJ v↔ok v)(ah:∀v,ok v→cW v=E v):ji D cW tJ where
 rt:=λv t az=>by rw [ah v ((ab v).1 az)];exact h.rt v t ((ab v).1 az)
 kI:=λx v t hx=>by
  obtain⟨ay,bl⟩:=h.kI x v t hx;exact⟨by rw [ah v bl];exact ay,(ab v).2 bl⟩
 hQ:=h.hQ
def Ao(v:bv):Prop:=l5 v=true∧gL v.N
def adK{s:ahs}(h:mM s=true):s.length≤64:=by
 unfold mM at h;simp only [Bool.and_eq_true,decide_eq_true_eq]at h;exact h.2
def adL{v:bv}(h:l5 v=true):v=⟨0,0,[]⟩∨(v.Kind=1∧v.S=[])∨(v.Kind=2∧v.N=0∧mM v.S=true):=by
 obtain⟨k,n,s⟩:=v;unfold l5 at h;simp only at h ⊢
 split at h
 ·rename_i h0;simp only [Bool.and_eq_true,decide_eq_true_eq]at h;obtain⟨rfl,rfl⟩:=h;exact .inl (by rw [h0])
 ·split at h
  ·rename_i ab;exact .inr (.inl ⟨ab,by simpa using h⟩)
  ·simp only [Bool.and_eq_true,decide_eq_true_eq]at h;exact .inr (.inr ⟨h.1.1,h.1.2,h.2⟩)
open Go Go.Ab Go.Proofs
def res{α:Type}(z:α)(s:ahs):Except Int (α×ahs)→α×Int×Int
 |.ok (v,t)=>(v,((s.length-t.length:Nat):Int),0)
 |.error e=>(z,0,e)
def Uv{i:Nat}(h:i≤9223372036854775807):ahu (i:Int)=(i:Int):=by rw [wr]<;>omega
open Go Go.Ab Go.Proofs
open Go Go.Ab Go.Proofs
def Ii:∀a b:ahs,(!Op.bytesLess a b)=(Op.bytesLess b a||decide (b=a))
 |[],[]=>rfl
 |[],b::y=>rfl
 |a::x,[]=>rfl
 |a::x,b::y=>by
  simp only [Op.bytesLess,Ii x y,Bool.not_or,Bool.not_and];rcases Nat.lt_trichotomy a.toNat b.toNat with h|h|h
  ·have ab:a<b:=h;have ah:¬ b<a:=by show¬ b.toNat<a.toNat;omega
   have ay:a≠b:=by intro e;subst e;omega
   simp [ab,ah,Ne.symm ay]
  ·obtain rfl:a=b:=UInt8.toNat_inj.1 h;simp
  ·have ab:b<a:=h;have ah:¬ a<b:=by show¬ a.toNat<b.toNat;omega
   have ay:a≠b:=by intro e;subst e;omega
   simp [ab,ah,ay]
def Uw:∀a b c:ahs,Op.bytesLess a b=true→Op.bytesLess b c=true→Op.bytesLess a c=true
 |_,[],_,h,_=>by simp [Op.bytesLess]at h
 |_,b::y,[],_,h=>by simp [Op.bytesLess]at h
 |[],b::y,c::z,_,_=>rfl
 |a::x,b::y,c::z,ab,ah=>by
  simp only [Op.bytesLess,Bool.or_eq_true,Bool.and_eq_true,decide_eq_true_eq,beq_iff_eq]at ab ah ⊢;rcases ab with ab|⟨rfl,ab⟩
  ·rcases ah with ah|⟨rfl,ah⟩
   ·left;show a.toNat<c.toNat;have ay:a.toNat<b.toNat:=ab;have bl:b.toNat<c.toNat:=ah;omega
   ·exact .inl ab
  ·rcases ah with ah|⟨rfl,ah⟩
   ·exact .inl ah
   ·exact .inr ⟨rfl,Uw x y z ab ah⟩
open Go Go.Ab Go.Proofs
def Ij{β:Type}{c k:Bool}{x y:β}(h:c = !k):(bif c then x else y)=if k then y else x:=by subst h;cases k<;>rfl
def Ap{i len:Nat}{b:Bool}(hi:i<len)(ag:len≤9223372036854775807):(b||(!(decide (0<(i:Int)))||aV (ahu ((i:Int)-1)) len))=true:=by
 cases i with
 |zero=>simp
 |succ i=>
  rw [show((i+1:Nat):Int)-1=(i:Int)by omega,Uv (by omega),gF (by omega)];simp
def adM{i len:Nat}{b c:Bool}(hi:i<len):(b||(c||aV (i:Int) len))=true:=by rw [gF hi];simp
def allI(len:Nat)(chk:Nat→Bool):Bool:=(List.range len).all chk
def rY{len:Nat}{chk:Nat→Bool}:allI len chk=true↔∀i,i<len→chk i=true:=by
 unfold allI;simp
def tL(b:Bool):(if b then true else false)=b:=by cases b<;>rfl
def tM{β:Type}{L:Nat→Int→Option β}{len:Nat}{chk:Nat→Bool}{no yes:β}{m:Nat}(hm:len<m)
 (step:∀m i,i<len→L (m+1) (i:Int)=if chk i then L m ((i+1:Nat):Int)else some no) (stop:∀m,L (m+1) (len:Int)=some yes):
 L m 0=some (if allI len chk then yes else no):=Ig hm step stop
abbrev pv(i:Nat):Nat:=(ahu ((i:Int)-1)).toNat
def Ux(i:Nat)(h:i≤9223372036854775807):pv (i+1)=i:=by
 unfold pv;(rw [show((i+1:Nat):Int)-1=(i:Int)by omega,Uv (by omega)];simp only [ahj])
section
variable {n:Nat} (hn:2000≤n) (cw:n≤9223372036854775808)
include hn cw
def adN(l:List aJ):Bool:=allI l.length λi=>ih (l.getD i default).Key&&l5 (l.getD i default).bk&&(!decide (0<(i:Int))||Op.bytesLess (l.getD (pv i) default).Key (l.getD i default).Key)
def adO(l:List aJ):Bool:=adN l&&allI l.length λi=>!decide ((l.getD i default).bk.Kind=0)
def adP(l:List bf):Bool:=(allI l.length λi=>ih (l.getD i default).Key && !decide ((l.getD i default).Count<1) && !decide (1099511627776<(l.getD i default).Count)&&(!decide (0<(i:Int))||Op.bytesLess (l.getD (pv i) default).Key (l.getD i default).Key))&&decide (((l.length:Nat):Int)≤32)
def Uy(l:List ahs):Bool:=(allI l.length λi=>ih (l.getD i default)&&(!decide (0<(i:Int))||Op.bytesLess (l.getD (pv i) default) (l.getD i default)))
def adQ(f:fV):Bool:=bif f.eX then decide (f.Reads.length=0)&&decide (f.dB.length=0) else(Uy f.Reads&&decide (f.Reads.length≤64))&&(Uy f.dB&&decide (f.dB.length≤64))
end
open Go Go.Ab Go.Proofs
def Uz(c b:Bool):(bif c then some b else some default)=some (c&&b):=by cases c<;>rfl
section
variable {n:Nat} (hn:2000≤n) (cw:n≤9223372036854775808)
include hn cw
def UA(l:List bv):Bool:=allI l.length λi=>l5 (l.getD i default) && !decide ((l.getD i default).Kind=0)
def UB(r:Request):Int:=
 bif (((decide (r.Client<1)||decide (32<r.Client))||decide (r.Seq<1))||decide (1099511627776<r.Seq))then 1 else
 bif !nq r.bh then 7 else
 bif decide (6<r.aA.length)then 2 else
 bif !UA r.aA then 1 else
 bif ((!adQ r.b9||r.b9.eX)||(!r.fM&&decide (0<r.b9.Reads.length+r.b9.dB.length)))then 1 else 0
structure wO(n:Nat)(r:Request):Prop where
 proc:r.bh.length≤1000
 args:r.aA.length<n
 vals:∀i,(r.aA.getD i default).S.length<n
 agE:r.b9.Reads.length<n
 agF:r.b9.dB.length<n
 wP:r.b9.Reads.length≤1000000
 wl:r.b9.dB.length≤1000000
 rd:∀i,(r.b9.Reads.getD i default).length<n
 wr:∀i,(r.b9.dB.getD i default).length<n
def wQ(c:UInt8):Bool:=!(decide (c.toNat<33)||decide (126<c.toNat))
def km(s:ahs):Bool:=(allI s.length λi=>wQ (s.getD i 0))&&decide (s.length≤24)
def UC(n:Int):Bool:=decide (1≤n)&&decide (n≤16)
def adR(n:Int):Bool:=decide (1≤n)&&decide (n≤1099511627776)
def adS(l:List Part)(i:Nat):Bool:=
 let x:=l.getD i default
 bif decide (x.gO=0)then decide (x.cY=[]) else((((UC x.gO && !decide (x.gO=x.Node))&&km x.cY) && !Op.bytesLess x.cY x.ez)&&(decide (i+1=l.length)||Op.bytesLess x.cY (l.getD (i+1) default).ez))
def adT(l:List Part)(i:Nat):Bool:=
 let x:=l.getD i default
 (!decide (0<(i:Int))||(km x.ez&&Op.bytesLess (l.getD (pv i) default).ez x.ez))&&(((adR x.Id&&UC x.Node)&&adS l i)&&allI i λk=>!decide ((l.getD k default).Id=x.Id))
def UD(p:cd):Bool:=!((((decide (p.Version<0)||decide (1099511627776<p.Version))||decide (p.a'.length<1))||decide (16<p.a'.length)) || !decide ((p.a'.getD 0 default).ez=[]))&&allI p.a'.length (adT p.a')
def wR(n:Nat)(x:Part):Prop:=x.ez.length<n∧x.cY.length<n
end
open Go Go.Ab Go.Proofs
section
variable {n:Nat} (hn:2000≤n) (cw:n≤9223372036854775808)
include hn cw
def adU(o:Outcome):Bool:=bif decide (o.Status=1) then(decide (o.Code=0)&&decide (o.Out.length≤16))&&UA o.Out else((decide (o.Status=2)&&decide (0≤o.Code))&&decide (o.Code≤1009))&&decide (o.Out.length=0)
structure Aq(n:Nat)(o:Outcome):Prop where
 out:o.Out.length<n
 vals:∀i,(o.Out.getD i default).S.length<n
def p8(ff:Int):Int:=bif (decide ((ahu (ff-1))<8)) then(ahu (ff-1))else 8
def adV(s:bO):Bool:=((decide (s.Client<1)||decide (32<s.Client))||decide (s.Next<1))||decide (1099511627776<s.Next)
def adW(s:bO)(i:Nat):Bool:=(decide ((s.dl.getD i default).Client=s.Client)&&decide ((s.dl.getD i default).Seq=s.Next-(s.dl.length:Int)+(i:Int)))&&adU (s.dl.getD i default).Outcome
def adX(s:bO):Bool:=(!adV s&&decide ((s.dl.length:Int)=p8 s.Next))&&allI s.dl.length (adW s)
structure wS(n:Nat)(s:bO):Prop where
 rep:s.dl.length<n
 out:∀i,Aq n (s.dl.getD i default).Outcome
def UE(l:List bO):Bool:=allI l.length λi=>adX (l.getD i default)&&(!decide (0<(i:Int)) || !decide ((l.getD i default).Client≤(l.getD (pv i) default).Client))
end
open Go Go.Ab Go.Proofs
def UF{β:Type}{c d k:Bool}{x y:β}(h:k=(!c && !d)):(bif c then x else(bif d then x else y))=if k then y else x:=by subst h;cases c<;>cases d<;>rfl
def tN{m k:Nat}(h:m*k≤140737488355328):room m k=true:=by simp [room];exact h
def wT{α:Type}[Inhabited α]{l:List α}{i:Nat}(h:i<l.length):l.getD i default∈l:=by
 rw [List.getD_eq_getElem?_getD,List.getElem?_eq_getElem h];exact List.getElem_mem h
section
variable {n:Nat} (hn:2000≤n) (cw:n≤9223372036854775808)
include hn cw
def Ik(a b:bv):Bool:=decide (a.Kind=b.Kind)&&(decide (a.N=b.N)&&(decide (a.S=b.S)&&true))
def rZ(r:Row)(floor last:Int)(i:Nat):Bool:=
 ((!decide ((r.bd.getD i default).b4<floor) && !decide (last<(r.bd.getD i default).b4))&&l5 (r.bd.getD i default).bk) &&
 !(decide (0<(i:Int))&&(decide ((r.bd.getD i default).b4≤(r.bd.getD (pv i) default).b4)||Ik (r.bd.getD i default).bk (r.bd.getD (pv i) default).bk))
def l6(r:Row)(floor last:Int):Bool:=!(decide (r.bd.length=0)||decide ((r.bd.getD 0 default).bk.Kind=0))&&allI r.bd.length (rZ r floor last)
structure wU(n:Nat)(r:Row):Prop where
 key:r.Key.length<n
 Ar:r.bd.length<n
 val:∀i,(r.bd.getD i default).bk.S.length<n
omit hn cw in
theorem UG{i len:Nat}{b:Bool}(hi:i<len)(ag:len≤9223372036854775807):(!(decide (0<(i:Int)))||(b||aV (ahu ((i:Int)-1)) len))=true:=by
 have:=Ap (b:=b) hi ag
 rw [←this];cases decide (0<(i:Int))<;>cases b<;>simp
omit hn cw in
theorem UH{i len:Nat}(hi:i<len)(ag:len≤9223372036854775807):(!(decide (0<(i:Int)))||aV (ahu ((i:Int)-1)) len)=true:=by
 have:=Ap (b:=false) hi ag
 rw [Bool.false_or]at this;exact this
omit hn cw in
theorem UI{l:Nat}:(decide (l=0)||aV 0 l)=true:=by
 by_cases h:l=0
 ·rw [decide_eq_true h];rfl
 ·rw [acI (by omega)];simp
theorem adY{r:Row}(h:wU n r)(floor last:Int):yC n r floor last=some (l6 r floor last):=by
 have ab:=h.Ar;unfold yC l6;rw [tM (L:=sV n floor last r) (chk:=rZ r floor last) (no:=false) (yes:=true) ab,tL]
 ·simp only [rS,UI,fO,ki];cases decide (r.bd.length=0)||decide ((r.bd.getD 0 default).bk.Kind=0)<;>rfl
 ·intro m i hi;have ah:=h.val i;simp only [sV,yB,ahk,hi,ahb,ahd,gF hi,fO,ahj,iB (show i≤9223372036854775806 by omega),UG hi (show r.bd.length≤9223372036854775807 by omega),UH hi (show r.bd.length≤9223372036854775807 by omega)]
  rw [show pK n (⟨((r.bd.getD i default).bk).Kind,((r.bd.getD i default).bk).N,((r.bd.getD i default).bk).S⟩:bv)=_ from adG (v:=(r.bd.getD i default).bk) (by omega) (by omega),Uz,eG]
  refine UF ?_;unfold rZ;simp only [Ik,ki,og,Bool.not_and,Bool.not_or,Bool.not_not];cases decide ((r.bd.getD i default).b4<floor)<;>cases decide (last<(r.bd.getD i default).b4)<;>cases l5 (r.bd.getD i default).bk<;>rfl
 ·intro m;simp only [sV,yB,C_,aho,ahc,ahe]
theorem adZ{r:Row}(h:wU n r)(floor last:Int):zi n r floor last=some (ih r.Key&&l6 r floor last):=by
 have ab:=h.Ar;have h0:=h.key;unfold zi l6;rw [adD (by omega) (by omega),eG]
 rw [tM (L:=s_ n floor last r) (chk:=rZ r floor last) (no:=false) (yes:=true) ab,tL]
 ·have g:∀b:Bool,(b||decide (r.bd.length=0)||aV 0 r.bd.length)=true:=λb=>by rw [Bool.or_assoc,UI];simp
  simp only [rS,ki,g,fO];cases ih r.Key<;>cases decide (r.bd.length=0)<;>cases decide ((r.bd.getD 0 default).bk.Kind=0)<;>rfl
 ·intro m i hi;have ah:=h.val i;simp only [s_,zh,FT,ahk,hi,ahb,ahd,gF hi,fO,ahj,iB (show i≤9223372036854775806 by omega),UG hi (show r.bd.length≤9223372036854775807 by omega),UH hi (show r.bd.length≤9223372036854775807 by omega)]
  rw [show pT n (⟨((r.bd.getD i default).bk).Kind,((r.bd.getD i default).bk).N,((r.bd.getD i default).bk).S⟩:bv)=_ from adH (v:=(r.bd.getD i default).bk) (by omega) (by omega),eG,eG]
  refine UF ?_;unfold rZ;simp only [Ik,ki,og,Bool.not_and,Bool.not_or,Bool.not_not];cases decide ((r.bd.getD i default).b4<floor)<;>cases decide (last<(r.bd.getD i default).b4)<;>cases l5 (r.bd.getD i default).bk<;>rfl
 ·intro m;simp only [s_,zh,FU,aho,ahc,ahe]
def ii(s:ar):Bool:=!((decide (s.bo<0)||decide (s.bm<s.bo))||decide (1099511627776<s.bm)) &&
 allI s.Rows.length λi=>(ih (s.Rows.getD i default).Key&&(!decide (0<(i:Int))||Op.bytesLess (s.Rows.getD (pv i) default).Key (s.Rows.getD i default).Key))&&l6 (s.Rows.getD i default) s.bo s.bm
structure p9(n:Nat)(s:ar):Prop where
 rows:s.Rows.length<n
 row:∀i,wU n (s.Rows.getD i default)
theorem UJ{s:ar}(h:p9 n s):sX n s=some (ii s):=by
 have ab:=h.rows;unfold sX ii;rw [tM (L:=sW n s) (chk:=λi=>(ih (s.Rows.getD i default).Key&&(!decide (0<(i:Int))||Op.bytesLess (s.Rows.getD (pv i) default).Key (s.Rows.getD i default).Key))&&l6 (s.Rows.getD i default) s.bo s.bm) (no:=false) (yes:=true) ab,tL]
 ·simp only [ki];cases (decide (s.bo<0)||decide (s.bm<s.bo))||decide (1099511627776<s.bm)<;>rfl
 ·intro m i hi;have ah:=(h.row i).key;simp only [sW,yD,ahk,hi,ahb,ahd,gF hi,fO,eG,ahj,iB (show i≤9223372036854775806 by omega),adB (show 24<n by omega),Ap hi (show s.Rows.length≤9223372036854775807 by omega),adY hn cw (h.row i),Uz,←Ii]
  refine Ij ?_;simp only [ki,og];cases ih (s.Rows.getD i default).Key<;>cases decide (0<(i:Int))<;>cases Op.bytesLess (s.Rows.getD (pv i) default).Key (s.Rows.getD i default).Key<;>rfl
 ·intro m;simp only [sW,yD,Da,aho,ahc,ahe]
theorem ad0{s:ar}(h:p9 n s):tb n s=some (ii s):=by
 have ab:=h.rows;unfold tb ii;rw [tM (L:=ta n s) (chk:=λi=>(ih (s.Rows.getD i default).Key&&(!decide (0<(i:Int))||Op.bytesLess (s.Rows.getD (pv i) default).Key (s.Rows.getD i default).Key))&&l6 (s.Rows.getD i default) s.bo s.bm) (no:=false) (yes:=true) ab,tL]
 ·simp only [ki];cases (decide (s.bo<0)||decide (s.bm<s.bo))||decide (1099511627776<s.bm)<;>rfl
 ·intro m i hi;simp only [ta,zj,ahk,hi,ahb,ahd,gF hi,fO,eG,ahj,iB (show i≤9223372036854775806 by omega),adZ hn cw (h.row i),adM hi,Ap hi (show s.Rows.length≤9223372036854775807 by omega),ahp]
  refine Ij ?_;simp only [ki,og];cases ih (s.Rows.getD i default).Key<;>cases decide (0<(i:Int))<;>cases Op.bytesLess (s.Rows.getD (pv i) default).Key (s.Rows.getD i default).Key<;>cases l6 (s.Rows.getD i default) s.bo s.bm<;>rfl
 ·intro m;simp only [ta,zj,FV,aho,ahc,ahe]
end
open Go Go.Ab Go.Proofs
def p'{α:Type}[Inhabited α]{P:α→Prop}{l:List α}(h:∀x∈l,P x)(h0:P default)(i:Nat):P (l.getD i default):=by
 by_cases hi:i<l.length
 ·exact h _ (wT hi)
 ·rw [List.getD_eq_getElem?_getD,List.getElem?_eq_none (by omega)];exact h0
def UK{v:bv}(h:Ao v):v.S.length≤64:=by
 rcases adL h.1 with h|h|h
 ·rw [h];simp
 ·rw [h.2];simp
 ·exact adK h.2.2
def ad1(p:aJ):ahs:=o5 p.Key++b6 p.bk
def ad2(p:aJ):Prop:=p.Key.length≤24∧Ao p.bk
section
variable {n:Nat} (hn:2000≤n) (cw:n≤9223372036854775808) {s:ahs} (hs:s.length<min n 1000000000)
include hn cw hs
end
open Go Go.Ab Go.Proofs
def ad3(x:Part):ahs:=rW x.Id++(o5 x.ez++(rW x.Node++(rW x.gO++o5 x.cY)))
def Il(x:Part):Prop:=gL x.Id∧x.ez.length≤24∧gL x.Node∧gL x.gO∧x.cY.length≤24
def ad4(p:cd):ahs:=rW p.Version++oj ad3 p.a'
def ad5{n:Nat}(hn:2000≤n){p:Part}(h:Il p):wR n p:=⟨by have:=h.2.1;omega,by have:=h.2.2.2.2;omega⟩
def ad6{n:Nat}(hn:2000≤n){l:List Part}(h:∀p∈l,Il p)(i:Nat):wR n (l.getD i default):=p' (P:=wR n) (λx hx=>ad5 hn (h x hx)) ⟨by show 0<n;omega,by show 0<n;omega⟩ i
section
variable {n:Nat} (hn:2000≤n) (cw:n≤9223372036854775808) {s:ahs} (hs:s.length<min n 1000000000)
include hn cw hs
end
open Go Go.Ab Go.Proofs
def ad7(o:Outcome):ahs:=rX o.Status++(rX o.Code++oj b6 o.Out)
def UL(o:Outcome):Prop:=(0≤o.Status∧o.Status≤9999)∧(0≤o.Code∧o.Code≤9999)∧o.Out.length≤16∧∀v∈o.Out,Ao v
def ad8(c ff k:Int)(l:List Outcome):List eV:=(l.zipIdx 0).map λp=>⟨c,ahu (ff-ahu (k-(p.2:Int))),p.1⟩
def ad9{ff:Int}(h:1≤ff∧ff≤1099511627776):0≤p8 ff∧p8 ff≤8∧p8 ff≤ff-1:=by
 unfold p8;rw [wr (x:=ff-1) (by omega) (by omega)]
 by_cases hR:ff-1<8
 ·rw [decide_eq_true hR,ahd];omega
 ·rw [decide_eq_false hR,ahe];omega
def ad'(s:bO):ahs:=rX s.Client++(rX s.Next++tK ad7 (s.dl.map (·.Outcome)))
def Im(s:bO):Prop:=(1≤s.Client∧s.Client≤32)∧(1≤s.Next∧s.Next≤1099511627776)∧s.dl=ad8 s.Client s.Next (p8 s.Next) (s.dl.map (·.Outcome))∧(s.dl.map (·.Outcome)).length=(p8 s.Next).toNat∧∀o∈s.dl.map (·.Outcome),UL o
def UM{n:Nat}(hn:2000≤n){o:Outcome}(h:UL o):Aq n o:=
 ⟨by have:=h.2.2.1;omega,λi=>p' (P:=λv:bv=>v.S.length<n) (λx hx=>by have:=UK (h.2.2.2 x hx);omega) (by show 0<n;omega) i⟩
def ad_{n:Nat}(hn:2000≤n){s:bO}(h:Im s):wS n s:=by
 have hk:=ad9 h.2.1;have ag:s.dl.length=(p8 s.Next).toNat:=by have:=h.2.2.2.1;simpa using this
 refine⟨by omega,λi=>p' (P:=λr:eV=>Aq n r.Outcome) (λx hx=>UM hn (h.2.2.2.2 _ (List.mem_map_of_mem hx))) ?_ i⟩
 refine UM hn ?_;refine⟨by show(0:Int)≤0∧(0:Int)≤9999;omega,by show(0:Int)≤0∧(0:Int)≤9999;omega,by show([]:List bv).length≤16;simp,λv az=>by cases az⟩
def In{n:Nat}(hn:2000≤n){l:List bO}(h:∀s∈l,Im s)(i:Nat):wS n (l.getD i default):=by
 refine p' (P:=wS n) (λx hx=>ad_ hn (h x hx)) ⟨by show([]:List eV).length<n;simp;omega,λi=>⟨?_,λi=>?_⟩⟩ i
 ·show((([]:List eV).getD i default).Outcome).Out.length<n
  show([]:List bv).length<n
  simp;omega
 ·show((((([]:List eV).getD _ default).Outcome).Out).getD i default).S.length<n
  show 0<n
  omega
section
variable {n:Nat} (hn:2000≤n) (cw:n≤9223372036854775808) {s:ahs} (hs:s.length<min n 1000000000)
include hn cw hs
end
open Go Go.Ab Go.Proofs
abbrev tO:=List ahs
def aea(b:Bool)(p:tO×tO):ahs:=if b then oj o5 p.1++oj o5 p.2 else[]
def UN(b:Bool)(p:tO×tO):Prop:=if b then(p.1.length≤64∧∀v∈p.1,v.length≤24)∧(p.2.length≤64∧∀v∈p.2,v.length≤24)else p=([],[])
def UO(r:Request):Prop:=p7 r.Client∧p7 r.Seq∧r.bh.length≤16∧(r.aA.length≤6∧∀v∈r.aA,Ao v)∧UN r.fM (r.b9.Reads,r.b9.dB)∧r.b9.eX=false
def aeb(r:Request):ahs:=rX r.Client++(rX r.Seq++(o5 r.bh++(oj b6 r.aA++(adJ r.fM++aea r.fM (r.b9.Reads,r.b9.dB)))))
def aec(r:Request):Bool:=(decide (r.Client≤32)&&decide (r.Seq≤1099511627776))&&decide (UB r=0)
def aed(h:bf):ahs:=o5 h.Key++rW h.Count
def aee{n:Nat}(hn:2000≤n){r:Request}(h:UO r):wO n r:=by
 have bQ:=h.2.2.2.2.1
 have hk:(r.b9.Reads.length≤64∧∀v∈r.b9.Reads,v.length≤24)∧(r.b9.dB.length≤64∧∀v∈r.b9.dB,v.length≤24):=by
  unfold UN at bQ;cases hd:r.fM
  ·rw [hd]at bQ;simp only [Bool.false_eq_true,ahr,Prod.mk.injEq]at bQ;rw [bQ.1,bQ.2];simp
  ·rw [hd]at bQ;exact bQ
 have hd:∀l:tO,(∀v∈l,v.length≤24)→∀i,(l.getD i default).length<n:=λl ag i=>p' (P:=λv:ahs=>v.length<n) (λx hx=>by have:=ag x hx;omega) (by show 0<n;omega) i
 exact⟨by have:=h.2.2.1;omega,by have:=h.2.2.2.1.1;omega,λi=>p' (P:=λv:bv=>v.S.length<n) (λx hx=>by have:=UK (h.2.2.2.1.2 x hx);omega) (by show 0<n;omega) i,by have:=hk.1.1;omega,by have:=hk.2.1;omega,by have:=hk.1.1;omega,by have:=hk.2.1;omega,hd _ hk.1.2,hd _ hk.2.2⟩
section
variable {n:Nat} (hn:2000≤n) (cw:n≤9223372036854775808) {s:ahs} (hs:s.length<min n 1000000000)
include hn cw hs
end
open Go Go.Ab Go.Proofs
section
variable {n:Nat} (hn:2000≤n) (cw:n≤9223372036854775808) {s:ahs} (hs:s.length<min n 1000000000)
include hn cw hs
end
open Go Go.Ab Go.Proofs
structure UP(p:bh):Prop where
 v:Ue p=0
 i:Ie p
 w:acV p≤125000
def Io(p:bh):ahs:=if Ue p=0 then adw p else[]
structure r0(p:bh):Prop where
 i:Ie p
 n:p.Name.length≤300000
 f:rU p.Params≤300000
 b:oi p.Body≤300000
def UP.fg{p:bh}(h:UP p):r0 p:=by
 have hw:p.Name.length+rU p.Params+oi p.Body≤125000:=h.w;exact⟨h.i,by omega,by omega,by omega⟩
open Go Go.Ab Go.Proofs
def aef(x:ar):(⟨x.bo,x.bm,x.Rows⟩:ar)=x:=rfl
def Ip(x:bS):(⟨x.Pos,(⟨x.ar.bo,x.ar.bm,x.ar.Rows⟩:ar),x.cj,x.cB,(⟨x.Place.Version,x.Place.a'⟩:cd),x.bf,x.Queue,x.cE⟩:bS)=x:=rfl
def aeg(l:List bh):Bool:=(allI l.length λi=>!(decide (Io (l.getD i default)=[])||decide (16384<(((Io (l.getD i default)).length:Nat):Int)))&&(!decide (0<(i:Int))||Op.bytesLess (l.getD (pv i) default).Name (l.getD i default).Name))&&decide (l.length≤16)
def aeh(l:List Request):Bool:=(allI l.length λi=>decide (UB (l.getD i default)=0))&&decide (l.length≤64)
def aei(r:bS):Bool:=((((((((decide (0≤r.Pos)&&decide (r.Pos≤1099511627776))&&ii r.ar)&&decide (r.ar.bm=r.Pos))&&aeg r.cj)&&UE r.cB)&&UD r.Place)&&adP r.bf)&&aeh r.Queue)
structure Iq(n:Nat)(r:bS):Prop where
 st:p9 n r.ar
 UQ:r.cj.length<n
 Ir:∀i,r0 (r.cj.getD i default)
 UR:r.cB.length<n
 Is:∀i,wS n (r.cB.getD i default)
 pl:r.Place.a'.length<n
 It:∀i,wR n (r.Place.a'.getD i default)
 cc:r.bf.length<n
 jn:∀i,(r.bf.getD i default).Key.length<n
 Iu:r.Queue.length<n
 US:∀i,wO n (r.Queue.getD i default)
def UT:r0 default:=by
 refine⟨⟨by show([]:ahs).length≤_;simp,by show([]:List Param).length≤_;simp,λi hi=>by exact absurd hi (by show¬ i<([]:List Param).length;simp),trivial⟩,by show([]:ahs).length≤_;simp,by show rU []≤_;simp [rU],by show oi []≤_;simp [oi]⟩
section
variable {n:Nat} (hn:3000000≤n) (cw:n≤9223372036854775808)
include hn cw
omit hn cw in
theorem aej{L:Nat→Int→ahw}{len:Nat}{m:Nat}(hm:len<m)(step:∀m i,i<len→L (m+1) (i:Int)=L m ((i+1:Nat):Int))(stop:∀m,L (m+1) (len:Int)=some true):L m 0=some true:=by
 have:=tM (chk:=λ_=>true) (no:=false) (yes:=true) hm (λm i hi=>by rw [step m i hi,if_pos rfl]) stop
 rw [this,tL]
 congr 1
 rw [rY];exact λ_ _=>rfl
end
open Go Go.Ab Go.Proofs
abbrev As:=Int×List aJ×tO×List bO×cd×List bf×List Request×Int
def At(p:As):ahs:=rW p.1++(oj ad1 p.2.1++(oj o5 p.2.2.1++(oj ad' p.2.2.2.1++(ad4 p.2.2.2.2.1++(oj aed p.2.2.2.2.2.1++(oj aeb p.2.2.2.2.2.2.1++rX p.2.2.2.2.2.2.2))))))
structure UU(p:As):Prop where
 pos:gL p.1
 Ir:(p.2.1.length≤2147483647∧∀v∈p.2.1,ad2 v)∧adO p.2.1=true
 src:p.2.2.1.length≤16∧∀s∈p.2.2.1,s.length≤16384
 Is:(p.2.2.2.1.length≤32∧∀v∈p.2.2.2.1,Im v)∧UE p.2.2.2.1=true
 agG:(gL p.2.2.2.2.1.Version∧p.2.2.2.2.1.a'.length≤16∧∀v∈p.2.2.2.2.1.a',Il v)∧UD p.2.2.2.2.1=true
 cc:p.2.2.2.2.2.1.length≤32∧∀h∈p.2.2.2.2.2.1,h.Key.length≤24∧gL h.Count
 Iu:p.2.2.2.2.2.2.1.length≤64∧∀v∈p.2.2.2.2.2.2.1,UO v∧aec v=true
 agH:p7 p.2.2.2.2.2.2.2
section
variable {n:Nat} (hn:3000000≤n) (cw:n≤9223372036854775808) {s:ahs} (hs:s.length<min n 1000000000)
include hn cw hs
end
open Go Go.Ab Go.Proofs
section
variable {n:Nat} (hn:3000000≤n) (cw:n≤9223372036854775808) {s:ahs} (hs:s.length<min n 1000000000)
include hn cw hs
end
abbrev p_:bS:=⟨0,⟨0,0,[]⟩,[],[],⟨0,[]⟩,[],[],0⟩
def UV{n:Nat}(hn:2000≤n):wO n default:=aee hn ⟨by show p7 0;unfold p7;omega,by show p7 0;unfold p7;omega,by show([]:ahs).length≤16;simp,⟨by show([]:List bv).length≤6;simp,λv az=>by cases az⟩,rfl,rfl⟩
open Go Go.Ab Go.Proofs
def Iv{n:Nat}(hn:2000≤n):Iq n p_:=by
 have h0:∀{α:Type} (l:List α),l=[]→l.length<n:=λl h=>by rw [h];show 0<n;omega
 exact {
  st:=by
   refine⟨h0 _ rfl,λi=>⟨?_,?_,λk=>?_⟩⟩
   ·show 0<n;omega
   ·exact h0 _ rfl
   ·show 0<n;omega
  UQ:=h0 _ rfl
  Ir:=λi=>p' (P:=r0) (λx hx=>absurd hx (by show¬ x∈([]:List bh);simp)) UT i
  UR:=h0 _ rfl
  Is:=In hn (λx hx=>by cases hx)
  pl:=h0 _ rfl
  It:=ad6 (by omega) (λx hx=>by cases hx)
  cc:=h0 _ rfl
  jn:=λi=>by show 0<n;omega
  Iu:=h0 _ rfl
  US:=λi=>p' (P:=wO n) (λx hx=>absurd hx (by show¬ x∈([]:List Request);simp)) (UV hn) i}
section
variable {n:Nat} (hn:3000000≤n) (cw:n≤9223372036854775808) {s:ahs} (hs:s.length≤2000)
include hn cw hs
end
open Go Go.Ab Go.Proofs
open Go Go.Ab Go.Proofs
section
variable {n:Nat} (hn:2000≤n)
include hn
end
open Go Go.Ab Go.Proofs
section
variable {n:Nat} (hn:2000≤n)
include hn
end
section
variable {n:Nat} (hn:3000000≤n) (cw:n≤9223372036854775808)
include hn cw
end
section
variable {n:Nat} (hn:3000000≤n) (cw:n≤9223372036854775808) {s:ahs} (hs:s.length≤2000)
include hn cw hs
end
open Go Go.Ab Go.Proofs
section
variable {n:Nat} (hn:2000≤n)
include hn
end
open Go Go.Ab Go.Proofs
section
variable {n:Nat} (hn:2000≤n)
include hn
end
open Go Go.Ab Go.Proofs
def wV(r:bS)(A:List aJ):As:=(r.Pos,A,r.cj.map Io,r.cB,r.Place,r.bf,r.Queue,r.cE)
section
variable {n:Nat} (hn:2000≤n)
include hn
end
open Go Go.Ab Go.Proofs
section
variable {n:Nat} (hn:3000000≤n) (cw:n≤9223372036854775808) {r:bS} {A:List aJ} (hp:UU (wV r A)) (hs:(At (wV r A)).length≤800000) (hg:∀q∈r.cj,r0 q) (i7:r.cj.length≤1000)
include hn cw hp hs hg i7
end
open Go Go.Ab Go.Proofs
section
variable {n:Nat} (hn:3000000≤n) (cw:n≤9223372036854775808) {r:bS} {A:List aJ} (hp:UU (wV r A)) (hs:(At (wV r A)).length≤800000) (hg:∀q∈r.cj,r0 q) (i7:r.cj.length≤1000)
include hn cw hp hs hg i7
end
open Go Go.Ab Go.Proofs
def aek{L:Nat→Int→ahw}{len:Nat}{Q:Nat→Prop}{fin:ahw}
 (step:∀m i,i<len→L (m+1) (i:Int)=some false∨(Q i∧L (m+1) (i:Int)=L m ((i+1:Nat):Int))) (stop:∀m,L (m+1) (len:Int)=fin):
 ∀m i,len<m+i→i≤len→L m (i:Int)=some false∨((∀k,i≤k→k<len→Q k)∧L m (i:Int)=fin):=by
 intro m;induction m with
 |zero=>intro i ab ah;omega
 |succ m bD=>
  intro i ab ah;by_cases hi:i<len
  ·rcases step m i hi with h|⟨aP,h⟩
   ·exact Or.inl h
   ·rcases bD (i+1) (by omega) (by omega)with ay|⟨ay,bl⟩
    ·exact Or.inl (h.trans ay)
    ·refine Or.inr ⟨λk hk nP=>?_,h.trans bl⟩
     by_cases e:k=i
     ·subst e;exact aP
     ·exact ay k (by omega) nP
  ·obtain rfl:i=len:=by omega
   exact Or.inr ⟨λk hk nP=>by omega,stop m⟩
def ael{L:Nat→Int→ahw}{len m:Nat}{Q:Nat→Prop}{fin:ahw}(hm:len<m)
 (step:∀m i,i<len→L (m+1) (i:Int)=some false∨(Q i∧L (m+1) (i:Int)=L m ((i+1:Nat):Int))) (stop:∀m,L (m+1) (len:Int)=fin):
 L m 0=some false∨((∀k,k<len→Q k)∧L m 0=fin):=by
 rcases aek step stop m 0 (by omega) (by omega)with h|⟨ab,ah⟩
 ·exact Or.inl h
 ·exact Or.inr ⟨λk hk=>ab k (by omega) hk,ah⟩
structure aem(f:fV):Prop where
 r:f.Reads.length≤100
 w:f.dB.length≤100
 rs:∀i,i<f.Reads.length→(f.Reads.getD i default).length≤100
 ws:∀i,i<f.dB.length→(f.dB.getD i default).length≤100
open Go Go.Ab Go.Proofs
structure aen(r:Request):Prop where
 p:r.bh.length≤300
 a:r.aA.length≤40
 vs:∀i,i<r.aA.length→(r.aA.getD i default).S.length≤300
 f:aem r.b9
open Go Go.Ab Go.Proofs
def UW(r:Row):bv:=(r.bd.getD (r.bd.length-1) default).bk
def Iw:List Row→List aJ
 |[]=>[]
 |r::l=>if(UW r).Kind=0 then Iw l else⟨r.Key,UW r⟩::Iw l
structure aeo(n:Nat)(a:Int)(r:Row):Prop where
 l:r.bd.length<n
 b:r.bd.length≤1000000000
 p:0<r.bd.length
 s:∀i,i<r.bd.length→(r.bd.getD i default).b4≤a
section
variable {n:Nat} {s:ar} {a:Int} (ag:s.Rows.length≤1000) (hn:2000≤n) (h:∀i,i<s.Rows.length→aeo n a (s.Rows.getD i default)) (b2:s.bo≤a) (ha:a≤s.bm)
include ag hn h b2 ha
end
open Go Go.Ab Go.Proofs
open Go Go.Ab Go.Proofs
def o6:List ahs→Prop
 |[]=>True
 |k::l=>(∀j∈l,Op.bytesLess k j=true)∧o6 l
def UX:∀l:List ahs,(∀i,i+1<l.length→Op.bytesLess (l.getD i []) (l.getD (i+1) [])=true)→o6 l
 |[],_=>trivial
 |k::l,h=>by
  have bD:=UX l λi hi=>by have:=h (i+1) (by simpa using hi);simpa using this
  refine⟨λj hj=>?_,bD⟩
  cases l with
  |nil=>simp at hj
  |cons ao l=>
   have h0:Op.bytesLess k ao=true:=by simpa using h 0 (by simp)
   rcases List.mem_cons.1 hj with rfl|hj
   ·exact h0
   ·exact Uw _ _ _ h0 (bD.1 j hj)
open Go Go.Ab Go.Proofs
open Go Go.Ab Go.Proofs
def UY{α:Type}[Inhabited α]{l:List α}{x:α}(h:x∈l):∃i,i<l.length∧l.getD i default=x:=by
 obtain⟨i,hi,e⟩:=List.mem_iff_getElem.1 h;exact⟨i,hi,by rw [List.getD_eq_getElem?_getD,List.getElem?_eq_getElem hi];exact e⟩
def UZ{α:Type}[Inhabited α](l:List α)(f:α→ahs)(i:Nat)(hi:i<l.length):(l.map f).getD i []=f (l.getD i default):=by
 simp only [List.getD_eq_getElem?_getD,List.getElem?_map,List.getElem?_eq_getElem hi,Option.map_some,Option.getD_some]
open Go Go.Ab Go.Proofs
section
variable {H:Type} {enc:TypeId×Value→H} {W:World}
theorem aep:Tryz.prog.cellsOf 3=1:=by kernel_rfl
theorem Au:Tryz.prog.cellsOf 2=1:=by kernel_rfl
theorem U0:Tryz.prog.cellsOf 9=1:=by kernel_rfl
end
open Go Go.Ab Go.Proofs
section
variable {H:Type} {enc:TypeId×Value→H} {W:World}
end
open Go Go.Ab Go.Proofs
def Ix{α:Type}(l:List α)(h:l.length=2):∃a0 aU,l=[a0,aU]:=by
 match l,h with
 |[a0,aU],_=>exact⟨a0,aU,rfl⟩
def Av{α:Type}(l:List α)(h:l.length=3):∃a0 aU a2,l=[a0,aU,a2]:=by
 match l,h with
 |[a0,aU,a2],_=>exact⟨a0,aU,a2,rfl⟩
def aeq{α:Type}(l:List α)(h:l.length=4):∃a0 aU a2 a3,l=[a0,aU,a2,a3]:=by
 match l,h with
 |[a0,aU,a2,a3],_=>exact⟨a0,aU,a2,a3,rfl⟩
section
variable {H:Type} {enc:TypeId×Value→H} {W:World}
theorem aer:Tryz.prog.cellsOf 22=1:=by kernel_rfl
theorem aes:Tryz.prog.cellsOf 24=3:=by kernel_rfl
theorem U1:Tryz.prog.cellsOf 85=3:=by kernel_rfl
theorem aet:Tryz.prog.cellsOf 90=1:=by kernel_rfl
theorem U2:Tryz.prog.cellsOf 92=2:=by kernel_rfl
theorem U3:Tryz.prog.cellsOf 138=4:=by kernel_rfl
structure wW(x:bv):Prop where
 agI:gL x.Kind
 agJ:gL x.N
 Iy:x.S.length≤9223372036854775807
theorem aeu(fuel:Nat)(cs:List Value)(x:DataW H×List MemPlace)(h:DataW.trod enc Tryz.prog W 0 (λ_=>true) true fuel 85 cs=some x):∃p:bv,wW p∧ic W cs (dN p).cells:=by
 obtain⟨xs,n,hn,_,ag,r1,b2⟩:=DataW.trod_struct Tryz.underlying85 h;rw [U1]at ag;obtain⟨c0,c1,c2,rfl⟩:=Av cs ag;obtain⟨mg,pA,uO,rfl⟩:=Av xs r1;have h0:DataW.trod enc Tryz.prog W 0 (λ_=>true) true n 3 (List.take (Tryz.prog.cellsOf 3) [c0,c1,c2])=some mg:=b2 0 _ rfl
 rw [aep]at h0;obtain⟨v0,hI,eZ⟩:=q_ (k:=.i64) Tryz.underlying3 h0;have ab:DataW.trod enc Tryz.prog W 0 (λ_=>true) true n 2 (List.take (Tryz.prog.cellsOf 2) [c1,c2])=some pA:=b2 1 _ rfl
 rw [Au]at ab;obtain⟨v1,ed,af⟩:=q_ (k:=.i64) Tryz.underlying2 ab;have ah:DataW.trod enc Tryz.prog W 0 (λ_=>true) true n 9 (List.take (Tryz.prog.cellsOf 9) [c2])=some uO:=b2 2 _ rfl
 rw [U0]at ah;obtain⟨v2,ao,aq⟩:=Li Tryz.underlying9 ah;exact⟨⟨v0,v1,v2⟩,⟨⟨hI.1,hI.2⟩,⟨ed.1,ed.2⟩,ao⟩,((eZ.app af).app aq)⟩
structure Iz(x:Version):Prop where
 aev:gL x.b4
 IA:wW x.bk
theorem aew(fuel:Nat)(cs:List Value)(x:DataW H×List MemPlace)(h:DataW.trod enc Tryz.prog W 0 (λ_=>true) true fuel 138 cs=some x):∃p:Version,Iz p∧ic W cs (fF p).cells:=by
 obtain⟨xs,n,hn,_,ag,r1,b2⟩:=DataW.trod_struct Tryz.underlying138 h;rw [U3]at ag;obtain⟨c0,c1,c2,c3,rfl⟩:=aeq cs ag;obtain⟨mg,pA,rfl⟩:=Ix xs r1;have h0:DataW.trod enc Tryz.prog W 0 (λ_=>true) true n 2 (List.take (Tryz.prog.cellsOf 2) [c0,c1,c2,c3])=some mg:=b2 0 _ rfl
 rw [Au]at h0;obtain⟨v0,hI,eZ⟩:=q_ (k:=.i64) Tryz.underlying2 h0;have ab:DataW.trod enc Tryz.prog W 0 (λ_=>true) true n 85 (List.take (Tryz.prog.cellsOf 85) [c1,c2,c3])=some pA:=b2 1 _ rfl
 rw [U1]at ab;obtain⟨v1,ed,af⟩:=aeu n _ _ ab;exact⟨⟨v0,v1⟩,⟨⟨hI.1,hI.2⟩,ed⟩,(eZ.app af)⟩
structure IB(x:Row):Prop where
 wX:x.Key.length≤9223372036854775807
 Aw:x.bd.length≤9223372036854775807∧∀i,i<x.bd.length→Iz (x.bd.getD i default)
theorem aex(fuel:Nat)(cs:List Value)(x:DataW H×List MemPlace)(h:DataW.trod enc Tryz.prog W 0 (λ_=>true) true fuel 92 cs=some x):∃p:Row,IB p∧ic W cs (bC p).cells:=by
 obtain⟨xs,n,hn,_,ag,r1,b2⟩:=DataW.trod_struct Tryz.underlying92 h;rw [U2]at ag;obtain⟨c0,c1,rfl⟩:=Ix cs ag;obtain⟨mg,pA,rfl⟩:=Ix xs r1;have h0:DataW.trod enc Tryz.prog W 0 (λ_=>true) true n 9 (List.take (Tryz.prog.cellsOf 9) [c0,c1])=some mg:=b2 0 _ rfl
 rw [U0]at h0;obtain⟨v0,hI,eZ⟩:=Li Tryz.underlying9 h0;have ab:DataW.trod enc Tryz.prog W 0 (λ_=>true) true n 90 (List.take (Tryz.prog.cellsOf 90) [c1])=some pA:=b2 1 _ rfl
 rw [aet]at ab;obtain⟨v1,ed,g1,af⟩:=CE (encA:=fF) (ok:=Iz) Tryz.underlying90 U3 (by omega) ab (λm cs' mZ hm hx=>aew m cs' mZ hx)
 exact⟨⟨v0,v1⟩,⟨hI,⟨ed,g1⟩⟩,(eZ.app af)⟩
structure wY(x:ar):Prop where
 agK:gL x.bo
 agL:gL x.bm
 U4:x.Rows.length≤9223372036854775807∧∀i,i<x.Rows.length→IB (x.Rows.getD i default)
theorem aey(fuel:Nat)(cs:List Value)(x:DataW H×List MemPlace)(h:DataW.trod enc Tryz.prog W 0 (λ_=>true) true fuel 24 cs=some x):∃p:ar,wY p∧ic W cs (LE p).cells:=by
 obtain⟨xs,n,hn,_,ag,r1,b2⟩:=DataW.trod_struct Tryz.underlying24 h;rw [aes]at ag;obtain⟨c0,c1,c2,rfl⟩:=Av cs ag;obtain⟨mg,pA,uO,rfl⟩:=Av xs r1;have h0:DataW.trod enc Tryz.prog W 0 (λ_=>true) true n 2 (List.take (Tryz.prog.cellsOf 2) [c0,c1,c2])=some mg:=b2 0 _ rfl
 rw [Au]at h0;obtain⟨v0,hI,eZ⟩:=q_ (k:=.i64) Tryz.underlying2 h0;have ab:DataW.trod enc Tryz.prog W 0 (λ_=>true) true n 2 (List.take (Tryz.prog.cellsOf 2) [c1,c2])=some pA:=b2 1 _ rfl
 rw [Au]at ab;obtain⟨v1,ed,af⟩:=q_ (k:=.i64) Tryz.underlying2 ab;have ah:DataW.trod enc Tryz.prog W 0 (λ_=>true) true n 22 (List.take (Tryz.prog.cellsOf 22) [c2])=some uO:=b2 2 _ rfl
 rw [aer]at ah;obtain⟨v2,ao,g2,aq⟩:=CE (encA:=bC) (ok:=IB) Tryz.underlying22 U2 (by omega) ah (λm cs' mZ hm hx=>aex m cs' mZ hx)
 exact⟨⟨v0,v1,v2⟩,⟨⟨hI.1,hI.2⟩,⟨ed.1,ed.2⟩,⟨ao,g2⟩⟩,((eZ.app af).app aq)⟩
structure aez(x:Outcome):Prop where
 agM:gL x.Status
 agN:gL x.Code
 aeA:x.Out.length≤9223372036854775807∧∀i,i<x.Out.length→wW (x.Out.getD i default)
structure aeB(x:eV):Prop where
 U5:gL x.Client
 aeC:gL x.Seq
 aeD:aez x.Outcome
structure aeE(x:bO):Prop where
 U5:gL x.Client
 IC:gL x.Next
 U6:x.dl.length≤9223372036854775807∧∀i,i<x.dl.length→aeB (x.dl.getD i default)
structure aeF(x:Part):Prop where
 agO:gL x.Id
 aeG:x.ez.length≤9223372036854775807
 agP:gL x.Node
 agQ:gL x.gO
 U7:x.cY.length≤9223372036854775807
structure aeH(x:cd):Prop where
 agR:gL x.Version
 aeI:x.a'.length≤9223372036854775807∧∀i,i<x.a'.length→aeF (x.a'.getD i default)
structure aeJ(x:bf):Prop where
 wX:x.Key.length≤9223372036854775807
 agS:gL x.Count
structure aeK(x:fV):Prop where
 agT:True
 agU:x.Reads.length≤9223372036854775807∧∀i,i<x.Reads.length→(x.Reads.getD i default).length≤9223372036854775807
 agV:x.dB.length≤9223372036854775807∧∀i,i<x.dB.length→(x.dB.getD i default).length≤9223372036854775807
structure aeL(x:Request):Prop where
 U5:gL x.Client
 aeC:gL x.Seq
 agW:x.bh.length≤9223372036854775807
 fArgs:x.aA.length≤9223372036854775807∧∀i,i<x.aA.length→wW (x.aA.getD i default)
 agX:True
 agY:aeK x.b9
structure wZ(x:bS):Prop where
 agZ:gL x.Pos
 aeM:wY x.ar
 aeN:x.cj.length≤9223372036854775807∧∀i,i<x.cj.length→Ie (x.cj.getD i default)
 aeO:x.cB.length≤9223372036854775807∧∀i,i<x.cB.length→aeE (x.cB.getD i default)
 aeP:aeH x.Place
 aeQ:x.bf.length≤9223372036854775807∧∀i,i<x.bf.length→aeJ (x.bf.getD i default)
 ag0:x.Queue.length≤9223372036854775807∧∀i,i<x.Queue.length→aeL (x.Queue.getD i default)
 ag1:p7 x.cE
structure aeR(x:aJ):Prop where
 wX:x.Key.length≤9223372036854775807
 IA:wW x.bk
structure aeS(x:dA):Prop where
 aev:gL x.b4
 ag2:wZ x.Rest
 IC:x.Next.length≤9223372036854775807
 U7:True
 ag3:x.dO.length≤9223372036854775807∧∀i,i<x.dO.length→aeR (x.dO.getD i default)
 ag4:x.eD.length≤9223372036854775807∧∀i,i<x.eD.length→(x.eD.getD i default).length≤9223372036854775807
end
open Go Go.Ab Go.Proofs
def lj{α:Type}[Inhabited α]{P:α→Prop}{l:List α}(h:∀i,i<l.length→P (l.getD i default))(h0:P default)(i:Nat):P (l.getD i default):=by
 by_cases hi:i<l.length
 ·exact h i hi
 ·rw [List.getD_eq_getElem?_getD,List.getElem?_eq_none (by omega)];exact h0
open Go Go.Ab Go.Proofs
open Go Go.Ab Go.Proofs
open Go Go.Ab Go.Proofs
structure ID(n:Nat)(r:bS):Prop where
 bM:Iq n r
 wP:r.ar.Rows.length≤100
 vs:∀i,i<r.ar.Rows.length→(r.ar.Rows.getD i default).bd.length≤1000
 pl:r.cj.length≤1000
 jG:r.cB.length≤10
abbrev U8(r:bS):As:=wV r (Iw r.ar.Rows)
section
variable {n:Nat} (hn:3000000≤n) (cw:n≤9223372036854775808) {r:bS} (b2:ID n r) (hi:wZ r)
include hn cw b2 hi
def encA(r:bS):ahs×Int:=bif !aei r then([],1)else bif decide (16384<(((At (U8 r)).length:Nat):Int)) then([],2) else(At (U8 r),0)
end
open Go Go.Ab Go.Proofs
section
variable {n:Nat} (hn:3000000≤n) (cw:n≤9223372036854775808) {r:bS} (b2:ID n r) (hi:wZ r)
include hn cw b2 hi
end
open Go Go.Ab Go.Proofs
section
variable {n:Nat} (hn:3000000≤n) (cw:n≤9223372036854775808) {r:bS} (b2:ID n r) (hi:wZ r)
include hn cw b2 hi
end
open Go Go.Ab Go.Proofs
def hy(a:Int):List Version→Nat
 |[]=>0
 |v::l=>if v.b4≤a then hy a l+1 else 0
def o7(a:Int)(x:bv):List Version→bv
 |[]=>x
 |v::l=>o7 a (if v.b4≤a then v.bk else x) l
def IE(a:Int):∀l:List Version,hy a l≤l.length
 |[]=>Nat.le_refl _
 |v::l=>by
  have:=IE a l
  unfold hy;split
  ·simp only [ahh];omega
  ·exact Nat.zero_le _
def Ax:List Version→Prop
 |[]=>True
 |v::l=>(∀w∈l,v.b4<w.b4)∧Ax l
def U9{a:Int}{x:bv}:∀{l:List Version},(∀w∈l,a<w.b4)→o7 a x l=x
 |[],_=>rfl
 |v::l,h=>by
  have ab:=h v (by simp)
  unfold o7;rw [if_neg (by omega)]
  exact U9 λw hw=>h w (by simp [hw])
def U'{a:Int}:∀{l:List Version} {x:bv},Ax l→o7 a x l=if hy a l=0 then x else(l.getD (hy a l-1) default).bk
 |[],_,_=>rfl
 |v::l,x,⟨ab,ah⟩=>by
  unfold o7 hy;by_cases h:v.b4≤a
  ·rw [if_pos h,if_pos h,U' ah,if_neg (show¬ hy a l+1=0 by omega),Nat.add_sub_cancel]
   by_cases h0:hy a l=0
   ·rw [if_pos h0,h0];rfl
   ·rw [if_neg h0];obtain⟨k,hk⟩:∃k,hy a l=k+1:=⟨hy a l-1,by omega⟩
    rw [hk,Nat.add_sub_cancel,List.getD_cons_succ]
  ·have ay:∀w∈l,a<w.b4:=λw hw=>by have:=ab w hw;omega
   rw [if_neg h,if_neg h,if_pos rfl,U9 ay]
def kJ(a:Int)(r:Row):bv:=if hy a r.bd=0 then⟨0,0,[]⟩ else(r.bd.getD (hy a r.bd-1) default).bk
def iU(a:Int):List Row→List aJ
 |[]=>[]
 |r::l=>if(kJ a r).Kind=0 then iU a l else⟨r.Key,kJ a r⟩::iU a l
section
variable {n:Nat} {a:Int} {r:Row} (ag:r.bd.length<n) (cw:n≤9223372036854775808)
include ag cw
theorem aeT:De n r a=some ((hy a r.bd:Nat):Int):=by
 have key:∀m i,r.bd.length<m+i→i≤r.bd.length→u_ n a r m (i:Int)=some ((i+hy a (r.bd.drop i):Nat):Int):=by
  intro m;induction m with
  |zero=>intro i ab ah;omega
  |succ m bD=>
   intro i ab ah;simp only [u_,Dd,Dc,ahk,ahj];by_cases hi:i<r.bd.length
   ·rw [o3 r.bd i default hi,hy];by_cases h:(r.bd.getD i default).b4≤a
    ·simp only [hi,gF hi,ahb,ahp,fO,ahd,h,iB (show i≤9223372036854775806 by omega),ahq]
     rw [bD (i+1) (by omega) (by omega),show i+1+hy a (r.bd.drop (i+1))=i+(hy a (r.bd.drop (i+1))+1)by omega]
    ·simp only [hi,gF hi,ahb,ahc,ahp,fO,ahd,ahe,h,ahr];rfl
   ·obtain rfl:i=r.bd.length:=by omega
    simp only [Nat.lt_irrefl,ahc,ahg,Bool.true_or,fO,ahe,List.drop_length,hy,Nat.add_zero]
 have:=key n 0 (by omega) (by omega)
 rw [List.drop_zero,Nat.zero_add]at this;exact this
theorem aeU:yE n r a=some (kJ a r):=by
 have hs:=IE a r.bd;unfold yE kJ;rw [aeT ag cw,eG];by_cases h0:hy a r.bd=0
 ·rw [h0];rfl
 ·have e:ahu (((hy a r.bd:Nat):Int)-1)=((hy a r.bd-1:Nat):Int):=by rw [wr]<;>omega
  simp only [show¬ ((hy a r.bd:Nat):Int)=0 by omega,ahc,ahe,e,gF (show hy a r.bd-1<r.bd.length by omega),fO,ahj,h0,ahr]
theorem aeV:vJ n r a=some (o7 a ⟨0,0,[]⟩ r.bd):=by
 have key:∀m i K N S,r.bd.length<m+i→i≤r.bd.length→vI n a r m K N S (i:Int)=some (o7 a ⟨K,N,S⟩ (r.bd.drop i)):=by
  intro m;induction m with
  |zero=>intro i K N S ab ah;omega
  |succ m bD=>
   intro i K N S ab ah;simp only [vI,FY,FX,zk,ahk,ahj];by_cases hi:i<r.bd.length
   ·rw [o3 r.bd i default hi,o7];by_cases h:(r.bd.getD i default).b4≤a
    ·simp only [hi,gF hi,ahb,fO,ahd,h,iB (show i≤9223372036854775806 by omega),ahq]
     exact bD (i+1) _ _ _ (by omega) (by omega)
    ·simp only [hi,gF hi,ahb,ahc,fO,ahd,ahe,h,iB (show i≤9223372036854775806 by omega),ahr]
     exact bD (i+1) _ _ _ (by omega) (by omega)
   ·obtain rfl:i=r.bd.length:=by omega
    simp only [Nat.lt_irrefl,ahc,ahe,List.drop_length,o7]
 exact key n 0 0 0 [] (by omega) (by omega)
end
def aeW{r:Row}{f l:Int}(h:l6 r f l=true)(ag:r.bd.length≤1000000000):Ax r.bd:=by
 unfold l6 at h;rw [Bool.and_eq_true,rY]at h
 have ah:∀i,i+1<r.bd.length→(r.bd.getD i default).b4<(r.bd.getD (i+1) default).b4:=λi hi=>by
  have ay:=h.2 (i+1) hi;unfold rZ at ay;rw [Ux i (by omega),show decide (0<((i+1:Nat):Int))=true from decide_eq_true (by omega)]at ay
  simp only [Bool.and_eq_true,Bool.true_and,Bool.not_eq_true',Bool.or_eq_false_iff,decide_eq_false_iff_not]at ay;have:=ay.2.1
  omega
 have key:∀l:List Version,(∀i,i+1<l.length→(l.getD i default).b4<(l.getD (i+1) default).b4)→Ax l:=by
  intro l;induction l with
  |nil=>intro _;trivial
  |cons v l bD=>
   intro h;have i2:=bD λi hi=>by have:=h (i+1) (by simpa using hi);simpa using this
   refine⟨λw hw=>?_,i2⟩
   cases l with
   |nil=>simp at hw
   |cons x l=>
    have h0:v.b4<x.b4:=by simpa using h 0 (by simp)
    rcases List.mem_cons.1 hw with rfl|hw
    ·exact h0
    ·have:=i2.1 w hw;omega
 exact key _ ah
def aeX{n:Nat}{a f l:Int}{r:Row}(h:l6 r f l=true)(ag:r.bd.length<n)(hb:r.bd.length≤1000000000)(cw:n≤9223372036854775808):vJ n r a=some (kJ a r):=by
 rw [aeV ag cw,U' (aeW h hb)];unfold kJ;rfl
open Go Go.Ab Go.Proofs
def IF{a:Int}:∀l:List Row,(∀p∈iU a l,p.Key∈l.map (·.Key))
 |[],p,h=>by simp [iU]at h
 |r::l,p,h=>by
  unfold iU at h;by_cases k:(kJ a r).Kind=0
  ·rw [if_pos k]at h;have:=IF l p h
   simp only [List.map_cons,List.mem_cons];exact Or.inr this
  ·rw [if_neg k]at h;rcases List.mem_cons.1 h with rfl|h
   ·simp
   ·have:=IF l p h
    simp only [List.map_cons,List.mem_cons];exact Or.inr this
def U_{a:Int}:∀l:List Row,o6 (l.map (·.Key))→o6 ((iU a l).map (·.Key))
 |[],_=>trivial
 |r::l,h=>by
  obtain⟨ab,ah⟩:=h;have bD:=U_ (a:=a) l ah;unfold iU;by_cases k:(kJ a r).Kind=0
  ·rw [if_pos k];exact bD
  ·rw [if_neg k];refine⟨λj hj=>?_,bD⟩
   obtain⟨p,hp,rfl⟩:=List.mem_map.1 hj;exact ab _ (IF l p hp)
def Ay{a:Int}:∀(l:List Row) (p:aJ),p∈iU a l→∃r∈l,p=⟨r.Key,kJ a r⟩∧(kJ a r).Kind≠0
 |[],p,h=>by simp [iU]at h
 |r::l,p,h=>by
  unfold iU at h;by_cases k:(kJ a r).Kind=0
  ·rw [if_pos k]at h;obtain⟨x,hx,e⟩:=Ay l p h;exact⟨x,by simp [hx],e⟩
  ·rw [if_neg k]at h;rcases List.mem_cons.1 h with rfl|h
   ·exact⟨r,by simp,rfl,k⟩
   ·obtain⟨x,hx,e⟩:=Ay l p h;exact⟨x,by simp [hx],e⟩
def Az{a:Int}:∀l:List Row,(iU a l).length≤l.length
 |[]=>Nat.le_refl _
 |r::l=>by
  have:=Az (a:=a) l
  unfold iU;split
  ·simp only [ahh];omega
  ·simp only [ahh];omega
def Va{s:ar}(hs:ii s=true)(a:Int)(i:Nat)(hi:i<s.Rows.length):ih (s.Rows.getD i default).Key=true∧l5 (kJ a (s.Rows.getD i default))=true:=by
 unfold ii at hs;rw [Bool.and_eq_true,rY]at hs;have ab:=hs.2 i hi;simp only [Bool.and_eq_true]at ab;refine⟨ab.1.1,?_⟩
 have ah:=ab.2;unfold l6 at ah;rw [Bool.and_eq_true,rY]at ah;have hle:=IE a (s.Rows.getD i default).bd;unfold kJ;by_cases h0:hy a (s.Rows.getD i default).bd=0
 ·rw [if_pos h0];rfl
 ·rw [if_neg h0];have bQ:=ah.2 (hy a (s.Rows.getD i default).bd-1) (by omega)
  unfold rZ at bQ;simp only [Bool.and_eq_true]at bQ;exact bQ.1.2
def aeY{s:ar}(hs:ii s=true)(ag:s.Rows.length≤1000000):o6 (s.Rows.map (·.Key)):=by
 refine UX _ λi hi=>?_
 rw [List.length_map]at hi;have h0:=hs;unfold ii at h0;rw [Bool.and_eq_true,rY]at h0;have ab:=h0.2 (i+1) hi;simp only [Bool.and_eq_true]at ab;have ah:=ab.1.2;rw [Ux i (by omega),show decide (0<((i+1:Nat):Int))=true from decide_eq_true (by omega),ahf,Bool.false_or]at ah
 rw [UZ s.Rows (·.Key) i (by omega),UZ s.Rows (·.Key) (i+1) hi]
 exact ah
def fo(s:ar)(a:Int):List aJ×Int:=bif !ii s then([],1)else bif (decide (a<s.bo)||decide (s.bm<a)) then([],15) else(iU a s.Rows,0)
section
variable {n:Nat} {s:ar} (hn:2000≤n) (cw:n≤9223372036854775808) (h:p9 n s) (ag:s.Rows.length≤1000)
include hn cw h ag
theorem aeZ(a:Int):vc n s a=some (fo s a):=by
 have key:∀m i acc,s.Rows.length<m+i→i≤s.Rows.length→acc.length≤i→vb n a s m (i:Int) acc=some (acc++iU a (s.Rows.drop i),0):=by
  intro m;induction m with
  |zero=>intro i acc ab ah;omega
  |succ m bD=>
   intro i acc ab ah ay;simp only [vb,Dg,ahk];by_cases hi:i<s.Rows.length
   ·simp only [hi,gF hi,ahj,ahb,ahd,fO];rw [aeU (h.row i).Ar cw,eG,o3 s.Rows i default hi,iU];by_cases k:(kJ a (s.Rows.getD i default)).Kind=0
    ·simp only [k,ahb,ahf,ahe,va,iB (show i≤9223372036854775806 by omega),ahq]
     exact bD (i+1) _ (by omega) (by omega) (by omega)
    ·simp only [k,ahc,ahg,ahd,ahm,va,iB (show i≤9223372036854775806 by omega),tN (show(acc.length+1)*48≤140737488355328 by omega),fO,ahr]
     rw [bD (i+1) _ (by omega) (by omega) (by rw [ahl,ahm];omega)]
     simp
   ·obtain rfl:i=s.Rows.length:=by omega
    simp only [Nat.lt_irrefl,ahc,ahe,Df,tD s.Rows _ hi,iU,List.append_nil]
 unfold vc Db fo;rw [UJ hn cw h,eG];cases ii s
 ·rfl
 ·simp only [ahf,ahe,ki];cases decide (a<s.bo)||decide (s.bm<a)
  ·simp only [ahe,eG,ahb,ahf];exact key n 0 [] (by omega) (by omega) (by simp)
  ·rfl
theorem ae0(hb:∀i,i<s.Rows.length→(s.Rows.getD i default).bd.length≤1000000000)(a:Int):vL n s a=some (fo s a):=by
 unfold vL Gj fo;rw [ad0 hn cw h,eG];cases hs:ii s
 ·rfl
 ·have ae1:∀i,i<s.Rows.length→l6 (s.Rows.getD i default) s.bo s.bm=true:=λi hi=>by
   have h0:=hs;unfold ii at h0;rw [Bool.and_eq_true,rY]at h0;have ab:=h0.2 i hi;rw [Bool.and_eq_true]at ab;exact ab.2
  have key:∀m i acc,s.Rows.length<m+i→i≤s.Rows.length→acc.length≤i→td n a s m acc (i:Int)=some (acc++iU a (s.Rows.drop i)):=by
   intro m;induction m with
   |zero=>intro i acc ab ah;omega
   |succ m bD=>
    intro i acc ab ah ay;simp only [td,Gi,ahk];by_cases hi:i<s.Rows.length
    ·simp only [hi,gF hi,ahj,ahb,ahd,fO];rw [aeX (ae1 i hi) (h.row i).Ar (hb i hi) cw,eG,o3 s.Rows i default hi,iU];by_cases k:(kJ a (s.Rows.getD i default)).Kind=0
     ·simp only [k,ahb,ahf,ahe,vK,iB (show i≤9223372036854775806 by omega),ahq]
      exact bD (i+1) _ (by omega) (by omega) (by omega)
     ·simp only [k,ahc,ahg,ahd,ahm,vK,iB (show i≤9223372036854775806 by omega),tN (show(acc.length+1)*48≤140737488355328 by omega),fO,ahr]
      rw [bD (i+1) _ (by omega) (by omega) (by rw [ahl,ahm];omega)]
      simp
    ·obtain rfl:i=s.Rows.length:=by omega
     simp only [Nat.lt_irrefl,ahc,ahe,Gh,tD s.Rows _ hi,iU,List.append_nil]
  simp only [ahf,ahe,ki];cases decide (a<s.bo)||decide (s.bm<a)
  ·simp only [ahe];rw [show td n a s n [] 0=_ from key n 0 [] (by omega) (by omega) (by simp),eG]
   rfl
  ·rfl
end
open Go Go.Ab Go.Proofs
structure AA(s:ar):Prop where
 wP:s.Rows.length≤60
 vs:∀i,i<s.Rows.length→(s.Rows.getD i default).bd.length≤40
def ae2{n:Nat}(hn:2000≤n)(s:ar):vC n s=some false∨(AA s∧vC n s=some true):=by
 unfold vC;simp only [mL];by_cases ab:s.Rows.length≤60
 ·simp only [show¬ 60<s.Rows.length by omega,ahc,ahe]
  rcases ael (L:=s7 n s) (len:=s.Rows.length) (m:=n) (Q:=λi=>(s.Rows.getD i default).bd.length≤40) (fin:=some true) (by omega)
   (λm i hi=>by
    simp only [s7,y9,hi,gF hi,ahj,ahk,mL,ahb,ahd,fO,iB (show i≤9223372036854775806 by omega)]
    by_cases h:(s.Rows.getD i default).bd.length≤40
    ·right;simp only [show¬ 40<(s.Rows.getD i default).bd.length by omega,ahc,ahe,h,true_and]
    ·left;simp only [show 40<(s.Rows.getD i default).bd.length by omega,ahb,ahd])
   (λm=>by simp only [s7,y9,Fx,ahk,Nat.lt_irrefl,ahc,ahe])with h|⟨h,g⟩
  ·exact Or.inl h
  ·exact Or.inr ⟨⟨ab,h⟩,g⟩
 ·left;simp only [show 60<s.Rows.length by omega,ahb,ahd]
structure IG(r:bS):Prop where
 st:AA r.ar
 pl:r.cj.length≤16
 cp:∀i,i<r.cj.length→ads (r.cj.getD i default) 600
 jG:r.cB.length≤10
 mz:∀i,i<r.cB.length→(r.cB.getD i default).dl.length≤20
 ag:r.bf.length≤40
 ae3:r.Queue.length≤70
 ae4:∀i,i<r.Queue.length→aen (r.Queue.getD i default)
 tH:r.Place.a'.length≤40
def IG.bM{r:bS}(h:IG r)(hi:wZ r){n:Nat}(hn:n=9223372036854775808):Iq n r where
 st:=⟨by have:=h.st.wP;omega,λi=>lj (P:=wU n) (λk hk=>by
  have ab:=hi.aeM.U4.2 k hk;have ah:=ab.wX;have ay:=ab.Aw.1;exact⟨by omega,by omega,λj=>lj (P:=λx:Version=>x.bk.S.length<n) (λm hm=>by have:=(ab.Aw.2 m hm).IA.Iy;omega) (by show 0<n;omega) j⟩) ((Iv (n:=n) (by omega)).st.row 0) i⟩
 UQ:=by have:=h.pl;omega
 Ir:=λi=>lj (P:=r0) (λk hk=>by
  obtain⟨ab,ah,ay,bl⟩:=h.cp k hk;have bQ:=Ak (r.cj.getD k default).Body;exact⟨hi.aeN.2 k hk,by omega,by omega,by omega⟩) UT i
 UR:=by have:=h.jG;omega
 Is:=λi=>lj (P:=wS n) (λk hk=>by
  have ab:=hi.aeO.2 k hk;have ah:=ab.U6.1
  exact⟨by omega,λj=>lj (P:=λx:eV=>Aq n x.Outcome) (λm hm=>by
   have ay:=(ab.U6.2 m hm).aeD.aeA;have bl:=ay.1;exact⟨by omega,λq=>lj (P:=λx:bv=>x.S.length<n) (λm hm=>by have:=(ay.2 m hm).Iy;omega) (by show 0<n;omega) q⟩) ((In (n:=n) (by omega) (l:=[]) (λx hx=>by cases hx) 0).out 0) j⟩) (In (n:=n) (by omega) (l:=[]) (λx hx=>by cases hx) 0) i
 pl:=by have:=h.tH;omega
 It:=λi=>lj (P:=wR n) (λk hk=>by
  have ab:=hi.aeP.aeI.2 k hk;have ah:=ab.aeG;have ay:=ab.U7;exact⟨by omega,by omega⟩) ((Iv (n:=n) (by omega)).It 0) i
 cc:=by have:=h.ag;omega
 jn:=λi=>lj (P:=λx:bf=>x.Key.length<n) (λk hk=>by have:=(hi.aeQ.2 k hk).wX;omega) (by show 0<n;omega) i
 Iu:=by have:=h.ae3;omega
 US:=λi=>lj (P:=wO n) (λk hk=>by
  obtain⟨ab,ah,ay,f1,f2,f3,f4⟩:=h.ae4 k hk
  exact⟨by omega,by omega,λj=>lj (P:=λx:bv=>x.S.length<n) (λm hm=>by have:=ay m hm;omega) (by show 0<n;omega) j,by omega,by omega,by omega,by omega,
   λj=>lj (P:=λx:ahs=>x.length<n) (λm hm=>by have:=f3 m hm;omega) (by show 0<n;omega) j,
   λj=>lj (P:=λx:ahs=>x.length<n) (λm hm=>by have:=f4 m hm;omega) (by show 0<n;omega) j⟩) (UV (by omega)) i
open Go Go.Ab Go.Proofs
open Go Go.Ab Go.Proofs
def w0:rF 9223372036854775808=some true:=by kernel_rfl
open Go Go.Ab Go.Proofs
def IH(x:dA):(⟨x.b4,x.Rest,x.Next,x.cY,x.dO,x.eD⟩:dA)=x:=rfl
def Vb{n:Nat}{s:ahs}(h:24<n):vE n s=some (km s):=by
 unfold vE FG km;by_cases ag:s.length≤24
 ·simp only [mL,show¬ 24<s.length by omega,ahc,ahe,ag,ahb,Bool.and_true]
  rw [tM (L:=s8 n s) (chk:=λi=>wQ (s.getD i 0)) (no:=false) (yes:=true) (show s.length<n by omega),tL,eG]
  ·intro m i hi;simp only [s8,za,FE,ahk,hi,ahb,ahd,gF hi,fO,eG,ahj,rR (show i≤4611686018427387904 by omega),Aa,z_,og]
   refine Ij ?_;unfold wQ;rw [Bool.eq_iff_iff];simp only [Bool.not_eq_true',Bool.and_eq_false_iff,Bool.not_eq_false',Bool.or_eq_true,decide_eq_true_eq,decide_eq_false_iff_not,Bool.not_not];omega
  ·intro m;simp only [s8,za,FF,aho,ahc,ahe]
 ·simp only [mL,show 24<s.length by omega,ahb,ahd,ag,ahc,Bool.and_false,eG]
def II{n:Nat}{x:ahs}(h:24<n):s9 n ⟨x,[]⟩=some (km x):=by
 unfold s9;rw [Vb h,eG,Vb h,show km []=true from rfl]
 cases km x<;>rfl
def nu(x k:ahs):Bool:=!Op.bytesLess k x
def IJ(x k:ahs):(Op.bytesLess x k||decide (x=k))=nu x k:=by
 unfold nu;rw [Ii k x]
def ae5{n:Nat}{x k:ahs}(h:24<n)(hx:km x=true):zb n ⟨x,[]⟩ k=some (nu x k):=by
 unfold zb;rw [II h,eG,hx];simp only [ahd,IJ,ahb];cases nu x k<;>rfl
def jU(x:ahs)(l:List aJ):List aJ:=l.filter λp=>nu x p.Key
def l7(l:List aJ)(k:Nat):ahs:=if k<l.length then(l.getD k default).Key else[]
def ae6(x:ahs)(l:List aJ):(jU x l).length≤l.length:=List.length_filter_le _ _
def ae7{α:Type}{a b:List α}{k:Nat}(h:a.length=k):(a++b).take k=a:=by subst h;simp
def ae8{α:Type}[Inhabited α]{a b:List α}{p:α}{k:Nat}(h:a.length=k):(a++p::b).getD k default=p:=by subst h;simp [List.getD]
def ae9{n:Nat}{s:ar}(hn:2000≤n)(cw:n≤9223372036854775808)(h:p9 n s)(ag:s.Rows.length≤1000)(a:Int){x:ahs}(hx:km x=true)(k:Nat):
 zc n s a ⟨x,[]⟩ (k:Int)=some (bif !decide ((fo s a).2=0) then([],[],(fo s a).2) else((jU x (fo s a).1).take k,l7 (jU x (fo s a).1) k,0)):=by
 unfold zc;rw [II (by omega),eG,hx]
 simp only [ahf,ahe];rw [aeZ hn cw h ag,eG];cases hd:decide ((fo s a).2=0)
 ·rfl
 ·simp only [ahf,ahe]
  have hlen:(fo s a).1.length≤1000:=by
   unfold fo;cases ii s
   ·simp
   ·cases decide (a<s.bo)||decide (s.bm<a)
    ·have:=Az (a:=a) s.Rows;simp only [ahf,ahe];omega
    ·simp
  have key:∀m i acc,(fo s a).1.length<m+i→i≤(fo s a).1.length→acc.length≤i→acc.length≤k→
   vG n (k:Int) (fo s a) ⟨x,[]⟩ m acc (i:Int)=some ((acc++jU x ((fo s a).1.drop i)).take k,l7 (acc++jU x ((fo s a).1.drop i)) k,0):=by
   intro m;induction m with
   |zero=>intro i acc ab ah;omega
   |succ m bD=>
    intro i acc ab ah ay bl;simp only [vG,FI,ahk];by_cases hi:i<(fo s a).1.length
    ·simp only [hi,gF hi,ahj,ahb,ahd,fO];rw [ae5 (by omega) hx,eG,o3 (fo s a).1 i default hi,jU,List.filter_cons]
     cases hg:nu x ((fo s a).1.getD i default).Key
     ·simp only [ahg,ahd,vF,iB (show i≤9223372036854775806 by omega),Bool.false_eq_true,ahr]
      exact bD (i+1) _ (by omega) (by omega) (by omega) bl
     ·simp only [ahf,ahe,Int.ofNat_le,ahq];by_cases hk:k≤acc.length
      ·have e:acc.length=k:=by omega
       simp only [hk,ahb,ahd,ae7 e];unfold l7;rw [if_pos (by rw [ahl,ahh];omega),ae8 e]
      ·simp only [hk,ahc,ahe,ahm,vF,iB (show i≤9223372036854775806 by omega),tN (show(acc.length+1)*48≤140737488355328 by omega),fO]
       rw [bD (i+1) _ (by omega) (by omega) (by rw [ahl,ahm];omega) (by rw [ahl,ahm];omega)]
       simp [jU]
    ·obtain rfl:i=(fo s a).1.length:=by omega
     simp only [Nat.lt_irrefl,ahc,ahe,FH,List.drop_length,jU,List.filter_nil,List.append_nil];unfold l7;rw [List.take_of_length_le bl,if_neg (by omega)]
  exact key n 0 [] (by omega) (by omega) (by simp) (by simp)
open Go Go.Ab Go.Proofs
abbrev IK:dA:=⟨0,p_,[],false,[],[]⟩
def nv(c:dA)(s:ar)(k:Int):dA×Int:=
 bif (decide (k<1) || !ii s) || !km c.Next then(IK,1)else bif c.cY then(c,0) else
 bif !decide ((fo s c.b4).2=0) then(IK,(fo s c.b4).2) else
 (⟨c.b4,c.Rest,l7 (jU c.Next (fo s c.b4).1) k.toNat,decide ((jU c.Next (fo s c.b4).1).length≤k.toNat),c.dO++(jU c.Next (fo s c.b4).1).take k.toNat,c.eD⟩,0)
structure tP(n:Nat)(c:dA):Prop where
 ff:c.Next.length<n
 ag5:c.Next.length≤9223372036854775807
 pl:c.dO.length≤100000
 tH:c.eD.length≤100000
def ae'{n:Nat}{c:dA}(h:tP n c):vD n c=some c:=by
 have ab:=h.pl;have ah:=h.tH;unfold vD y' y_;simp only [ahi,Nat.zero_add,List.nil_append,tN (show c.dO.length*48≤140737488355328 by omega),tN (show c.eD.length*16≤140737488355328 by omega),fO,eG]
def ae_{s:ar}(ag:s.Rows.length≤1000)(a:Int):(fo s a).1.length≤1000:=by
 unfold fo;cases ii s
 ·simp
 ·cases decide (a<s.bo)||decide (s.bm<a)
  ·have:=Az (a:=a) s.Rows;simp only [ahf,ahe];omega
  ·simp
def afa{s:ar}(ag:s.Rows.length≤1000)(a:Int)(p:aJ)(hp:p∈(fo s a).1):p.Key≠[]:=by
 unfold fo at hp;cases hs:ii s
 ·rw [hs]at hp;simp at hp
 ·rw [hs]at hp;cases aj:decide (a<s.bo)||decide (s.bm<a)
  ·rw [aj]at hp;simp only [ahf,ahe]at hp;obtain⟨r,aj,e,_⟩:=Ay _ _ hp;obtain⟨j,hj,rfl⟩:=UY aj;have ab:=(Va hs a j hj).1;rw [e];intro hc;rw [show(s.Rows.getD j default).Key=[]from hc]at ab
   cases ab
  ·rw [aj]at hp;simp at hp
def afb{l:List aJ}{k:Nat}(h:∀p∈l,p.Key≠[]):decide (l7 l k=[])=decide (l.length≤k):=by
 unfold l7;by_cases hk:k<l.length
 ·rw [if_pos hk,decide_eq_false (h _ (wT hk)),decide_eq_false (by omega)]
 ·rw [if_neg hk,decide_eq_true rfl,decide_eq_true (by omega)]
section
variable {n:Nat} {s:ar} (hn:2000≤n) (cw:n≤9223372036854775808) (h:p9 n s) (ag:s.Rows.length≤1000) {c:dA} (hc:tP n c)
include hn cw h ag hc
theorem IL(k:Int):pS n c s k=some (nv c s k):=by
 unfold pS nv
 (try simp only [IH])
 cases hk:decide (k<1)
 ·have IM:¬ k<1:=of_decide_eq_false hk;obtain⟨m,rfl⟩:∃m:Nat,k=(m:Int):=⟨k.toNat,by omega⟩
  simp only [ahg,ahd,ahe,Bool.false_or];rw [UJ hn cw h,eG];cases hs:ii s
  ·rfl
  ·simp only [ahf,ahg,ahd,ahe,Bool.false_or];rw [II (by omega),eG]
   cases hb:km c.Next
   ·rfl
   ·simp only [ahf,ahe];rw [ae' hc,eG];cases hd:c.cY
    ·simp only [ahe];rw [ae9 hn cw h ag c.b4 hb m,eG];cases he:decide ((fo s c.b4).2=0)
     ·simp only [ahg,ahd,he]
     ·have hlen:=ae_ ag c.b4;have b2:=ae6 c.Next (fo s c.b4).1;have hp:=hc.pl;simp only [ahf,ahe,ahj,ahb];rw [tN (by rw [List.length_take];omega),fO,afb (l:=jU c.Next (fo s c.b4).1) λp hp=>afa ag _ p (List.mem_filter.1 hp).1]
    ·simp only [ahd]
 ·rfl
end
def Vc{n:Nat}{l:List aJ}(ag:l.length<n)(cw:n≤9223372036854775808):rG n l l=some true:=by
 unfold rG;simp only [ahb,ahf,ahe];refine aej (L:=ti n l l) (len:=l.length) ag (λm i hi=>?_) λm=>?_
 ·simp only [ti,zq,ahk,hi,gF hi,ahb,ahd,fO,Bool.and_self,ahf,ahe,iB (show i≤9223372036854775806 by omega)]
 ·simp only [ti,zq,G_,aho,ahc,ahe]
structure Vd(c:dA):Prop where
 rest:IG c.Rest
 pl:c.dO.length≤60
 tH:c.eD.length≤40
 ts:∀i,i<c.eD.length→(c.eD.getD i default).length≤5000
def Vd.bM{c:dA}(h:Vd c)(hi:aeS c){n:Nat}(hn:n=9223372036854775808):tP n c:=
 ⟨by have:=hi.IC;omega,hi.IC,by have:=h.pl;omega,by have:=h.tH;omega⟩
def AA.bM{s:ar}(h:AA s)(hi:wY s){n:Nat}(hn:n=9223372036854775808):p9 n s:=
 ⟨by
  have:=h.wP;omega,λi=>lj (P:=wU n) (λk hk=>by
  have ab:=hi.U4.2 k hk;have ah:=ab.wX;have ay:=ab.Aw.1;exact⟨by omega,by omega,λj=>lj (P:=λx:Version=>x.bk.S.length<n) (λm hm=>by have:=(ab.Aw.2 m hm).IA.Iy;omega) (by show 0<n;omega) j⟩) ((Iv (n:=n) (by omega)).st.row 0) i⟩
open Go Go.Ab Go.Proofs
def afc{c:UInt8}(h:l4 c=true):wQ c=true:=by
 unfold l4 at h;unfold wQ;simp only [Bool.or_eq_true,decide_eq_true_eq]at h;simp only [Bool.not_eq_true',Bool.or_eq_false_iff,decide_eq_false_iff_not];omega
def afd{k:ahs}(h:ih k=true):km k=true:=by
 unfold ih at h;unfold km;rw [Bool.and_eq_true,rY];simp only [Bool.and_eq_true,List.all_eq_true,List.mem_range,decide_eq_true_eq]at h ⊢;exact⟨λi hi=>afc (h.2 i hi),h.1.2⟩
def afe(k:ahs):nu k k=true:=by
 rw [←IJ,decide_eq_true rfl,ahp]
def Ve{x:ahs}{l:List aJ}(h:∀p∈l,nu x p.Key=true):jU x l=l:=List.filter_eq_self.2 h
def aff(l:List aJ):jU [] l=l:=Ve λp _=>by
 unfold nu;cases p.Key<;>rfl
def Vf:∀{l:List aJ} {k:Nat},o6 (l.map (·.Key))→k<l.length→jU (l.getD k default).Key l=l.drop k
 |[],k,_,h=>by simp at h
 |p::l,0,h,_=>by
  refine Ve λq aP=>?_
  rcases List.mem_cons.1 aP with rfl|aP
  ·exact afe _
  ·have:=h.1 q.Key (List.mem_map.2 ⟨q,aP,rfl⟩)
   show nu p.Key q.Key=true
   rw [←IJ,this,Bool.true_or]
 |p::l,k+1,h,hk=>by
  have nQ:k<l.length:=by simpa using hk
  rw [List.getD_cons_succ,List.drop_succ_cons,←Vf h.2 nQ];unfold jU;have ab:=h.1 (l.getD k default).Key (List.mem_map.2 ⟨_,wT nQ,rfl⟩);rw [List.filter_cons,if_neg];unfold nu;rw [ab];simp
section
variable {W:List aJ} {a:Int}
def jV(a:Int)(W:List aJ):dA:=⟨a,p_,[],true,W,[]⟩
def iV(a:Int)(W:List aJ)(k:Nat):dA:=⟨a,p_,if k=0 then[]else l7 W k,false,W.take k,[]⟩
theorem step_done{s:ar}(hs:ii s=true){k:Int}(hk:1≤k):nv (jV a W) s k=(jV a W,0):=by
 unfold nv jV;rw [decide_eq_false (show¬ k<1 by omega),hs,show km []=true from rfl]
 rfl
theorem Vg{s:ar}(hs:ii s=true)(kn:fo s a=(W,0))(tQ:o6 (W.map (·.Key)))(o8:∀p∈W,ih p.Key=true){j:Nat}(hj:j=0∨j<W.length){k:Int}(hk:1≤k):
 nv (iV a W j) s k=(if j+k.toNat<W.length then iV a W (j+k.toNat)else jV a W,0):=by
 have hb:km (iV a W j).Next=true:=by
  unfold iV;by_cases h0:j=0
  ·rw [if_pos h0];rfl
  ·rw [if_neg h0];unfold l7;have:j<W.length:=by omega
   rw [if_pos this];exact afd (o8 _ (wT this))
 have b2:jU (iV a W j).Next W=W.drop j:=by
  unfold iV;by_cases h0:j=0
  ·subst h0;rw [if_pos rfl,aff,List.drop_zero]
  ·rw [if_neg h0];unfold l7;have:j<W.length:=by omega
   rw [if_pos this];exact Vf tQ this
 unfold nv;rw [decide_eq_false (show¬ k<1 by omega),hs,hb,show(iV a W j).cY=false from rfl,show(iV a W j).b4=a from rfl,kn]
 simp only [ahf,Bool.or_self,ahe,ahb];rw [b2];by_cases h:j+k.toNat<W.length
 ·have ah:k.toNat<(W.drop j).length:=by rw [List.length_drop];omega
  rw [if_pos h,decide_eq_false (by omega)]
  unfold iV l7;simp only [if_pos ah,if_neg (show¬ j+k.toNat=0 by omega),if_pos h]
  rw [show(W.drop j).getD k.toNat default=W.getD (j+k.toNat) default by simp [List.getD],List.take_add]
 ·have ah:(W.drop j).length≤k.toNat:=by rw [List.length_drop];omega
  rw [if_neg h,decide_eq_true ah,List.take_of_length_le ah];unfold iV jV l7;simp only [if_neg (show¬ k.toNat<(W.drop j).length by omega),List.take_append_drop]
end
def o9(n:Nat)(dx:List Int)(bE:List aJ×Int)(s:ar)(aD:dA×Int)(m:Nat)(c:dA)(i:Int):ahw:=
 tj n dx bE s aD m c.b4 c.Rest.Pos c.Rest.Queue c.Rest.cE c.Next c.cY c.dO c.eD c.Rest.ar.bo c.Rest.ar.bm c.Rest.ar.Rows c.Rest.cj c.Rest.cB c.Rest.Place.Version c.Rest.Place.a' c.Rest.bf i
def IN(n:Nat)(dx:List Int)(bE:List aJ×Int)(s:ar)(aD:dA×Int)(m:Nat)(c:dA)(i k:Int):ahw:=
 Option.bind (pS n c s k) λr=>
 bif (bif (bif (!decide (r.2=0))then true else(decide (((bE.1.length:Nat):Int)<((r.1.dO.length:Nat):Int))))then true else(bif (bif (!c.cY) then(!r.1.cY)else false) then(!decide (((r.1.dO.length:Nat):Int)=(ahu (((c.dO.length:Nat):Int)+k))))else false))then some false
 else o9 n dx bE s aD m r.1 (ahu (i+1))
def afg(n:Nat)(dx:List Int)(bE:List aJ×Int)(s:ar)(aD:dA×Int)(m:Nat)(c:dA)(i:Nat)(hi:i≤dx.length):
 o9 n dx bE s aD (m+1) c (i:Int)=IN n dx bE s aD m c (i:Int) (if i<dx.length then(bif decide (dx.getD i default<1)then 1 else dx.getD i default)else 100):=by
 unfold o9 IN;simp only [tj,zB,Int.ofNat_le,ahk,hi,ahb,ahd];by_cases h:i<dx.length
 ·simp only [h,ahb,ahd,gF h,fO,ahj,ahq,vN,zu,IH,o9,ahk]
 ·simp only [h,ahc,ahe,ahr,vN,zu,IH,o9,ahk]
def afh(n:Nat)(dx:List Int)(bE:List aJ×Int)(s:ar)(aD:dA×Int)(m:Nat)(c:dA)(i:Nat)(hi:dx.length<i)(ab:aD.1.cY=true)(ah:c.cY=true)(ay:c.Next=[])(bl:rG n aD.1.dO bE.1=some true)(bQ:rG n c.dO bE.1=some true)(df:rF n=some true):
 o9 n dx bE s aD (m+1) c (i:Int)=some true:=by
 unfold o9;simp only [tj,zB,Int.ofNat_le,show¬ i≤dx.length by omega,ahc,ahe,Ha,ab,ah,ay,ahb,ahd,bl,bQ,df,eG]
def afi{n:Nat}{a:Int}{W:List aJ}(hn:2000≤n)(kn:W.length≤60):tP n (jV a W):=⟨by show 0<n;omega,by show 0≤_;omega,by show W.length≤_;omega,by show 0≤_;omega⟩
def afj{n:Nat}{a:Int}{W:List aJ}(hn:2000≤n)(kn:W.length≤60)(o8:∀p∈W,ih p.Key=true)(j:Nat):tP n (iV a W j):=by
 have hk:(iV a W j).Next.length≤24:=by
  unfold iV l7;by_cases h0:j=0
  ·simp only [if_pos h0];simp
  ·simp only [if_neg h0];by_cases h:j<W.length
   ·rw [if_pos h];have:=o8 _ (wT h)
    unfold ih at this;simp only [Bool.and_eq_true,decide_eq_true_eq]at this;exact this.1.2
   ·rw [if_neg h];simp
 exact⟨by omega,by omega,by show(W.take j).length≤_;rw [List.length_take];omega,by show 0≤_;omega⟩
def afk{n:Nat}{s:ar}{dx:List Int}{W:List aJ}{a:Int}{aD:dA×Int}(hn:2000≤n)(cw:n≤9223372036854775808)(h:p9 n s)(ag:s.Rows.length≤1000)(hs:ii s=true)(iT:fo s a=(W,0))(kn:W.length≤60)(dQ:dx.length≤20)
 (tQ:o6 (W.map (·.Key))) (o8:∀p∈W,ih p.Key=true) (bl:aD=(jV a W,0)) (df:rF n=some true):
 ∀m i c,dx.length+2≤m+i→i≤dx.length→(c=jV a W∨∃j,(j=0∨j<W.length)∧c=iV a W j)→o9 n dx (W,0) s aD m c (i:Int)=some true:=by
 subst bl
 have hd:∀m i,dx.length<i→0<m→o9 n dx (W,0) s (jV a W,0) m (jV a W) (i:Int)=some true:=λm i hi hm=>by
  obtain⟨m,rfl⟩:∃k,m=k+1:=⟨m-1,by omega⟩
  exact afh n dx (W,0) s (jV a W,0) m (jV a W) i hi rfl rfl rfl (Vc (by show W.length<n;omega) cw) (Vc (by show W.length<n;omega) cw) df
 intro m;induction m with
 |zero=>intro i c ab ah;omega
 |succ m bD=>
  intro i c ab ah hc;rw [afg _ _ _ _ _ _ _ _ ah];obtain⟨k,hk⟩:∃k,k=(if i<dx.length then(bif decide (dx.getD i default<1)then 1 else dx.getD i default)else 100):=⟨_,rfl⟩
  have IM:1≤k:=by
   rw [hk];by_cases hi:i<dx.length
   ·rw [if_pos hi];by_cases bQ:dx.getD i default<1
    ·rw [decide_eq_true bQ];exact Int.le_refl 1
    ·rw [decide_eq_false bQ];show 1≤dx.getD i default;omega
   ·rw [if_neg hi];decide
  have nP:¬ i<dx.length→k=100:=λhi=>by rw [hk,if_neg hi]
  rw [←hk];clear hk;unfold IN;rcases hc with rfl|⟨j,hj,rfl⟩
  ·rw [IL hn cw h ag (afi hn kn) k,eG,step_done hs IM];simp only [ahb,ahf,ahe,show(jV a W).dO=W from rfl,show(jV a W).cY=true from rfl,aho,ahc,iB (show i≤9223372036854775806 by omega)]
   by_cases hi:i<dx.length
   ·exact bD (i+1) _ (by omega) (by omega) (Or.inl rfl)
   ·exact hd m (i+1) (by omega) (by omega)
  ·rw [IL hn cw h ag (afj hn kn o8 j) k,eG,Vg hs iT tQ o8 hj IM];by_cases mx:j+k.toNat<W.length
   ·rw [if_pos mx];have hi:i<dx.length:=Decidable.byContradiction λhi=>by have:=nP hi;omega
    have e1:(W.take j).length=j:=by rw [List.length_take];omega
    have e2:(W.take (j+k.toNat)).length=j+k.toNat:=by rw [List.length_take];omega
    have e3:ahu (((j:Nat):Int)+k)=((j+k.toNat:Nat):Int):=by rw [wr]<;>omega
    simp only [ahb,ahf,ahe,show(iV a W (j+k.toNat)).dO=W.take (j+k.toNat)from rfl,show(iV a W j).dO=W.take j from rfl,show(iV a W j).cY=false from rfl,show(iV a W (j+k.toNat)).cY=false from rfl,e1,e2,e3,ahg,ahd,ahk,
     show¬ W.length<j+k.toNat by omega,ahc,iB (show i≤9223372036854775806 by omega)]
    exact bD (i+1) _ (by omega) (by omega) (Or.inr ⟨_,Or.inr mx,rfl⟩)
   ·rw [if_neg mx];simp only [ahb,ahf,ahe,show(jV a W).dO=W from rfl,show(jV a W).cY=true from rfl,show(iV a W j).cY=false from rfl,ahg,ahd,aho,ahc,iB (show i≤9223372036854775806 by omega)]
    by_cases hi:i<dx.length
    ·exact bD (i+1) _ (by omega) (by omega) (Or.inl rfl)
    ·exact hd m (i+1) (by omega) (by omega)
def afl(s:ar)(a:Int)(dx:List Int)(hs:wY s):Hl 9223372036854775808 s a dx=some true:=by
 unfold Hl
 (try simp only [aef])
 rcases ae2 (n:=9223372036854775808) (by omega) s with ah|⟨qr,ah⟩
 ·simp only [ah,eG,ahg,ahd,w0]
 ·rw [ah,eG];simp only [ahf,ahe,mL];by_cases dQ:dx.length≤20
  ·simp only [show¬ 20<dx.length by omega,ahc,ahe]
   have ev:=qr.bM hs (n:=9223372036854775808) rfl;have ag6:=qr.wP;have hc0:tP 9223372036854775808 (⟨a,p_,[],false,[],[]⟩:dA):=⟨by show 0<_;omega,by show 0≤_;omega,by show 0≤_;omega,by show 0≤_;omega⟩
   rw [IL (by omega) (by omega) ev (by omega) hc0 100,eG,ae0 (by omega) (by omega) ev (by omega) (λi hi=>by have:=qr.vs i hi;omega) a,eG]
   have hb:km []=true:=rfl;cases qa:ii s
   ·have e1:nv (⟨a,p_,[],false,[],[]⟩:dA) s 100=(IK,1):=by unfold nv;rw [qa];rfl
    have e2:fo s a=([],1):=by unfold fo;rw [qa];rfl
    simp only [e1,e2,ahb,ahf,ahe,w0,eG];rfl
   ·by_cases he:(fo s a).2=0
    ·obtain⟨W,iT⟩:∃W,fo s a=(W,0):=⟨(fo s a).1,by rw [←he]⟩
     have IP:W=iU a s.Rows:=by
      unfold fo at iT;rw [qa]at iT;cases aj:decide (a<s.bo)||decide (s.bm<a)
      ·rw [aj]at iT;simp only [ahf,ahe,Prod.mk.injEq]at iT;exact iT.1.symm
      ·rw [aj]at iT;simp at iT
     have kn:W.length≤60:=by have:=Az (a:=a) s.Rows;rw [IP];omega
     have tQ:o6 (W.map (·.Key)):=by rw [IP];exact U_ _ (aeY qa (by omega))
     have o8:∀p∈W,ih p.Key=true:=λp hp=>by
      rw [IP]at hp;obtain⟨r,aj,e,_⟩:=Ay _ _ hp;obtain⟨j,hj,rfl⟩:=UY aj;rw [e];exact(Va qa a j hj).1
     have uv:nv (⟨a,p_,[],false,[],[]⟩:dA) s 100=(jV a W,0):=by
      have:=Vg (a:=a) qa iT tQ o8 (j:=0) (Or.inl rfl) (k:=100) (by omega)
      rw [if_neg (show¬ 0+(100:Int).toNat<W.length by show¬ 0+100<W.length;omega)]at this
      exact this
     rw [uv,iT];simp only [ahb,ahf,ahe];exact afk (by omega) (by omega) ev (by omega) qa iT kn dQ tQ o8 rfl w0 9223372036854775808 0 (iV a W 0) (by omega) (by omega) (Or.inr ⟨0,Or.inl rfl,rfl⟩)
    ·have e1:(nv (⟨a,p_,[],false,[],[]⟩:dA) s 100).2=(fo s a).2:=by
      unfold nv;rw [qa,hb];simp only [decide_eq_false he];rfl
     rw [e1];simp only [ahb,ahf,ahe,he,ahc,ahg,ahd,w0,eG]
  ·simp only [show 20<dx.length by omega,ahb,ahd,w0,eG]
end Go.Ab.Y

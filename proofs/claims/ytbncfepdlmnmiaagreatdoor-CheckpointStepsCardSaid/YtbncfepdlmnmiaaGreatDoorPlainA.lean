/- The plain law: what the functions compute answers as the statement says. -/
import Derived.Lib.ItoaNum
import Derived.Lib.ItoaLen
import Derived.Test.YtbncfepdlmnmiaaGreatDoorCtrB
set_option linter.all false
namespace Go.Ab.Y
open Go Go.Ab Go.Proofs
def ajt{h:Decidable True}:@decide True h=true:=_root_.decide_true h
def aju{h:Decidable False}:@decide False h=false:=_root_.decide_false h
def ajB:(∀n:Nat,(n:Int).toNat=n)∧∀(α:Type)(_:Inhabited α)(l:List α)(n:Nat),ajN l n=l.getD n default:=⟨λ_=>rfl,λ_ _ _ _=>rfl⟩
def ajv{α:Type}{a b:α}:cond true a b=a:=rfl
def ajw{α:Type}{a b:α}:cond false a b=b:=rfl
def ajx:(!true)=false:=rfl
def ajy:(!false)=true:=rfl
def ajz{α:Type}{a:α}{l:List α}:(a::l).length=l.length+1:=rfl
def ajA{α:Type}:([]:List α).length=0:=rfl
def ajC{a b:Nat}:((a:Int)<b)↔a<b:=_root_.Int.ofNat_lt
def ajD{α:Type}{a b:List α}:(a++b).length=a.length+b.length:=_root_.List.length_append
def ajE{α:Type}{a:α}:[a].length=1:=rfl
def ajF{α:Type}{b:Bool}{x y:α}:cond b x y=if b then x else y:=_root_.Bool.cond_eq_ite b x y
def ajG(a:Int):¬a<a:=_root_.Int.lt_irrefl a
def ajH(a:Bool):(a||true)=true:=_root_.Bool.or_true a
def ajI{α:Type}{a b:α}{h:Decidable True}:@ite α True h a b=a:=_root_.if_true a b
def ajJ{α:Type}{a b:α}{h:Decidable False}:@ite α False h a b=b:=_root_.if_false a b
def wr{x:Int}(ab : -9223372036854775808≤x)(ai:x≤9223372036854775807):ajM x=x:=by(try unfold ajM);rw [IntKind.wrap_i64];omega
def lL{i:Nat}(h:i≤4611686018427387904):ajM ((i:Int)+1)=((i+1:Nat):Int):=by rw [wr]<;>omega
def fy{i:Nat}(h:i≤9223372036854775806):ajM ((i:Int)+1)=((i+1:Nat):Int):=by rw [wr]<;>omega
def eo{i n:Nat}(h:i<n):aP (i:Int) n=true:=by simp [aP];omega
def aer{n:Nat}(h:0<n):aP 0 n=true:=by simp [aP];omega
@[simp] def dy {α : Type} (x : Option α) : au true x = x := rfl
def mq{α:Type}(l:List α)(i:Nat)(d:α)(h:i<l.length):l.drop i=l.getD i d::l.drop (i+1):=by
 rw [List.drop_eq_getElem_cons h];simp [List.getD,h]
def pU{α:Type}(l:List α)(i:Nat)(h:¬ i<l.length):l.drop i=[]:=List.drop_of_length_le (by omega)
def Bc(a k:Nat):((a:Int)<(no_index (OfNat.ofNat k):Int))↔a<k:=Int.ofNat_lt
def w3(a k:Nat):((a:Int)≤(no_index (OfNat.ofNat k):Int))↔a≤k:=Int.ofNat_le
def ix(a k:Nat):((no_index (OfNat.ofNat k):Int)<(a:Int))↔k<a:=Int.ofNat_lt
def Bd(a k:Nat):((no_index (OfNat.ofNat k):Int)≤(a:Int))↔k≤a:=Int.ofNat_le
def rN(a k:Nat):((a:Int)=(no_index (OfNat.ofNat k):Int))↔a=k:=Int.ofNat_inj
def ig(a b:Bool):(bif a then true else b)=(a||b):=by cases a<;>rfl
def lM(a b:Bool):(bif a then b else false)=(a&&b):=by cases a<;>rfl
def c_{α β:Type}(a:α)(f:α→Option β):Option.bind (some a) f=f a:=rfl
def okB(c:UInt8):Bool:=decide (32≤c.toNat)&&decide (c.toNat≤126)
def mr(s:ajK):Bool:=s.all okB&&decide (s.length≤64)
def UQ(c:UInt8):(decide (c.toNat<32)||decide (126<c.toNat)) = !okB c:=by
 unfold okB;by_cases h:c.toNat<32
 ·simp [h]
 ·by_cases ai:c.toNat≤126
  ·simp [ai,show 32≤c.toNat by omega,h]
  ·simp [ai];omega
def aes(n:Nat)(s:ajK)(hs:s.length≤9223372036854775807):∀m i,s.length<i+m→i≤s.length→sX n s m (i:Int)=some ((s.drop i).all okB&&decide (s.length≤64)):=by
 intro m;induction m with
 |zero=>intro i h ai;omega
 |succ m bv=>
  intro i hm hi;simp only [sX,Ep,Eo];by_cases h:i<s.length
  ·rw [mq s i 0 h,fy (by omega),bv (i+1) (by omega) (by omega)]
   simp only [h,eo h,ajB,ajC,ajt,ajv,dy,ajH,List.all_cons,Bc,ix,ig,UQ];cases okB (s.getD i 0)<;>simp
  ·rw [pU s i h];simp [h,w3]
def aet{n:Nat}{s:ajK}(h:s.length<n)(hs:s.length≤9223372036854775807):Er n s=some (mr s):=aes n s hs n 0 (by omega) (by omega)
def Ji:List ajK:=[[112,114,111,99],[108,101,116],[112,117,116],[100,101,108,101,116,101],[105,102],[101,108,115,101],[102,111,114],[116,111],[109,97,120],[101,109,105,116],[97,98,111,114,116],[110,111,116],[97,110,100],[111,114],[105,110,116],[115,116,114],[98,111,111,108],[116,101,120,116],[108,101,110],[103,101,116,105,110,116],[103,101,116,115,116,114],[104,97,115],[110,111,119],[114,97,110,100,111,109],[110,111,100,101]]
def UR(s:ajK):Bool:=decide (s∈Ji)
def US(c:UInt8):Bool:=decide (97≤c.toNat)&&decide (c.toNat≤122)
def aeu(c:UInt8)(s:ajK):oA (c::s)=bif mT c then oA s+1 else 0:=by
 unfold oA;cases h:mT c<;>simp [List.takeWhile,h]
def nb(s:ajK):Bool:=
 match s with
 |[]=>false
 |c::l=>decide (l.length≤15)&&US c&&decide (oA (c::l)=l.length+1) && !UR (c::l)
def tU(op:Int):Int:=bif decide (op<1)||decide (27<op)then -1 else bif decide (op≤3)||decide (25≤op)then 0 else bif decide (op=9)||decide (op=18)||decide (20≤op)then 1 else 2
def UT(e:Expr)(depth:Int):Int:=
 if tU e.Op<0∨(e.Op≠1∧e.N≠0)∨(e.Op≠2∧e.Op≠3∧e.S≠[])then 1
 else if e.Op=3∧nb e.S=false then 7
 else if e.N<0∨(e.Op=2∧mr e.S=false)∨(e.az.length:Int)≠tU e.Op then 1
 else if 12<depth then 2 else 0
mutual
def ji:Expr→Nat
 |⟨_,_,S,az⟩=>30+S.length+mt az
def mt:List Expr→Nat
 |[]=>0
 |x::l=>ji x+1+mt l
end
def Jj(e:Expr):ji e=30+e.S.length+mt e.az:=by cases e;rfl
def UU:∀l:List Expr,l.length≤mt l
 |[]=>Nat.le_refl _
 |x::l=>by have:=UU l;simp only [mt,ajz];omega
def UV:∀(l:List Expr) (i:Nat),i<l.length→ji (l.getD i default)<mt l
 |[],i,h=>by simp at h
 |x::l,0,h=>by simp only [mt,List.getD_cons_zero];omega
 |x::l,i+1,h=>by have:=UV l i (by simpa using h);simp only [mt,List.getD_cons_succ];omega
def UW:∀(n:Nat) (e:Expr),ji e≤n→ji e≤140737488351232→rA n e e=some true:=by
 intro n;induction n with
 |zero=>intro e h;rw [Jj]at h;omega
 |succ n bv=>
  intro e h ah;have aev:=Jj e;have aew:=UU e.az;simp only [rA,Hk,ajt,ajx,ajw]
  have nc:∀m i,e.az.length<i+m→i≤e.az.length→wa n (rA n) e e m (i:Int)=some true:=by
   intro m;induction m with
   |zero=>intro i ab ai;omega
   |succ m w4=>
    intro i ab ai;simp only [wa,Hj,Hi];by_cases hi:i<e.az.length
    ·have hg:=UV e.az i hi;simp only [hi,eo hi,ajB,ajC,ajt,ajv,dy,bv (e.az.getD i default) (by omega) (by omega),c_,lL (show i≤4611686018427387904 by omega),ajx,ajw]
     exact w4 (i+1) (by omega) (by omega)
    ·simp only [hi,ajC,aju,ajw]
  exact nc n 0 (by omega) (by omega)
open Go Go.Ab Go.Proofs
def val(u:Nat)(l:ajK):Nat:=l.foldl (λu c=>u*10+(c.toNat-48)) u
open Go Go.Ab Go.Proofs
open Go Go.Ab Go.Proofs
def up(k:Nat):Int ⊕ (ajK×Nat)→Int ⊕ (ajK×Nat)
 |.inl e=>.inl e
 |.inr p=>.inr (p.1,p.2+k)
open Go Go.Ab Go.Proofs
def two:List ajK:=[[61,61],[33,61],[60,61],[62,61],[43,43]]
def aex:ajK:=[40,41,123,125,44,59,58,61,60,62,43,45,42,47,37]
def marks:List ajK:=two++aex.map λc=>[c]
open Go Go.Ab Go.Proofs
open Go Go.Ab Go.Proofs
def fd(s:ajK)(i:Nat):Nat:=(s.take i).count 10
open Go Go.Ab Go.Proofs
def clone{n:Nat}{s:ajK}(h:s.length≤281474976710656):zr n s=some s:=by
 unfold zr y1;simp only [h,ajt,dy,c_]
open Go Go.Ab Go.Proofs
def h1(l:List Token)(i:Nat)(w:ajK):Bool:=
 decide (i<l.length)&&((decide ((l.getD i default).Kind=2)||decide ((l.getD i default).Kind=5))&&decide ((l.getD i default).Text=w))
def UX{l:List Token}{i:Nat}{w:ajK}(h:h1 l i w=true):i<l.length:=by
 unfold h1 at h;simp only [Bool.and_eq_true,decide_eq_true_eq]at h;exact h.1
def Jk(n:Nat)(l:List Token)(i:Nat)(w:ajK):pD n w ⟨l,(i:Int)⟩=some (h1 l i w):=by
 unfold pD h1;simp only [ajB,Int.ofNat_le,ig,lM];by_cases h:i<l.length
 ·simp only [show¬ l.length≤i by omega,aju,ajw,eo h,dy,h,ajt,Bool.true_and]
 ·simp only [show l.length≤i by omega,ajt,ajv,h,aju,Bool.false_and]
def UY(l:List Token)(i:Nat):Int:=
 if i<l.length then(l.getD i default).kv else if l.length=0 then 1 else(l.getD (l.length-1) default).kv
def sk(l:List Token)(i:Nat)(c:Int):V:=.iface 379 (.agg [.int .i64 (UY l i),.int .i64 c])
def Be(l:List Token)(i:Nat)(c:Int):Int:=if i<l.length then c else 6
def UZ(n:Nat)(l:List Token)(i:Nat)(c:Int)(ah:l.length≤4611686018427387904):oG n c ⟨l,(i:Int)⟩=some (.be (sk l i (Be l i c)) ()):=by
 unfold oG FQ FP sk UY Be;simp only [ajB,ajC];by_cases h:i<l.length
 ·simp only [h,eo h,ajt,ajv,dy,ajI]
 ·simp only [h,aju,ajw,ajJ];by_cases h0:l.length=0
  ·simp only [h0,ajI];rfl
  ·have:ajM (((l.length:Nat):Int)-1)=((l.length-1:Nat):Int):=by rw [wr]<;>omega
   rw [this];simp only [rN,h0,aju,ajw,eo (show l.length-1<l.length by omega),dy,ajB,ajJ]
def aey(n:Nat)(l:List Token)(i:Nat)(w:ajK)(hi:i≤4611686018427387904):jA n w ⟨l,(i:Int)⟩=some (h1 l i w,(((bif h1 l i w then i+1 else i):Nat):Int)):=by
 unfold jA;rw [Jk,c_,lL hi];cases h1 l i w<;>rfl
def U0(n:Nat)(l:List Token)(i:Nat)(w:ajK)(hi:i≤4611686018427387904)(ah:l.length≤4611686018427387904):
 je n w ⟨l,(i:Int)⟩=some (bif h1 l i w then .ret () ((i+1:Nat):Int)else .be (sk l i (Be l i 5)) (i:Int)):=by
 unfold je;rw [aey n l i w hi,c_];cases h1 l i w
 ·simp only [ajy,ajv,ajw];rw [UZ n l i 5 ah,c_];rfl
 ·rfl
def pV:List (ajK×Int×Int):=[([111,114],1,17),([97,110,100],2,16),([61,61],4,10),([33,61],4,11),([60],4,12),([60,61],4,13),([62],4,14),([62,61],4,15),([43,43],5,19),([43],6,4),([45],6,5),([42],7,6),([47],7,7),([37],7,8)]
def U1:Option (ajK×Int×Int)→Int×Int
 |none=>(0,0)
 |some r=>r.2
def Jl(l:List Token)(i:Nat):Int×Int:=U1 (pV.find? λr=>h1 l i r.1)
def Jm{l:List Token}{i:Nat}(h:i<l.length)(hk:(l.getD i default).Kind=2∨(l.getD i default).Kind=5)(w:ajK):h1 l i w=decide ((l.getD i default).Text=w):=by
 unfold h1;have:(decide ((l.getD i default).Kind=2)||decide ((l.getD i default).Kind=5))=true:=by rcases hk with hk|hk<;>rw [decide_eq_true hk]<;>simp
 rw [this,decide_eq_true h];rfl
def Bf{l:List Token}{i:Nat}(h:¬ (i<l.length∧((l.getD i default).Kind=2∨(l.getD i default).Kind=5)))(w:ajK):h1 l i w=false:=by
 unfold h1;by_cases ab:i<l.length
 ·by_cases ai:(l.getD i default).Kind=2
  ·exact absurd ⟨ab,Or.inl ai⟩ h
  ·by_cases ay:(l.getD i default).Kind=5
   ·exact absurd ⟨ab,Or.inr ay⟩ h
   ·rw [decide_eq_false ai,decide_eq_false ay];simp
 ·rw [decide_eq_false ab];rfl
def aez(n:Nat)(l:List Token)(i:Nat):zu n ⟨l,(i:Int)⟩=some (Jl l i):=by
 unfold zu Jl
 (simp only [ajB])
 simp only [Int.ofNat_le,lM];by_cases h:i<l.length
 ·simp only [show¬ l.length≤i by omega,aju,ajw,eo h,dy]
  by_cases hk:(l.getD i default).Kind=2∨(l.getD i default).Kind=5
  ·have gy:((!decide ((l.getD i default).Kind=2)) && !decide ((l.getD i default).Kind=5))=false:=by
    rcases hk with hk|hk<;>rw [decide_eq_true hk]<;>simp
   rw [gy];simp only [ajw,Jm h hk];generalize (l.getD i default).Text=w
   by_cases hw:w∈pV.map (·.1)
   ·simp only [pV,List.map_cons,List.map_nil,List.mem_cons,List.not_mem_nil,or_false]at hw;rcases hw with rfl|rfl|rfl|rfl|rfl|rfl|rfl|rfl|rfl|rfl|rfl|rfl|rfl|rfl<;>rfl
   ·simp only [pV,List.map_cons,List.map_nil,List.mem_cons,List.not_mem_nil,or_false,not_or]at hw;simp only [hw,aju,ajw,pV,List.find?_cons,List.find?_nil];rfl
  ·have gy:((!decide ((l.getD i default).Kind=2)) && !decide ((l.getD i default).Kind=5))=true:=by
    simp only [not_or]at hk;rw [decide_eq_false hk.1,decide_eq_false hk.2];rfl
   rw [gy];simp only [ajv,Bf (λx=>hk x.2),pV,List.find?_cons,List.find?_nil]
   rfl
 ·simp only [show l.length≤i by omega,ajt,ajv,Bf (λx=>h x.1),pV,List.find?_cons,List.find?_nil]
  rfl
open Go Go.Ab Go.Proofs
def n2:List (ajK×Int):=[([116,101,120,116],20),([108,101,110],21),([103,101,116,105,110,116],22),([103,101,116,115,116,114],23),([104,97,115],24),([110,111,119],25),([114,97,110,100,111,109],26),([110,111,100,101],27)]
def call2:Option (ajK×Int)→Int
 |none=>0
 |some r=>r.2
def Bg(l:List Token)(i:Nat):Int:=call2 (n2.find? λr=>h1 l i r.1)
def U2(l:List Token):Prop:=∀t,t∈l→t.Kind=5→t.Text∈marks
def aeA(n:Nat)(l:List Token)(i:Nat)(hg:U2 l):zw n ⟨l,(i:Int)⟩=some (Bg l i):=by
 unfold zw Bg
 (simp only [ajB])
 simp only [Int.ofNat_le,ig];by_cases h:i<l.length
 ·simp only [show¬ l.length≤i by omega,aju,Bool.false_or,eo h,dy]
  by_cases hk:(l.getD i default).Kind=2
  ·simp only [hk,ajt,ajx,ajw,Jm h (Or.inl hk)];generalize (l.getD i default).Text=w
   by_cases hw:w∈n2.map (·.1)
   ·simp only [n2,List.map_cons,List.map_nil,List.mem_cons,List.not_mem_nil,or_false]at hw;rcases hw with rfl|rfl|rfl|rfl|rfl|rfl|rfl|rfl<;>rfl
   ·simp only [n2,List.map_cons,List.map_nil,List.mem_cons,List.not_mem_nil,or_false,not_or]at hw;simp only [hw,aju,ajw,n2,List.find?_cons,List.find?_nil];rfl
  ·simp only [hk,aju,ajy,ajv];by_cases bQ:(l.getD i default).Kind=5
   ·have hm:(l.getD i default).Text∈marks:=hg _ (by simp [List.getD,h]) bQ
    simp only [Jm h (Or.inr bQ)];generalize (l.getD i default).Text=w at hm
    have:∀w,w∈marks→n2.find? (λr=>decide (w=r.1))=none:=by decide
    rw [this w hm];rfl
   ·have:∀w,h1 l i w=false:=Bf (λx=>by rcases x.2 with e|e;exact hk e;exact bQ e)
    simp only [this,n2,List.find?_cons,List.find?_nil];rfl
 ·simp only [show l.length≤i by omega,ajt,Bool.true_or,dy,ajv,Bf (λx=>h x.1),n2,List.find?_cons,List.find?_nil]
  rfl
def aeB(n:Nat)(l:List Token)(i d:Nat)(ah:l.length≤4611686018427387904)(hd:d≤24):s5 n (d:Int) ⟨l,(i:Int)⟩=some (if d=24 then .be (sk l i (Be l i 2)) ()else .ret ((d+1:Nat):Int) ()):=by
 unfold s5 zv;simp only [Bd];by_cases h:d=24
 ·simp only [show 24≤d by omega,ajt,ajv,UZ n l i 2 ah,c_,h,ajI];rfl
 ·simp only [show¬ 24≤d by omega,aju,ajw,h,ajJ]
  rw [lL (by omega)]
open Go Go.Ab Go.Proofs
def U3(n:Nat):jf (n+1)=vC n (jf n) (vG n) (pE n) (rk n):=rfl
def aeC(n:Nat):pE (n+1)=zy n (jf n) (vG n) (pE n) (rk n):=rfl
def aeD(n:Nat):rk (n+1)=zz n (jf n) (vG n) (pE n) (rk n):=rfl
section
variable {l:List Token}
theorem aeE{i:Nat}(h:i≤1000000000):ajM (((i+1:Nat):Int)-1)=(i:Int):=by rw [wr]<;>omega
end
open Go Go.Ab Go.Proofs
def aeF(e:Expr):(⟨e.Op,e.N,e.S,e.az⟩:Expr)=e:=by cases e;rfl
section
variable {l:List Token}
end
open Go Go.Ab Go.Proofs
open Go Go.Ab Go.Proofs
section
variable {α:Type} {wt:α→Nat} {l:List Token}
end
mutual
def fst:Stmt→Nat
 |⟨_,Name,_,A,B,Body,c7⟩=>80+Name.length+ji A+ji B+iy Body+iy c7
def iy:List Stmt→Nat
 |[]=>0
 |x::l=>fst x+1+iy l
end
def aeG(s:Stmt):(⟨s.Op,s.Name,s.Max,s.A,s.B,s.Body,s.c7⟩:Stmt)=s:=by cases s;rfl
def fst_eq(s:Stmt):fst s=80+s.Name.length+ji s.A+ji s.B+iy s.Body+iy s.c7:=by cases s;rfl
def U4:∀l:List Stmt,80*l.length≤iy l
 |[]=>Nat.le_refl _
 |x::l=>by have:=U4 l;have:=fst_eq x;simp only [iy,ajz];omega
open Go Go.Ab Go.Proofs
section
variable {l:List Token}
end
open Go Go.Ab Go.Proofs
section
variable {l:List Token}
end
open Go Go.Ab Go.Proofs
section
variable {l:List Token}
end
open Go Go.Ab Go.Proofs
section
variable {l:List Token}
end
open Go Go.Ab Go.Proofs
section
variable {l:List Token}
end
open Go Go.Ab Go.Proofs
def nd:List Param→Nat
 |[]=>0
 |p::l=>60+p.Name.length+nd l
def U5:∀l:List Param,60*l.length≤nd l
 |[]=>Nat.le_refl _
 |t::l=>by have:=U5 l;simp only [nd,ajz];omega
section
variable {l:List Token}
def aeH(p:bj):Nat:=p.Name.length+nd p.Params+iy p.Body
end
open Go Go.Ab Go.Proofs
mutual
def tV:Expr→Int→Int
 |⟨Op,N,S,az⟩,d=>if UT ⟨Op,N,S,az⟩ d=0 then U6 az (ajM (d+1))else UT ⟨Op,N,S,az⟩ d
def U6:List Expr→Int→Int
 |[],d=>0
 |x::l,d=>if tV x d=0 then U6 l d else tV x d
end
def Jn(e:Expr):Bool:=decide (e.Op=0)&&decide (e.N=0)&&decide (e.S=[])&&decide (e.az.length=0)
def w5(op:Int):jy×Bool:=
 if op=1∨op=2 then(⟨true,true,false,false,false,false⟩,true)
 else if op=3 then(⟨false,true,true,false,false,false⟩,true)
 else if op=4∨op=7 then(⟨false,true,false,false,false,false⟩,true)
 else if op=5 then(⟨false,true,false,false,true,true⟩,true)
 else if op=6 then(⟨true,true,true,true,true,false⟩,true)
 else if op=8 then(⟨false,false,false,true,false,false⟩,true)
 else(⟨false,false,false,false,false,false⟩,false)
def aeI(s:Stmt)(u:jy):Bool:=
 (!u.name && !decide (s.Name=[]))||(!u.a && !Jn s.A)||(!u.b && !Jn s.B)||(!u.max && !decide (s.Max=0))||(!u.body&&decide (0<s.Body.length))||(!u.other&&decide (0<s.c7.length))
def aeJ(s:Stmt):Bool:=if s.Op=6 then decide (1≤s.Max)&&decide (s.Max≤16)else if s.Op=8 then decide (0≤s.Max)&&decide (s.Max≤999)else true
def aeK(s:Stmt)(d:Int):Int:=
 if(w5 s.Op).2=false∨aeI s (w5 s.Op).1=true∨aeJ s=false then 1
 else if(w5 s.Op).1.name=true∧nb s.Name=false then 7
 else if(w5 s.Op).1.a=true∧tV s.A 1≠0 then tV s.A 1
 else if(w5 s.Op).1.b=true∧tV s.B 1≠0 then tV s.B 1
 else if 12<d then 2 else 0
open Go Go.Ab Go.Proofs
open Go Go.Ab Go.Proofs
def U7(before:List Param):List Param→Int
 |[]=>0
 |x::l=>if nb x.Name=false then 7 else if x.hT<1∨3<x.hT then 10 else if(before.any λy=>decide (y.Name=x.Name))=true then 8 else U7 (before++[x]) l
def U8(l:List Param):Int:=if 6<l.length then 2 else U7 [] l
open Go Go.Ab Go.Proofs
mutual
def U9:Expr→Nat→Nat
 |⟨_,_,_,az⟩,k=>if k=0 then 0 else U' az (k-1)
def U':List Expr→Nat→Nat
 |[],k=>k
 |x::l,k=>U' l (U9 x k)
end
def U_(e:Expr)(k:Nat):Nat:=if k=0∨Jn e=true then k else U9 e k
mutual
def aeL:Stmt→Int→Nat×Int→Nat×Int
 |⟨Op,Name,Max,A,B,Body,c7⟩,d,r=>
  tW c7 (ajM (d+1)) (tW Body (ajM (d+1)) (U_ B (U_ A (r.1-1)),if r.2=0 then aeK ⟨Op,Name,Max,A,B,Body,c7⟩ d else r.2))
def tW:List Stmt→Int→Nat×Int→Nat×Int
 |[],d,r=>r
 |s::l,d,r=>if r.1=0 then r else tW l d (aeL s d r)
end
open Go Go.Ab Go.Proofs
def Va:∀(l:List Stmt) (i:Nat),i<l.length→fst (l.getD i default)<iy l
 |[],i,h=>by simp at h
 |x::l,0,h=>by simp only [iy,List.getD_cons_zero];omega
 |x::l,i+1,h=>by have:=Va l i (by simpa using h);simp only [iy,List.getD_cons_succ];omega
open Go Go.Ab Go.Proofs
open Go Go.Ab Go.Proofs
open Go Go.Ab Go.Proofs
def Vb(p:bj):Int:=
 if nb p.Name=false then 7 else if U8 p.Params≠0 then U8 p.Params
 else if(tW p.Body 1 (401,0)).2=0∧(tW p.Body 1 (401,0)).1=0 then 2 else(tW p.Body 1 (401,0)).2
def aeM:∀(n:Nat) (l:List Stmt),iy l+2≤n→iy l≤140737488351232→ti n l l=some true:=by
 intro n;induction n with
 |zero=>intro l h;omega
 |succ n bv=>
  intro l h ah;have aew:=U4 l;simp only [ti,Hn,ajt,ajx,ajw]
  have nc:∀m i,l.length<i+m→i≤l.length→wb n (ti n) l l m (i:Int)=some true:=by
   intro m;induction m with
   |zero=>intro i ab ai;omega
   |succ m w4=>
    intro i ab ai;simp only [wb,Hm,Hl,aeF,aeG];by_cases hi:i<l.length
    ·have hg:=Va l i hi
     (rw [lL (by omega),w4 (i+1) (by omega) (by omega)];simp only [ajB])
     generalize l.getD i default=s at hg
     have o9:=fst_eq s;simp only [hi,eo hi,ajC,ajt,ajx,ajv,ajw,dy,UW n s.A (by omega) (by omega),UW n s.B (by omega) (by omega),bv s.Body (by omega) (by omega),bv s.c7 (by omega) (by omega),c_]
     rfl
    ·simp only [hi,ajC,aju,ajw]
  exact nc n 0 (by omega) (by omega)
def aeN{n:Nat}(p:bj)(kd:p.Params.length<n)(aiT:p.Params.length≤140737488351232)(w6:iy p.Body+2≤n)(aeO:iy p.Body≤140737488351232):Ae n p p=some true:=by
 unfold Ae;simp only [ajt,ajx,ajw]
 have nc:∀m i,p.Params.length<i+m→i≤p.Params.length→wc n p p m (i:Int)=some true:=by
  intro m;induction m with
  |zero=>intro i ab ai;omega
  |succ m w4=>
   intro i ab ai;simp only [wc,Hp,Ho];by_cases hi:i<p.Params.length
   ·rw [lL (by omega),w4 (i+1) (by omega) (by omega)]
    simp only [hi,eo hi,ajC,ajt,Bool.and_self,ajx,ajv,ajw,dy]
   ·simp only [hi,ajC,aju,ajw,aeM n p.Body w6 aeO,c_]
 exact nc n 0 (by omega) (by omega)
open Go Go.Ab Go.Proofs
open Go Go.Ab Go.Proofs
def hP(t:Token):Token:=⟨t.Kind,t.Text,t.N,0⟩
open Go Go.Ab Go.Proofs
def aeP{w:ajK}:oA w=w.length→w.all mT=true:=by
 induction w with
 |nil=>intro;rfl
 |cons c w bv=>
  intro h;rw [aeu]at h;cases hc:mT c
  ·rw [hc]at h;simp at h
  ·rw [hc]at h;simp only [ajv,ajz]at h;rw [List.all_cons,hc,bv (by omega)];rfl
def aeQ{w:ajK}(h:nb w=true):∃c l,w=c::l∧US c=true∧w.all mT=true∧UR w=false∧w.length≤16:=by
 cases w with
 |nil=>cases h
 |cons c l=>
  simp only [nb,Bool.and_eq_true,decide_eq_true_eq,Bool.not_eq_true']at h;obtain⟨⟨⟨ab,ai⟩,ay⟩,bg⟩:=h;exact⟨c,l,rfl,ai,aeP (by simpa using ay),bg,by simp;omega⟩
def w7:ajK→ajK
 |[]=>[]
 |c::l=>if c.toNat=34∨c.toNat=92 then 92::c::w7 l else c::w7 l
def quo(s:ajK):ajK:=34::(w7 s++[34])
def spell(t:Token):ajK:=if t.Kind=3 then Lib.decDigits t.N.toNat else if t.Kind=4 then quo t.Text else t.Text
def w8(t:Token):Prop:=
 t.kv=0∧((t.Kind=1∧nb t.Text=true∧t.N=0)∨(t.Kind=2∧t.Text∈Ji∧t.N=0)∨(t.Kind=3∧t.Text=[]∧0≤t.N∧t.N≤9223372036854775807)∨
  (t.Kind=4∧mr t.Text=true∧t.N=0)∨(t.Kind=5∧t.Text∈marks∧t.N=0))
open Go Go.Ab Go.Proofs
abbrev ne:=List (Option Token)
def flat:ne→ajK
 |[]=>[]
 |some t::l=>spell t++flat l
 |none::l=>32::flat l
def kh:ne→List Token
 |[]=>[]
 |some t::l=>t::kh l
 |none::l=>kh l
def w9:∀l m:ne,flat (l++m)=flat l++flat m
 |[],m=>rfl
 |some t::l,m=>by simp only [List.cons_append,flat,w9 l m,List.append_assoc]
 |none::l,m=>by simp only [List.cons_append,flat,w9 l m]
def Jo:∀l m:ne,kh (l++m)=kh l++kh m
 |[],m=>rfl
 |some t::l,m=>by simp only [List.cons_append,kh,Jo l m]
 |none::l,m=>by simp only [List.cons_append,kh,Jo l m]
def ld(w:ajK):Token:=⟨2,w,0,0⟩
def gE(w:ajK):Token:=⟨5,w,0,0⟩
def aeR(w:ajK):Token:=⟨1,w,0,0⟩
def aeS(n:Int):Token:=⟨3,[],n,0⟩
def aeT(w:ajK):Token:=⟨4,w,0,0⟩
def jF(op:Int):Nat:=if op=17 then 1 else if op=16 then 2 else if op=18 then 3 else if 10≤op∧op≤15 then 4 else if op=19 then 5 else if op=4∨op=5 then 6 else if 6≤op∧op≤8 then 7 else if op=9 then 8 else 9
def w_(op:Int):Token:=
 if op=17 then ld [111,114]else if op=16 then ld [97,110,100]else if op=10 then gE [61,61]else if op=11 then gE [33,61]else if op=12 then gE [60]else if op=13 then gE [60,61]
 else if op=14 then gE [62]else if op=15 then gE [62,61]else if op=19 then gE [43,43]else if op=4 then gE [43]else if op=5 then gE [45]else if op=6 then gE [42]else if op=7 then gE [47]else gE [37]
def nf(op:Int):Token:=
 if op=20 then ld [116,101,120,116]else if op=21 then ld [108,101,110]else if op=22 then ld [103,101,116,105,110,116]else if op=23 then ld [103,101,116,115,116,114]else if op=24 then ld [104,97,115]
 else if op=25 then ld [110,111,119]else if op=26 then ld [114,97,110,100,111,109]else ld [110,111,100,101]
def lf(op:Int)(p:ne)(least:Nat):ne:=if jF op<least then some (gE [40])::(p++[some (gE [41])])else p
def Bh(Op N:Int)(S:ajK)(L:List (Int×ne)):ne:=
 if Op=1 then[some (aeS N)]else if Op=2 then[some (aeT S)]else if Op=3 then[some (aeR S)]
 else match L with
  |[]=>[some (nf Op),some (gE [40]),some (gE [41])]
  |[a]=>if Op=18 then some (ld [110,111,116])::none::lf a.1 a.2 3 else if Op=9 then some (gE [45])::lf a.1 a.2 8 else some (nf Op)::some (gE [40])::(a.2++[some (gE [41])])
  |a::b::_=>lf a.1 a.2 (if jF Op=4 then 5 else jF Op)++none::some (w_ Op)::none::lf b.1 b.2 (jF Op+1)
mutual
def f8:Expr→ne
 |⟨Op,N,S,az⟩=>Bh Op N S (xa az)
def xa:List Expr→List (Int×ne)
 |[]=>[]
 |x::l=>(x.Op,f8 x)::xa l
end
def nN(op:Int)(n:Nat):Prop:=(1≤op∧op≤27)∧(n:Int)=tU op
mutual
def h':Expr→Prop
 |⟨Op,N,S,az⟩=>nN Op az.length∧(Op=1→0≤N∧N≤9223372036854775807)∧(Op≠1→N=0)∧(Op≠2∧Op≠3→S=[])∧(Op=2→mr S=true)∧(Op=3→nb S=true)∧Jp az
def Jp:List Expr→Prop
 |[]=>True
 |x::l=>h' x∧Jp l
end
mutual
def ng:Expr→Nat
 |⟨_,_,_,az⟩=>1+xb az
def xb:List Expr→Nat
 |[]=>0
 |x::l=>max (ng x) (xb l)
end
def aeU(e:Expr):h' e↔nN e.Op e.az.length∧(e.Op=1→0≤e.N∧e.N≤9223372036854775807)∧(e.Op≠1→e.N=0)∧(e.Op≠2∧e.Op≠3→e.S=[])∧(e.Op=2→mr e.S=true)∧(e.Op=3→nb e.S=true)∧Jp e.az:=by cases e;rfl
def aeV(e:Expr):ng e=1+xb e.az:=by cases e;rfl
def Vc{w:ajK}(h:w∈Ji):w8 (ld w):=⟨rfl,Or.inr (Or.inl ⟨rfl,h,rfl⟩)⟩
def aeW{c:Prop}[Decidable c]{a b:Token}(ha:w8 a)(hb:w8 b):w8 (if c then a else b):=by
 by_cases h:c
 ·rw [if_pos h];exact ha
 ·rw [if_neg h];exact hb
def aeX{c:Prop}[Decidable c]{a b:Token}{k:Int}(ha:a.Kind=k)(hb:b.Kind=k):(if c then a else b).Kind=k:=by
 by_cases h:c
 ·rw [if_pos h];exact ha
 ·rw [if_neg h];exact hb
def aeY(op:Int):w8 (nf op)∧(nf op).Kind=2:=by
 unfold nf;constructor
 ·repeat refine aeW (Vc (by decide)) ?_
  exact Vc (by decide)
 ·repeat refine aeX rfl ?_
  rfl
def aeZ{op:Int}(h:1≤op∧op≤27):tU op=0∧(op≤3∨25≤op)∨tU op=1∧(op=9∨op=18∨20≤op∧op≤24)∨tU op=2∧(4≤op∧op≤8∨10≤op∧op≤17∨op=19):=by
 obtain rfl|rfl|rfl|rfl|rfl|rfl|rfl|rfl|rfl|rfl|rfl|rfl|rfl|rfl|rfl|rfl|rfl|rfl|rfl|rfl|rfl|rfl|rfl|rfl|rfl|rfl|rfl:op=1∨op=2∨op=3∨op=4∨op=5∨op=6∨op=7∨op=8∨op=9∨op=10∨op=11∨op=12∨op=13∨op=14∨op=15∨op=16∨op=17∨op=18∨op=19∨op=20∨op=21∨op=22∨op=23∨op=24∨op=25∨op=26∨op=27:=by omega
 all_goals first|exact Or.inl ⟨rfl,by omega⟩|exact Or.inr (Or.inl ⟨rfl,by omega⟩)|exact Or.inr (Or.inr ⟨rfl,by omega⟩)
open Go Go.Ab Go.Proofs
def bH(l:List Token)(i:Nat)(T R:List Token):Prop:=(l.map hP).drop i=T++R
def rO(R:List Token)(w:ajK):Bool:=
 match R with
 |[]=>false
 |t::_=>(decide (t.Kind=2)||decide (t.Kind=5))&&decide (t.Text=w)
def ae0(l:List Token)(i:Nat)(w:ajK):h1 l i w=rO ((l.map hP).drop i) w:=by
 unfold h1;by_cases h:i<l.length
 ·rw [mq (l.map hP) i default (by simpa using h)]
  have:(l.map hP).getD i default=hP (l.getD i default):=by simp [List.getD,h]
  rw [this];generalize l.getD i default=t
  simp only [rO,h,hP,ajt,Bool.true_and]
  congr
 ·rw [pU (l.map hP) i (by simpa using h)]
  simp [rO,h]
def bH.is{l T R:List Token}{i:Nat}(h:bH l i T R)(w:ajK):h1 l i w=rO (T++R) w:=by rw [ae0,h]
def bH.call{l T R:List Token}{i:Nat}(h:bH l i T R):Bg l i=call2 (n2.find? λr=>rO (T++R) r.1):=by
 unfold Bg
 congr 2
 funext r
 exact h.is r.1
def bH.lt{l T R:List Token}{t:Token}{i:Nat}(h:bH l i (t::T) R):i<l.length:=by
 by_cases hi:i<l.length
 ·exact hi
 ·unfold bH at h;rw [pU (l.map hP) i (by simpa using hi)]at h
  cases h
def bH.hd{l T R:List Token}{t:Token}{i:Nat}(h:bH l i (t::T) R):hP (l.getD i default)=t:=by
 have hi:=h.lt;unfold bH at h;rw [mq (l.map hP) i default (by simpa using hi),List.cons_append]at h
 injection h with ab ai;rw [←ab];simp [List.getD,hi]
def bH.oQ{l T U R:List Token}{i:Nat}(h:bH l i (T++U) R):bH l (i+T.length) U R:=by
 unfold bH at *;rw [←List.drop_drop,h,List.append_assoc,List.drop_left]
def bH.le{l T R:List Token}{i:Nat}(h:bH l i T R)(aN:T≠[]):i+T.length≤l.length:=by
 have:=congrArg List.length h
 simp only [List.length_drop,List.length_map,ajD]at this;have:0<T.length:=List.length_pos_iff.2 aN
 omega
def ae1(R:List Token):Int:=(U1 (pV.find? λr=>rO R r.1)).1
def ae2(op:Int)(R:List Token)(h:20≤op∧op≤27):call2 (n2.find? λr=>rO (nf op::R) r.1)=op:=by
 have:op=20∨op=21∨op=22∨op=23∨op=24∨op=25∨op=26∨op=27:=by omega
 rcases this with rfl|rfl|rfl|rfl|rfl|rfl|rfl|rfl<;>rfl
section
variable {l:List Token}
def gS(l:List Token)(i d iU:Nat)(e:Expr)(k B:Nat):Prop:=∀n,B≤n→jf n (iU:Int) (d:Int) ⟨l,(i:Int)⟩=some (.ret e (k:Int))
def xc(l:List Token)(i d:Nat)(e:Expr)(k B:Nat):Prop:=∀n,B≤n→pE n (d:Int) ⟨l,(i:Int)⟩=some (.ret e (k:Int))
def Jq(l:List Token)(i d:Nat)(e:Expr)(k B:Nat):Prop:=∀n,B≤n→rk n (d:Int) ⟨l,(i:Int)⟩=some (.ret e (k:Int))
theorem gS.mono{i d iU:Nat}{e:Expr}{k B Vd:Nat}(h:gS l i d iU e k B)(w6:B≤Vd):gS l i d iU e k Vd:=λn hn=>h n (by omega)
theorem ae3(e:Expr):(⟨e.Op,e.N,e.S,e.az⟩:Expr)=e:=by cases e;rfl
theorem gS.down{i d iU:Nat}{e:Expr}{k B:Nat}(h:gS l i d (iU+1) e k B)(nH:1≤iU)(aiU:iU≤7)(hs:(Jl l k).1≠(iU:Int))(ay:iU=3→h1 l i [110,111,116]=false):gS l i d iU e k (B+2):=by
 intro n hn;obtain⟨n,rfl⟩:∃j,n=j+1:=⟨n-1,by omega⟩
 have he:=h n (by omega)
 rw [U3];unfold vC;simp only [rN,Jk,c_];by_cases e3:iU=3
 ·subst e3;rw [ay rfl];simp only [ajt,ajv,ajw];rw [show jf n 4 (d:Int) ⟨l,(i:Int)⟩=_ from he]
  rfl
 ·simp only [e3,show¬ iU=8 by omega,aju,ajw]
  rw [lL (by omega),he]
  obtain⟨m,hm⟩:∃j,n=j+1:=⟨n-1,by omega⟩
  simp only [c_,aO.on]
  conv=>lhs;arg 9;rw [hm]
  simp only [zx,FR,aez,c_,hs,aju,ajy,ajv,ae3]
theorem xc.down{i d:Nat}{e:Expr}{k B:Nat}(h:xc l i d e k B)(gH:h1 l i [45]=false):gS l i d 8 e k (B+1):=by
 intro n hn;obtain⟨n,rfl⟩:∃j,n=j+1:=⟨n-1,by omega⟩
 rw [U3];unfold vC;simp only [rN,Jk,c_,show¬ 8=3 by omega,ajt,aju,ajv,ajw,gH]
 rw [h n (by omega)]
 rfl
theorem Jq.of{i d:Nat}{e:Expr}{k B:Nat}(ah:l.length≤1000000000)(hi:h1 l i [40]=true)(h:gS l (i+1) d 1 e k B)(hk:h1 l k [41]=true):Jq l i d e (k+1) (B+1):=by
 intro n hn;obtain⟨n,rfl⟩:∃j,n=j+1:=⟨n-1,by omega⟩
 have ab:=UX hi;have ai:=UX hk;rw [aeD];unfold zz;rw [U0 n l i _ (by omega) (by omega),hi]
 simp only [c_,ajv,aO.on];rw [show jf n 1 (d:Int) ⟨l,((i+1:Nat):Int)⟩=_ from h n (by omega)]
 simp only [c_,aO.on];rw [U0 n l k _ (by omega) (by omega),hk]
 rfl
theorem ae4{n i d:Nat}(ah:l.length≤1000000000)(h:i<l.length):pE (n+1) (d:Int) ⟨l,(i:Int)⟩ =
 if(l.getD i default).Kind=3 then some (.ret ⟨1,(l.getD i default).N,[],[]⟩ ((i+1:Nat):Int))else if(l.getD i default).Kind=4 then some (.ret ⟨2,0,(l.getD i default).Text,[]⟩ ((i+1:Nat):Int))
 else if(l.getD i default).Kind=1 then some (.ret ⟨3,0,(l.getD i default).Text,[]⟩ ((i+1:Nat):Int))else vF n (jf n) (vG n) (pE n) (rk n) (d:Int) ⟨l,(i:Int)⟩ (i:Int):=by
 rw [aeC];unfold zy
 (rw [lL (by omega)];simp only [ajB];rw [aeE (by omega)])
 simp only [ajC,h,ajt,ajv,eo h,dy];by_cases ay:(l.getD i default).Kind=3
 ·simp only [ay,ajt,ajv,ajI]
 ·by_cases bg:(l.getD i default).Kind=4
  ·simp only [bg,show¬ (4:Int)=3 by omega,ajt,aju,ajv,ajw,ajI,ajJ]
  ·by_cases bQ:(l.getD i default).Kind=1
   ·simp only [bQ,show¬ (1:Int)=3 by omega,show¬ (1:Int)=4 by omega,ajt,aju,ajv,ajw,ajI,ajJ]
   ·simp only [ay,bg,bQ,aju,ajw,ajJ]
theorem xc.word{i d:Nat}{e:Expr}{k B:Nat}{op:Int}(nM:20≤op∧op≤24)(ah:l.length≤1000000000)(hg:U2 l){T R:List Token}(nh:bH l i (nf op::T) R)(hd:d≤23)(h:Jq l (i+1) (d+1) e k B):xc l i d ⟨op,0,[],[e]⟩ k (B+1):=by
 intro n hn;obtain⟨n,rfl⟩:∃j,n=j+1:=⟨n-1,by omega⟩
 have cV:=nh.lt;have bz:=nh.hd;have hk:(l.getD i default).Kind=2:=by have:=congrArg Token.Kind bz;exact this.trans (aeY op).2
 rw [ae4 ah cV,hk,if_neg (by decide),if_neg (by decide),if_neg (by decide)]
 unfold vF vE FV;rw [aeA n l i hg,nh.call,List.cons_append,ae2 op _ (by omega),aeB n l i d (by omega) (by omega),if_neg (by omega)]
 simp only [c_,show¬ op=0 by omega,show¬ op=25 by omega,show¬ op=26 by omega,show¬ op=27 by omega,aju,ajw,aO.on]
 rw [lL (by omega),h n (by omega)]
 rfl
end
open Go Go.Ab Go.Proofs
def ae5{l:List Expr}{n:Int}(h:(l.length:Int)=n)(ai:n=2):∃a b,l=[a,b]:=by
 match l,h with
 |[a,b],_=>exact⟨a,b,rfl⟩
 |[],h=>simp at h;omega
 |[a],h=>simp at h;omega
 |a::b::c::l,h=>simp at h;omega
def ae6{l:List Expr}{n:Int}(h:(l.length:Int)=n)(ai:n=1):∃a,l=[a]:=by
 match l,h with
 |[a],_=>exact⟨a,rfl⟩
 |[],h=>simp at h;omega
 |a::b::l,h=>simp at h;omega
def ae7{l:List Expr}{n:Int}(h:(l.length:Int)=n)(ai:n=0):l=[]:=by
 match l,h with
 |[],_=>rfl
 |a::l,h=>simp at h;omega
def ae8(e:Expr)(h:h' e):
 (e.Op=1∧e=⟨1,e.N,[],[]⟩)∨(e.Op=2∧e=⟨2,0,e.S,[]⟩)∨(e.Op=3∧e=⟨3,0,e.S,[]⟩)∨((25≤e.Op∧e.Op≤27)∧e=⟨e.Op,0,[],[]⟩)∨
 (∃a,e=⟨e.Op,0,[],[a]⟩∧h' a∧ng e=1+ng a∧(e.Op=9∨e.Op=18∨20≤e.Op∧e.Op≤24))∨
 (∃a b,e=⟨e.Op,0,[],[a,b]⟩∧h' a∧h' b∧ng e=1+max (ng a) (ng b)∧(4≤e.Op∧e.Op≤8∨10≤e.Op∧e.Op≤17∨e.Op=19)):=by
 obtain⟨Op,N,S,az⟩:=e;obtain⟨⟨ab,ai⟩,ay,bg,bQ,dh,e5,gH⟩:=h;rcases aeZ ab with⟨ha,hb⟩|⟨ha,hb⟩|⟨ha,hb⟩
 ·obtain rfl:=ae7 ai ha;by_cases e1:Op=1
  ·subst e1;obtain rfl:=bQ (by omega);exact Or.inl ⟨rfl,rfl⟩
  ·obtain rfl:=bg e1;by_cases e2:Op=2
   ·subst e2;exact Or.inr (Or.inl ⟨rfl,rfl⟩)
   ·by_cases e3:Op=3
    ·subst e3;exact Or.inr (Or.inr (Or.inl ⟨rfl,rfl⟩))
    ·obtain rfl:=bQ ⟨e2,e3⟩;exact Or.inr (Or.inr (Or.inr (Or.inl ⟨⟨by simp only;omega,by simp only;omega⟩,rfl⟩)))
 ·obtain⟨a,rfl⟩:=ae6 ai ha;obtain rfl:=bg (by omega)
  obtain rfl:=bQ (by omega)
  exact Or.inr (Or.inr (Or.inr (Or.inr (Or.inl ⟨a,rfl,gH.1,by simp [ng,xb],hb⟩))))
 ·obtain⟨a,b,rfl⟩:=ae5 ai ha;obtain rfl:=bg (by omega)
  obtain rfl:=bQ (by omega)
  exact Or.inr (Or.inr (Or.inr (Or.inr (Or.inr ⟨a,b,rfl,gH.1,gH.2.1,by simp [ng,xb],hb⟩))))
def ae9{op:Int}{a b:Expr}(h:4≤op∧op≤8∨10≤op∧op≤17∨op=19):f8 ⟨op,0,[],[a,b]⟩=lf a.Op (f8 a) (if jF op=4 then 5 else jF op)++none::some (w_ op)::none::lf b.Op (f8 b) (jF op+1):=by
 simp only [f8,xa,Bh];rw [if_neg (by omega),if_neg (by omega),if_neg (by omega)]
section
variable {l:List Token}
abbrev xd(e:Expr)(iU:Nat):List Token:=kh (lf e.Op (f8 e) iU)
end
open Go Go.Ab Go.Proofs
section
variable {l:List Token}
def fe(l:List Token)(e:Expr):Prop:=∀(i d:Nat) (R:List Token),bH l i (kh (f8 e)) R→ae1 R<(jF e.Op:Int)→d+2*ng e≤26→
 if jF e.Op=9 then xc l i d e (i+(kh (f8 e)).length) (24*(kh (f8 e)).length+20)else gS l i d (jF e.Op) e (i+(kh (f8 e)).length) (24*(kh (f8 e)).length+40-2*jF e.Op)
end
open Go Go.Ab Go.Proofs
def ae'(i:Int)(h0:0≤i)(ab:i≤9223372036854775807):(Lib.decDigits i.toNat).length≤21:=by
 have:=Lib.itoa_length_le i (by omega) ab
 unfold Lib.itoa at this
 rwa [if_neg (by omega)]at this
def Ve:∀s:ajK,(w7 s).length≤2*s.length
 |[]=>Nat.le_refl _
 |c::s=>by
  have:=Ve s
  simp only [w7];split<;>simp only [ajz]<;>omega
def ae_(s:ajK):(quo s).length≤2*s.length+2:=by
 have:=Ve s
 simp only [quo,ajz,ajD,ajA];omega
def Vf{c:Prop}[Decidable c]{a b:Token}{k:Nat}(ha:(spell a).length≤k)(hb:(spell b).length≤k):(spell (if c then a else b)).length≤k:=by
 by_cases h:c
 ·rw [if_pos h];exact ha
 ·rw [if_neg h];exact hb
def afa(op:Int):(spell (w_ op)).length≤3:=by
 unfold w_
 repeat refine Vf (by decide) ?_
 decide
def Vg(op:Int):(spell (nf op)).length≤6:=by
 unfold nf
 repeat refine Vf (by decide) ?_
 decide
def Bi(op:Int)(p:ne)(k:Nat):(flat (lf op p k)).length≤(flat p).length+2:=by
 unfold lf;split
 ·simp only [flat,w9,spell,gE,ajD,ajz];simp;omega
 ·omega
def afb{w:ajK}(h:nb w=true):w.length≤16:=by
 obtain⟨c,l,_,_,_,_,bQ⟩:=aeQ h;exact bQ
def Cr:∀(h:Nat) (e:Expr),ng e≤h→h' e→(flat (f8 e)).length≤4*ji e:=by
 intro h;induction h with
 |zero=>intro e he;rw [aeV]at he;omega
 |succ h bv=>
  intro e he fQ;have Jr:=(aeU e).1 fQ;have aev:=Jj e;rcases ae8 e fQ with⟨ab,aR⟩|⟨ab,aR⟩|⟨ab,aR⟩|⟨ak,aR⟩|⟨a,aR,ha,bz,nM⟩|⟨a,b,aR,ha,hb,bz,nM⟩
  ·have:=ae' e.N (Jr.2.1 ab).1 (Jr.2.1 ab).2
   have e2:flat (f8 e)=Lib.decDigits e.N.toNat++[]:=by rw [aR];rfl
   rw [e2,List.append_nil];omega
  ·have:=ae_ e.S
   have e2:flat (f8 e)=quo e.S++[]:=by rw [aR];rfl
   rw [e2,List.append_nil];omega
  ·have:=afb (Jr.2.2.2.2.2.1 ab)
   have e2:flat (f8 e)=e.S++[]:=by rw [aR];rfl
   rw [e2,List.append_nil];omega
  ·have:=Vg e.Op
   generalize e.Op=op at ak aR this
   have e2:flat (f8 e)=spell (nf op)++([40]++([41]++[])):=by
    rw [aR];simp only [f8,xa,Bh];rw [if_neg (by omega),if_neg (by omega),if_neg (by omega)];rfl
   rw [e2];simp only [ajD,ajz,ajA];omega
  ·have afc:=bv a (by omega) ha
   have afd:ji e=30+(ji a+1):=by rw [aR];simp [ji,mt]
   have:=Vg e.Op
   have ay:=Bi a.Op (f8 a) 3;have gH:=Bi a.Op (f8 a) 8;generalize e.Op=op at nM aR this
   have e2:f8 e=if op=18 then some (ld [110,111,116])::none::lf a.Op (f8 a) 3 else if op=9 then some (gE [45])::lf a.Op (f8 a) 8 else some (nf op)::some (gE [40])::(f8 a++[some (gE [41])]):=by
    rw [aR];simp only [f8,xa,Bh];rw [if_neg (by omega),if_neg (by omega),if_neg (by omega)]
   rw [e2];split
   ·simp only [flat,spell,ld,ajD,ajz];simp;omega
   ·split
    ·simp only [flat,spell,gE,ajD,ajz];simp;omega
    ·simp only [flat,w9,ajD];have e3:(spell (gE [40])).length=1:=rfl;have qA:(spell (gE [41])).length=1:=rfl;simp only [ajA];omega
  ·have afc:=bv a (by omega) ha
   have aiV:=bv b (by omega) hb
   have afd:ji e=30+(ji a+1+(ji b+1)):=by rw [aR];simp [ji,mt]
   have:=afa e.Op
   have ay:=Bi a.Op (f8 a) (if jF e.Op=4 then 5 else jF e.Op)
   have gH:=Bi b.Op (f8 b) (jF e.Op+1);generalize e.Op=op at nM aR this ay gH
   have e2:f8 e=lf a.Op (f8 a) (if jF op=4 then 5 else jF op)++none::some (w_ op)::none::lf b.Op (f8 b) (jF op+1):=by rw [aR,ae9 nM]
   rw [e2];simp only [w9,flat,ajD,ajz];omega
open Go Go.Ab Go.Proofs
open Go Go.Ab Go.Proofs
mutual
def lg:Expr→Prop
 |⟨Op,N,S,az⟩=>N≤9223372036854775807∧S.length≤9223372036854775807∧az.length≤9223372036854775807∧xe az
def xe:List Expr→Prop
 |[]=>True
 |x::l=>lg x∧xe l
end
def Js(e:Expr):lg e↔e.N≤9223372036854775807∧e.S.length≤9223372036854775807∧e.az.length≤9223372036854775807∧xe e.az:=by cases e;rfl
def Vh:∀(l:List Expr) (i:Nat),i<l.length→xe l→lg (l.getD i default)
 |[],i,h,_=>by simp at h
 |x::l,0,h,ah=>ah.1
 |x::l,i+1,h,ah=>by simp only [List.getD_cons_succ];exact Vh l i (by simpa using h) ah.2
mutual
def n3:Expr→Nat
 |⟨_,_,S,az⟩=>1+S.length / 64+rP az
def rP:List Expr→Nat
 |[]=>0
 |x::l=>n3 x+rP l
end
def afe(e:Expr):n3 e=1+e.S.length / 64+rP e.az:=by cases e;rfl
mutual
def Jt:∀e:Expr,ji e+1≤95*n3 e
 |⟨Op,N,S,az⟩=>by
  have:=Vi az
  simp only [ji,n3];omega
def Vi:∀l:List Expr,mt l≤95*rP l
 |[]=>Nat.le_refl _
 |x::l=>by
  have ab:=Jt x;have ai:=Vi l;simp only [mt,rP];omega
end
def Ju(k:Nat):Int.tdiv ((k:Nat):Int) 64=((k / 64:Nat):Int):=by
 rw [Int.tdiv_eq_ediv_of_nonneg (by omega)];rfl
def aff:∀(n:Nat) (e:Expr) (m:Nat),m≤1000→m+3≤n→lg e→
 ∃r:Nat,nY n e (m:Int)=some (r:Int)∧1≤r∧r≤m+144115188075855873∧(r≤m→r=n3 e):=by
 intro n;induction n with
 |zero=>intro e m h ai;omega
 |succ n bv=>
  intro e m hm hn he;obtain⟨ab,ai,ay,bg⟩:=(Js e).1 he;simp only [nY,zM];rw [Ju];rw [show ajM ((e.S.length / 64:Nat):Int)=((e.S.length / 64:Nat):Int)by rw [wr]<;>omega]
  rw [show ajM (1+((e.S.length / 64:Nat):Int))=((1+e.S.length / 64:Nat):Int)by rw [wr]<;>omega]
  have nc:∀k i v,m+2≤v+k→i≤e.az.length→i≤v→1≤v→v≤m+144115188075855873→1≤k→
   ∃r:Nat,s8 n (nY n) (m:Int) e k (v:Int) (i:Int)=some (r:Int)∧v≤r∧r≤m+144115188075855873∧(r≤m→r=v+rP (e.az.drop i)):=by
   intro k;induction k with
   |zero=>intro i v ab ai h0 ay bg bQ;omega
   |succ k tX=>
    intro i v g1 g2 g0 g3 g4 g5;simp only [s8,zL,zK,lM,ajC,Int.ofNat_le];by_cases hi:i<e.az.length
    ·by_cases aA:v≤m
     ·obtain⟨ae,e1,e2,e3,qA⟩:=bv (e.az.getD i default) (m-v) (by omega) (by omega) (Vh _ _ hi bg)
      (rw [show ajM ((m:Int)-(v:Int))=((m-v:Nat):Int)by rw [wr]<;>omega,lL (by omega)];simp only [ajB];rw [e1])
      simp only [hi,aA,ajt,Bool.and_self,ajv,eo hi,dy,c_];rw [show ajM ((v:Int)+(ae:Int))=((v+ae:Nat):Int)by rw [wr]<;>omega]
      obtain⟨r,f1,f2,f3,f4⟩:=tX (i+1) (v+ae) (by omega) (by omega) (by omega) (by omega) (by omega) (by omega)
      refine⟨r,f1,by omega,f3,λak=>?_⟩
      have:=f4 ak
      have gF:=qA (by omega)
      rw [mq e.az i default hi];simp only [rP];omega
     ·simp only [hi,aA,ajt,aju,Bool.and_false,ajw];exact⟨v,rfl,Nat.le_refl _,g4,λh=>absurd h aA⟩
    ·rw [pU e.az i hi];simp only [hi,aju,Bool.false_and,ajw];exact⟨v,rfl,Nat.le_refl _,g4,λh=>rfl⟩
  obtain⟨r,f1,f2,f3,f4⟩:=nc n 0 (1+e.S.length / 64) (by omega) (by omega) (by omega) (by omega) (by omega) (by omega)
  exact⟨r,f1,by omega,f3,λak=>by rw [f4 ak,afe,List.drop_zero]⟩
open Go Go.Ab Go.Proofs
mutual
def pW:Stmt→Prop
 |⟨_,Name,Max,A,B,Body,c7⟩=>(-9223372036854775808≤Max∧Max≤9223372036854775807)∧Name.length≤9223372036854775807∧lg A∧lg B∧oR Body∧oR c7
def oR:List Stmt→Prop
 |[]=>True
 |x::l=>pW x∧oR l
end
def afg(s:Stmt):pW s↔(-9223372036854775808≤s.Max∧s.Max≤9223372036854775807)∧s.Name.length≤9223372036854775807∧lg s.A∧lg s.B∧oR s.Body∧oR s.c7:=by cases s;rfl
def Vj:∀(l:List Stmt) (i:Nat),i<l.length→oR l→pW (l.getD i default)
 |[],i,h,_=>by simp at h
 |x::l,0,h,ah=>ah.1
 |x::l,i+1,h,ah=>by simp only [List.getD_cons_succ];exact Vj l i (by simpa using h) ah.2
mutual
def Bj:Stmt→Nat
 |⟨_,Name,_,A,B,Body,c7⟩=>1+Name.length / 64+n3 A+n3 B+ni Body+ni c7
def ni:List Stmt→Nat
 |[]=>0
 |x::l=>Bj x+ni l
end
def afh(s:Stmt):Bj s=1+s.Name.length / 64+n3 s.A+n3 s.B+ni s.Body+ni s.c7:=by cases s;rfl
mutual
def afi:∀s:Stmt,fst s+1≤150*Bj s
 |⟨Op,Name,Max,A,B,Body,c7⟩=>by
  have ab:=Jt A;have ai:=Jt B;have ay:=Bk Body;have bg:=Bk c7;simp only [fst,Bj];omega
def Bk:∀l:List Stmt,iy l≤150*ni l
 |[]=>Nat.zero_le _
 |x::l=>by
  have ab:=afi x;have ai:=Bk l;simp only [iy,ni];omega
end
def afj(n:Nat)(e:Expr)(m:Int)(hm:m<0)(hn:2≤n)(he:lg e):nY n e m=some ((1+e.S.length / 64:Nat):Int):=by
 obtain⟨n,rfl⟩:∃k,n=k+2:=⟨n-2,by omega⟩
 obtain⟨ab,ai,ay,bg⟩:=(Js e).1 he;simp only [nY,zM];rw [Ju];rw [show ajM ((e.S.length / 64:Nat):Int)=((e.S.length / 64:Nat):Int)by rw [wr]<;>omega]
 rw [show ajM (1+((e.S.length / 64:Nat):Int))=((1+e.S.length / 64:Nat):Int)by rw [wr]<;>omega]
 simp only [s8,zL,zK,lM];rw [show decide (((1+e.S.length / 64:Nat):Int)≤m)=false from decide_eq_false (by omega)]
 simp
def Vk(n:Nat)(e:Expr)(m:Int)(hm:m≤1000)(hn:m+3≤n)(afk:3≤n)(he:lg e):
 ∃r:Nat,nY n e m=some (r:Int)∧1≤r∧(r:Int)≤(if m<0 then 0 else m)+144115188075855873∧((r:Int)≤m→r=n3 e):=by
 by_cases h:m<0
 ·have ai:=((Js e).1 he).2.1;exact⟨_,afj n e m h (by omega) he,by omega,by rw [if_pos h];omega,λak=>by omega⟩
 ·obtain⟨k,rfl⟩:=Int.eq_ofNat_of_zero_le (show 0≤m by omega)
  obtain⟨r,ab,ai,ay,bg⟩:=aff n e k (by omega) (by omega) he
  exact⟨r,ab,ai,by rw [if_neg h];omega,λak=>bg (by omega)⟩
def afl:∀(n:Nat) (l:List Stmt) (m:Int),-4611686018427387904≤m→m≤1000→m+6≤n→5≤n→oR l→
 ∃r:Nat,s9 n l m=some (r:Int)∧(r:Int)≤(if m<0 then 0 else m+576460752303423500)∧((r:Int)≤m→r=ni l):=by
 intro n;induction n with
 |zero=>intro l m _ _ _ h;omega
 |succ n bv=>
  intro l m aiW hm hn afk ah;simp only [s9,GE]
  have nc:∀(k i v:Nat),m+2≤v+k→1≤k→i≤v→(v:Int)≤(if m<0 then 0 else m+576460752303423500)→
   ∃r:Nat,vR n (s9 n) l m k (v:Int) (i:Int)=some (r:Int)∧v≤r∧(r:Int)≤(if m<0 then 0 else m+576460752303423500)∧((r:Int)≤m→r=v+ni (l.drop i)):=by
   intro k;induction k with
   |zero=>intro i v _ h;omega
   |succ k tX=>
    intro i v g1 g2 g3 g4;simp only [vR,GD,GC,lM,ajC];by_cases hi:i<l.length
    ·by_cases aA:(v:Int)≤m
     ·have Vl:¬ m<0:=by omega
      rw [if_neg Vl];simp only [if_neg Vl]at tX g4;obtain⟨bb,a2,a3,a4,a5,lh⟩:=(afg _).1 (Vj l i hi ah)
      (simp only [ajB])
      generalize hs:l.getD i default=s at bb a2 a3 a4 a5 lh
      simp only [hi,aA,ajt,Bool.and_self,ajv,eo hi,dy];rw [Ju];rw [show ajM ((s.Name.length / 64:Nat):Int)=((s.Name.length / 64:Nat):Int)by rw [wr]<;>omega]
      rw [show ajM ((v:Int)+1)=((v+1:Nat):Int)by rw [wr]<;>omega]
      rw [show ajM (((v+1:Nat):Int)+((s.Name.length / 64:Nat):Int))=((v+1+s.Name.length / 64:Nat):Int)by rw [wr]<;>omega]
      rw [show ajM (m-((v+1+s.Name.length / 64:Nat):Int))=m-((v+1+s.Name.length / 64:Nat):Int)by rw [wr]<;>omega]
      obtain⟨ae,e1,cj,c1,d1⟩:=Vk n s.A (m-((v+1+s.Name.length / 64:Nat):Int)) (by omega) (by omega) (by omega) a3
      rw [e1];simp only [c_];have Kn:(v+1+s.Name.length / 64+ae:Nat)≤m+288230376151711750:=by split at c1<;>omega
      rw [show ajM (((v+1+s.Name.length / 64:Nat):Int)+(ae:Int))=((v+1+s.Name.length / 64+ae:Nat):Int)by rw [wr]<;>omega]
      rw [show ajM (m-((v+1+s.Name.length / 64+ae:Nat):Int))=m-((v+1+s.Name.length / 64+ae:Nat):Int)by rw [wr]<;>omega]
      obtain⟨an,e2,ls,c2,d2⟩:=Vk n s.B (m-((v+1+s.Name.length / 64+ae:Nat):Int)) (by omega) (by omega) (by omega) a4
      rw [e2];simp only [c_];have Ko:(v+1+s.Name.length / 64+ae+an:Nat)≤m+432345564227567625:=by split at c2<;>omega
      rw [show ajM (((v+1+s.Name.length / 64+ae:Nat):Int)+(an:Int))=((v+1+s.Name.length / 64+ae+an:Nat):Int)by rw [wr]<;>omega]
      rw [show ajM (m-((v+1+s.Name.length / 64+ae+an:Nat):Int))=m-((v+1+s.Name.length / 64+ae+an:Nat):Int)by rw [wr]<;>omega]
      obtain⟨aB,e3,c3,d3⟩:=bv s.Body (m-((v+1+s.Name.length / 64+ae+an:Nat):Int)) (by omega) (by omega) (by omega) (by omega) a5
      rw [e3];simp only [c_];have aiX:(v+1+s.Name.length / 64+ae+an+aB:Nat)≤m+576460752303423500:=by split at c3<;>omega
      rw [show ajM (((v+1+s.Name.length / 64+ae+an:Nat):Int)+(aB:Int))=((v+1+s.Name.length / 64+ae+an+aB:Nat):Int)by rw [wr]<;>omega]
      rw [show ajM (m-((v+1+s.Name.length / 64+ae+an+aB:Nat):Int))=m-((v+1+s.Name.length / 64+ae+an+aB:Nat):Int)by rw [wr]<;>omega]
      obtain⟨aQ,qA,c4,d4⟩:=bv s.c7 (m-((v+1+s.Name.length / 64+ae+an+aB:Nat):Int)) (by omega) (by omega) (by omega) (by omega) lh
      rw [qA];simp only [c_];have aiY:(v+1+s.Name.length / 64+ae+an+aB+aQ:Nat)≤m+576460752303423500:=by split at c4<;>omega
      rw [show ajM (((v+1+s.Name.length / 64+ae+an+aB:Nat):Int)+(aQ:Int))=((v+1+s.Name.length / 64+ae+an+aB+aQ:Nat):Int)by rw [wr]<;>omega]
      rw [lL (by omega)]
      obtain⟨r,f1,f2,f3,f4⟩:=tX (i+1) (v+1+s.Name.length / 64+ae+an+aB+aQ) (by omega) (by omega) (by omega) (by omega)
      refine⟨r,f1,by omega,f3,λak=>?_⟩
      have h0:=f4 ak;have ab:=d1 (by omega)
      have ai:=d2 (by omega)
      have ay:=d3 (by omega)
      have bg:=d4 (by omega)
      rw [mq l i default hi,hs];have:=afh s
      simp only [ni];omega
     ·simp only [hi,aA,ajt,aju,Bool.and_false,ajw];exact⟨v,rfl,Nat.le_refl _,g4,λh=>absurd h aA⟩
    ·rw [pU l i hi];simp only [hi,aju,Bool.false_and,ajw];exact⟨v,rfl,Nat.le_refl _,g4,λh=>rfl⟩
  obtain⟨r,f1,f2,f3,f4⟩:=nc n 0 0 (by omega) (by omega) (by omega) (by split<;>omega)
  exact⟨r,f1,f3,λak=>by rw [f4 ak,List.drop_zero];omega⟩
def pX(p:bj):Prop:=p.Name.length≤9223372036854775807∧p.Params.length≤9223372036854775807∧(∀i,i<p.Params.length→(p.Params.getD i default).Name.length≤9223372036854775807)∧oR p.Body
def Vm:∀l:List Param,(∀i,i<l.length→(l.getD i default).Name.length≤200)→nd l≤400*l.length
 |[],_=>Nat.le_refl _
 |x::l,h=>by
  have h0:=h 0 (by simp)
  have ab:=Vm l λi hi=>by have:=h (i+1) (by simpa using hi);simpa using this
  simp only [List.getD_cons_zero]at h0;simp only [nd,ajz];omega
def Bl(p:bj)(m:Nat):Prop:=p.Name.length≤200∧p.Params.length≤40∧nd p.Params≤16000∧ni p.Body≤m
def afm{n:Nat}(p:bj)(m:Nat)(hm:m≤1000)(hn:1100≤n)(hp:pX p):∃b,vT n p (m:Int)=some b∧(b=true→Bl p m):=by
 obtain⟨ab,ai,ay,bg⟩:=hp;simp only [vT,ig];by_cases hc:40<p.Params.length∨200<p.Name.length
 ·rw [show(decide (40<((p.Params.length:Nat):Int))||decide (200<((p.Name.length:Nat):Int)))=true by
   rcases hc with h|h
   ·rw [decide_eq_true (show 40<((p.Params.length:Nat):Int)by omega)];rfl
   ·rw [decide_eq_true (show 200<((p.Name.length:Nat):Int)by omega),ajH]]
  exact⟨false,rfl,λh=>by cases h⟩
 ·rw [show(
   decide (40<((p.Params.length:Nat):Int))||decide (200<((p.Name.length:Nat):Int)))=false by
   rw [decide_eq_false (show¬ 40<((p.Params.length:Nat):Int)by omega),decide_eq_false (show¬ 200<((p.Name.length:Nat):Int)by omega)];rfl]
  simp only [ajw]
  have nc:∀k i,p.Params.length<i+k→i≤p.Params.length→(∀j,j<i→(p.Params.getD j default).Name.length≤200)→∃b,vS n (m:Int) p k (i:Int)=some b∧(b=true→Bl p m):=by
   intro k;induction k with
   |zero=>intro i g1 g2;omega
   |succ k tX=>
    intro i g1 g2 g3;simp only [vS,GG,GF,ajC,ajB];by_cases hi:i<p.Params.length
    ·simp only [hi,ajt,ajv,eo hi,dy];by_cases hx:200<(p.Params.getD i default).Name.length
     ·rw [decide_eq_true (show 200<(((p.Params.getD i default).Name.length:Nat):Int)by omega)]
      exact⟨false,rfl,λh=>by cases h⟩
     ·rw [decide_eq_false (show¬ 200<(((p.Params.getD i default).Name.length:Nat):Int)by omega),lL (by omega)]
      exact tX (i+1) (by omega) (by omega) λj hj=>by
       by_cases h:j<i
       ·exact g3 j h
       ·obtain rfl:j=i:=by omega
        omega
    ·simp only [hi,aju,ajw];obtain⟨r,f1,f2,f3⟩:=afl n p.Body (m:Int) (by omega) (by omega) (by omega) (by omega) bg
     rw [f1];refine⟨_,rfl,λhb=>?_⟩
     have hb:=of_decide_eq_true hb;have:=f3 hb
     have bh:=Vm p.Params λj hj=>g3 j (by omega)
     exact⟨by omega,by omega,by omega,by omega⟩
  exact nc n 0 (by omega) (by omega) λj hj=>by omega
open Go Go.Ab Go.Proofs
open Go Go.Ab Go.Proofs
def ind:Nat→ajK
 | 0=>[]
 |d+1=>32::32::32::32::ind d
def cat:List ajK→ajK
 |[]=>[]
 |x::l=>x++cat l
def lN(d:Nat)(l:List ajK):ajK:=ind d++(cat l++[10])
abbrev oS(e:Expr):ajK:=flat (f8 e)
abbrev Vn(e:Expr):List Token:=kh (f8 e)
mutual
def afn:Stmt→Nat→ajK
 |⟨Op,Name,Max,A,B,Body,c7⟩,d=>
  if Op=1 then lN d [[108,101,116,32],Name,[32,61,32],oS A,[59]]
  else if Op=2 then lN d [Name,[32,61,32],oS A,[59]]
  else if Op=3 then lN d [[112,117,116,32],oS A,[32,61,32],oS B,[59]]
  else if Op=4 then lN d [[100,101,108,101,116,101,32],oS A,[59]]
  else if Op=5 then lN d [[105,102,32],oS A,[32,123]]++(xf Body (d+1)++((if c7.length=0 then[]else lN d [[125,32,101,108,115,101,32,123]]++xf c7 (d+1))++lN d [[125]]))
  else if Op=6 then lN d [[102,111,114,32],Name,[32,61,32],oS A,[32,116,111,32],oS B,[32,109,97,120,32],Lib.decDigits Max.toNat,[32,123]]++(xf Body (d+1)++lN d [[125]])
  else if Op=7 then lN d [[101,109,105,116,32],oS A,[59]]
  else lN d [[97,98,111,114,116,32],Lib.decDigits Max.toNat,[59]]
def xf:List Stmt→Nat→ajK
 |[],_=>[]
 |s::l,d=>afn s d++xf l d
end
open Go Go.Ab Go.Proofs
open Go Go.Ab Go.Proofs
open Go Go.Ab Go.Proofs
section
variable {l:List Token}
end
open Go Go.Ab Go.Proofs
section
variable {l:List Token}
end
open Go Go.Ab Go.Proofs
def Jv(t:Int):ajK:=if t=1 then[105,110,116]else if t=2 then[115,116,114] else[98,111,111,108]
def afo(x:Param):ajK:=(x.Name++[58,32])++Jv x.hT
def afp(l:List Param):ajK:=Lib.join (l.map afo) [44,32]
def afq(p:bj):ajK:=lN 0 [[112,114,111,99,32],p.Name,[40],afp p.Params,[41,32,123]]++(xf p.Body 1++lN 0 [[125]])
def aiZ(n:Nat)(t:Int):zb n t=some (Jv t):=by
 unfold zb Jv;by_cases ab:t=1
 ·simp [ab]
 ·by_cases ai:t=2
  ·simp [ai]
  ·simp [ab,ai]
open Go Go.Ab Go.Proofs
section
variable {l:List Token}
end
open Go Go.Ab Go.Proofs
def pY(u:Nat):ajK:=if u<128 then[UInt8.ofNat u]else UInt8.ofNat (u % 128+128)::pY (u / 128)
termination_by u
decreasing_by omega
def fold(n:Int):Nat:=if n<0 then(2*(-(n+1))+1).toNat else(2*n).toNat
def gM(x:Int):Prop := -9223372036854775808≤x∧x≤9223372036854775807
def rQ(n:Int):ajK:=pY (fold n)
def oT(s:ajK):ajK:=pY s.length++s
open Go Go.Ab Go.Proofs
def afr(n:Nat)(s:ajK)(hs:s.length≤9223372036854775807):∀m i,s.length<i+m→i≤s.length→tx n s m (i:Int)=some ((s.drop i).all okB):=by
 intro m;induction m with
 |zero=>intro i h ai;omega
 |succ m bv=>
  intro i hm hi;simp only [tx,Ic,Ib];by_cases h:i<s.length
  ·rw [mq s i 0 h,fy (by omega),bv (i+1) (by omega) (by omega)]
   simp only [h,eo h,ajB,ajC,ajt,ajv,dy,ajH,List.all_cons,Bc,ix,ig,UQ];cases okB (s.getD i 0)<;>simp
  ·rw [pU s i h];simp [h]
def afs{n:Nat}(s:ajK)(h:s.length<n)(hs:s.length≤9223372036854775807):Ie n s=some (s.all okB):=by
 have:=afr n s hs n 0 (by omega) (by omega)
 rw [List.drop_zero]at this;exact this
open Go Go.Ab Go.Proofs
open Go Go.Ab Go.Proofs
open Go Go.Ab Go.Proofs
open Go Go.Ab Go.Proofs
open Go Go.Ab Go.Proofs
def aft{β:Type}{L:Nat→Int→Option β}{len:Nat}{chk:Nat→Bool}{no yes:β}
 (step:∀m i,i<len→L (m+1) (i:Int)=if chk i then L m ((i+1:Nat):Int)else some no) (stop:∀m,L (m+1) (len:Int)=some yes):
 ∀m i,len<i+m→i≤len→L m (i:Int)=some (if(List.range' i (len-i)).all chk then yes else no):=by
 intro m;induction m with
 |zero=>intro i h ai;omega
 |succ m bv=>
  intro i h ai;by_cases hi:i<len
  ·rw [step m i hi,bv (i+1) (by omega) (by omega),show len-i=(len-(i+1))+1 by omega,List.range'_succ,List.all_cons]
   cases chk i
   ·rfl
   ·rw [if_pos rfl,Bool.true_and]
  ·obtain rfl:i=len:=by omega
   rw [stop m];simp
def Jw{β:Type}{L:Nat→Int→Option β}{len:Nat}{chk:Nat→Bool}{no yes:β}{m:Nat}(hm:len<m)
 (step:∀m i,i<len→L (m+1) (i:Int)=if chk i then L m ((i+1:Nat):Int)else some no) (stop:∀m,L (m+1) (len:Int)=some yes):
 L m 0=some (if(List.range len).all chk then yes else no):=by
 have:=aft step stop m 0 (by omega) (by omega)
 rwa [Nat.sub_zero,←List.range_eq_range']at this
def nj(c:UInt8):Bool:=decide (97≤c.toNat∧c.toNat≤122)||decide (48≤c.toNat∧c.toNat≤57)||decide (c.toNat=47)||decide (c.toNat=46)||decide (c.toNat=95)||decide (c.toNat=45)
def kE(k:ajK):Bool:=decide (1≤k.length)&&decide (k.length≤24)&&(List.range k.length).all λi=>nj (k.getD i 0)
def afu{n:Nat}{s:ajK}(h:24<n):y6 n s=some (decide (s.length≤24)&&(List.range s.length).all λi=>nj (s.getD i 0)):=by
 unfold y6;by_cases ah:s.length≤24
 ·simp only [ix,show¬ 24<s.length by omega,aju,ajw,ah,ajt,Bool.true_and]
  rw [Jw (L:=sT n s) (len:=s.length) (chk:=λi=>nj (s.getD i 0)) (no:=false) (yes:=true) (by omega)]
  ·cases (List.range s.length).all λi=>nj (s.getD i 0)<;>rfl
  ·intro m i hi;simp only [sT,y5,D0,ajC,hi,ajt,ajv,eo hi,dy,c_,ajB,lL (show i≤4611686018427387904 by omega),Bd,w3,rN,ig,lM]
   have:(((((decide (97≤(s.getD i 0).toNat)&&decide ((s.getD i 0).toNat≤122)||(decide (48≤(s.getD i 0).toNat)&&decide ((s.getD i 0).toNat≤57)))||decide ((s.getD i 0).toNat=47))||decide ((s.getD i 0).toNat=46))||decide ((s.getD i 0).toNat=95))||decide ((s.getD i 0).toNat=45))=nj (s.getD i 0):=by
    simp [nj,Bool.decide_and]
   rw [this];cases nj (s.getD i 0)<;>rfl
  ·intro m;simp only [sT,y5,D1,ajG,aju,ajw]
 ·simp only [ix,show 24<s.length by omega,ajt,ajv,ah,aju,Bool.false_and]
def afv{n:Nat}{k:ajK}(h:24<n):q5 n k=some (kE k):=by
 unfold q5 kE;rw [afu h];cases k with
 |nil=>rfl
 |cons c l=>simp [c_]
def afw(c:Nat):(((((decide (c<97)||decide (122<c))&&(decide (c<48)||decide (57<c))) && !decide (c=47)) && !decide (c=46)) && !decide (c=95) && !decide (c=45)) = !(decide (97≤c∧c≤122)||decide (48≤c∧c≤57)||decide (c=47)||decide (c=46)||decide (c=95)||decide (c=45)):=by
 rw [Bool.eq_iff_iff];simp only [Bool.and_eq_true,Bool.or_eq_true,decide_eq_true_eq,Bool.not_eq_true',Bool.or_eq_false_iff,decide_eq_false_iff_not];omega
def afx{n:Nat}{k:ajK}(h:k.length<n)(hk:k.length≤9223372036854775807):rx n k=some (kE k):=by
 unfold rx;rw [Jw (L:=te n k) (len:=k.length) (chk:=λi=>nj (k.getD i 0)) (no:=false) (yes:=decide (1≤k.length)&&decide (k.length≤24)) h]
 ·unfold kE;cases (List.range k.length).all λi=>nj (k.getD i 0)<;>simp
 ·intro m i hi;simp only [te,z1,ajC,hi,ajt,ajv,eo hi,dy,ajB,fy (show i≤9223372036854775806 by omega),Bc,ix,rN,ig,lM]
  have:=afw (k.getD i 0).toNat
  rw [show(decide (97≤(k.getD i 0).toNat∧(k.getD i 0).toNat≤122)||decide (48≤(k.getD i 0).toNat∧(k.getD i 0).toNat≤57)||decide ((k.getD i 0).toNat=47)||decide ((k.getD i 0).toNat=46)||decide ((k.getD i 0).toNat=95)||decide ((k.getD i 0).toNat=45))=nj (k.getD i 0)from rfl]at this
  rw [this];cases nj (k.getD i 0)<;>rfl
 ·intro m;simp only [te,z1,GZ,ajG,aju,ajw,Bd,w3,lM]
open Go Go.Ab Go.Proofs
def Vo(n:Nat)(s:ajK):∀m,vl n s m=sX n s m
 | 0=>rfl
 |m+1=>by
  show D6 n s (vl n s m)=_
  rw [Vo n s m];rfl
def afy{n:Nat}{s:ajK}(h:s.length<n)(hs:s.length≤9223372036854775807):vm n s=some (mr s):=by
 unfold vm;rw [Vo];exact aet h hs
def Vp(n:Nat)(s:ajK):∀m,v8 n s m=tx n s m
 | 0=>rfl
 |m+1=>by
  show GY n s (v8 n s m)=_
  rw [Vp n s m];rfl
def afz{n:Nat}{s:ajK}(h:s.length<n)(hs:s.length≤9223372036854775807):zZ n s=some (mr s):=by
 unfold zZ mr;by_cases ah:s.length≤64
 ·simp only [ix,show¬ 64<s.length by omega,aju,ajw,ah,ajt,Bool.and_true]
  rw [Vp];exact afs s h hs
 ·simp only [ix,show 64<s.length by omega,ajt,ajv,ah,aju,Bool.and_false]
def lO(v:bB):Bool:=if v.Kind=0 then decide (v.N=0)&&decide (v.S=[])else if v.Kind=1 then decide (v.S=[])else decide (v.Kind=2)&&decide (v.N=0)&&mr v.S
def afA{n:Nat}{v:bB}(h:v.S.length<n)(hs:v.S.length≤9223372036854775807):pz n v=some (lO v):=by
 unfold pz lO;by_cases h0:v.Kind=0
 ·simp [h0]
 ·by_cases ab:v.Kind=1
  ·simp [ab]
  ·by_cases ai:v.Kind=2
   ·by_cases ay:v.N=0
    ·simp [ai,ay,afy h hs]
    ·simp [ai,ay]
   ·simp [h0,ab,ai]
def afB{n:Nat}{v:bB}(h:v.S.length<n)(hs:v.S.length≤9223372036854775807):pG n v=some (lO v):=by
 unfold pG lO;by_cases h0:v.Kind=0
 ·by_cases ay:v.N=0<;>simp [h0,ay]
 ·by_cases ab:v.Kind=1
  ·simp [ab]
  ·by_cases ai:v.Kind=2
   ·by_cases ay:v.N=0
    ·simp [ai,ay,afz h hs]
    ·simp [ai,ay]
   ·simp [h0,ab,ai]
def b2(v:bB):ajK:=if v.Kind=1 then pY 1++rQ v.N else if v.Kind=2 then pY 2++oT v.S else pY 0
open Go Go.Ab Go.Proofs
open Go Go.Ab Go.Proofs
def jG:List Token→Nat
 |[]=>0
 |t::l=>(spell t).length+jG l
def Vq:∀l m:List Token,jG (l++m)=jG l+jG m
 |[],m=>by simp [jG]
 |t::l,m=>by simp only [List.cons_append,jG,Vq l m];omega
def cx(l:List Token)(i:Nat):Nat:=jG (l.take i)
def hq{α β:Type}(Q:α→β→Prop)(p:Option (aO α β)):Prop:=∀a z,p=some (.ret a z)→Q a z
def hq.ret{α β:Type}{Q:α→β→Prop}{a:α}{z:β}(h:Q a z):hq Q (some (.ret a z)):=λdF Vr e=>by cases e;exact h
def hq.be{α β:Type}{Q:α→β→Prop}{x:V}{z:β}:hq Q (some (.be x z)):=λdF Vr e=>by cases e
def hq.none{α β:Type}{Q:α→β→Prop}:hq Q none:=λdF Vr e=>by cases e
def hq.bind{α β dx ga:Type}{Q:α→β→Prop}{R:dx→ga→Prop}{p:Option (aO α β)}{f:α→β→Option (aO dx ga)}{h:V→β→Option (aO dx ga)}(hp:hq Q p)(bh:∀a z,Q a z→hq R (f a z))(bz:∀x z,hq R (h x z)):
 hq R (Option.bind p λr=>aO.on r f h):=by
 match p,hp with
 |.none,_=>exact .none
 |some (.ret a z),hp=>exact bh a z (hp a z rfl)
 |some (.be x z),_=>exact bz x z
def hq.bif{dx ga:Type}{R:dx→ga→Prop}{c:Bool}{p q:Option (aO dx ga)}(ab:c=true→hq R p)(ai:c=false→hq R q):hq R (bif c then p else q):=by cases c;exact ai rfl;exact ab rfl
def hq.au{dx ga:Type}{R:dx→ga→Prop}{c:Bool}{p:Option (aO dx ga)}(ab:hq R p):hq R (Go.Ab.au c p):=by cases c;exact .none;exact ab
section
variable {l:List Token}
theorem Vs(e:Expr)(k:Nat):jG (xd e k)=jG (Vn e)+if jF e.Op<k then 2 else 0:=by
 unfold xd lf;split
 ·have ab:(spell (gE [40])).length=1:=rfl;have ai:(spell (gE [41])).length=1:=rfl;have ay:jG (Vn e)=jG (kh (f8 e)):=rfl;simp only [kh,Jo,jG,Vq,ab,ai,ay];omega
 ·rfl
theorem afC(e:Expr){j k:Nat}(h:j≤k):jG (xd e j)≤jG (xd e k):=by
 rw [Vs,Vs];split<;>split<;>omega
def Jx(l:List Token)(i iU:Nat)(e:Expr)(z:Int):Prop:=∃k:Nat,z=(k:Int)∧i≤k∧k≤l.length∧lg e∧cx l i+jG (xd e iU)≤cx l k
theorem Jx.mono{i j iU Vt:Nat}{e:Expr}{z:Int}(h:Jx l j iU e z)(hi:i≤j)(hp:cx l i≤cx l j)(nH:Vt≤iU):Jx l i Vt e z:=by
 obtain⟨k,ab,ai,ay,bg,bQ⟩:=h;have:=afC e nH
 exact⟨k,ab,by omega,ay,bg,by omega⟩
end
open Go Go.Ab Go.Proofs
section
variable {l:List Token}
end
open Go Go.Ab Go.Proofs
section
variable {l:List Token}
end
open Go Go.Ab Go.Proofs
section
variable {l:List Token}
end
open Go Go.Ab Go.Proofs
section
variable {l:List Token}
end
open Go Go.Ab Go.Proofs
abbrev ki(α:Type):=ajK→Except Int (α×ajK)
structure jj{α:Type}(D:ki α)(E:α→ajK)(ok:α→Prop):Prop where
 rt:∀v t,ok v→D (E v++t) = .ok (v,t)
 kF:∀x v t,D x = .ok (v,t)→x=E v++t∧ok v
 hP:∀x e,D x = .error e→e≠0
def Bm{α β:Type}(D:ki α)(k:α→ki β):ki (α×β):=λx=>match D x with
 |.ok (v,t)=>match k v t with
  |.ok (w,u)=>.ok ((v,w),u)
  |.error e=>.error e
 |.error e=>.error e
def jj.dep{α β:Type}{D:ki α}{E:α→ajK}{ok:α→Prop}{k:α→ki β}{dH:α→β→ajK}{Vu:α→β→Prop}(h:jj D E ok)(ai:∀a,ok a→jj (k a) (dH a) (Vu a)):
 jj (Bm D k) (λp=>E p.1++dH p.1 p.2) (λp=>ok p.1∧Vu p.1 p.2) where
 rt:=fun⟨v,w⟩ t ⟨ay,bg⟩=>by simp only [Bm,List.append_assoc,h.rt v _ ay,(ai v ay).rt w t bg]
 kF:=
  λx ⟨v,w⟩ t hx=>by
  unfold Bm at hx;split at hx
  ·rename_i v0 t0 hd;obtain⟨ay,bg⟩:=h.kF _ _ _ hd;split at hx
   ·rename_i xg K' hk;obtain⟨bQ,dh⟩:=(ai v0 bg).kF _ _ _ hk;cases hx;exact⟨by rw [ay,bQ,List.append_assoc],bg,dh⟩
   ·cases hx
  ·cases hx
 hP:=
  λx e hx=>by
  unfold Bm at hx;split at hx
  ·rename_i v0 t0 hd;split at hx
   ·cases hx
   ·rename_i bP hk;cases hx;exact(ai v0 (h.kF _ _ _ hd).2).hP _ _ hk
  ·rename_i bP hd;cases hx;exact h.hP _ _ hd
def Bn{α β:Type}(f:α→β)(D:ki α):ki β:=λx=>match D x with
 |.ok (v,t)=>.ok (f v,t)
 |.error e=>.error e
def jj.map{α β:Type}{D:ki α}{E:α→ajK}{ok:α→Prop}(h:jj D E ok)(f:α→β)(g:β→α)(tY:β→Prop)(dd:β→ajK)(ab:∀b,tY b→f (g b)=b∧ok (g b)∧dd b=E (g b))(ai:∀a,ok a→g (f a)=a∧tY (f a)):
 jj (Bn f D) dd tY where
 rt:=λv t aA=>by
  obtain⟨ay,bg,bQ⟩:=ab v aA;simp only [Bn,bQ,h.rt _ t bg,ay]
 kF:=λx v t hx=>by
  unfold Bn at hx;split at hx
  ·rename_i v0 t0 hd;cases hx;obtain⟨ay,bg⟩:=h.kF _ _ _ hd;obtain⟨bQ,dh⟩:=ai _ bg;obtain⟨_,_,e5⟩:=ab _ dh;exact⟨by rw [e5,bQ,ay],dh⟩
  ·cases hx
 hP:=λx e hx=>by
  unfold Bn at hx;split at hx
  ·cases hx
  ·rename_i bP hd;cases hx;exact h.hP _ _ hd
def Bo{α:Type}(p:α→Bool)(e:Int)(D:ki α):ki α:=λx=>match D x with
 |.ok (v,t)=>if p v then .ok (v,t)else .error e
 |.error f=>.error f
def jj.chk{α:Type}{D:ki α}{E:α→ajK}{ok:α→Prop}(h:jj D E ok)(p:α→Bool)(e:Int)(he:e≠0):jj (Bo p e D) E (λv=>ok v∧p v=true) where
 rt:=λv t ⟨ab,ai⟩=>by simp only [Bo,h.rt v t ab,ai,ajI]
 kF:=
  λx v t hx=>by
  unfold Bo at hx;split at hx
  ·rename_i v0 t0 hd;split at hx
   ·rename_i hp;cases hx;exact⟨(h.kF _ _ _ hd).1,(h.kF _ _ _ hd).2,hp⟩
   ·cases hx
  ·cases hx
 hP:=λx f hx=>by
  unfold Bo at hx;split at hx
  ·split at hx
   ·cases hx
   ·cases hx;exact he
  ·rename_i bP hd;cases hx;exact h.hP _ _ hd
def tZ{α:Type}(E:α→ajK)(l:List α):ajK:=(l.map E).flatten
def Vv{α:Type}(E:α→ajK)(v:α)(l:List α):tZ E (v::l)=E v++tZ E l:=rfl
def xh{α:Type}(D:ki α):Nat→ki (List α)
 | 0,x=>.ok ([],x)
 |n+1,x=>match D x with
  |.ok (v,t)=>match xh D n t with
   |.ok (l,u)=>.ok (v::l,u)
   |.error e=>.error e
  |.error e=>.error e
def jj.rep{α:Type}{D:ki α}{E:α→ajK}{ok:α→Prop}(h:jj D E ok):∀n,jj (xh D n) (tZ E) (λl=>l.length=n∧∀v∈l,ok v)
 | 0=>{
  rt:=λv t ⟨ab,_⟩=>by
   obtain rfl:=List.eq_nil_of_length_eq_zero ab;rfl
  kF:=λx v t hx=>by cases hx;exact⟨rfl,rfl,λv aA=>by cases aA⟩
  hP:=λx e hx=>by cases hx}
 |n+1=>{
  rt:=λv t ⟨ab,ai⟩=>by
   cases v with
   |nil=>simp at ab
   |cons a l=>
    have ay:=h.rt a (tZ E l++t) (ai a (by simp))
    have bg:=(jj.rep h n).rt l t ⟨by simpa using ab,λv aA=>ai v (by simp [aA])⟩
    simp only [xh,Vv,List.append_assoc,ay,bg]
  kF:=
   λx v t hx=>by
   unfold xh at hx;split at hx
   ·rename_i v0 t0 hd;split at hx
    ·rename_i l0 K' hk;cases hx;obtain⟨ay,bg⟩:=h.kF _ _ _ hd;obtain⟨bQ,dh,e5⟩:=(jj.rep h n).kF _ _ _ hk;refine⟨by rw [ay,bQ,Vv,List.append_assoc],by simp [dh],λv aA=>?_⟩
     rcases List.mem_cons.1 aA with rfl|aA
     ·exact bg
     ·exact e5 v aA
    ·cases hx
   ·cases hx
  hP:=λx e hx=>by
   unfold xh at hx;split at hx
   ·split at hx
    ·cases hx
    ·rename_i bP hk;cases hx;exact(jj.rep h n).hP _ _ hk
   ·rename_i bP hd;cases hx;exact h.hP _ _ hd}
def pZ(z:Int):Prop:=0≤z∧z<18446744073709551616
def rR(z:Int):ajK:=pY z.toNat
def n4{α:Type}(E:α→ajK)(l:List α):ajK:=pY l.length++tZ E l
def afD(b:Bool):ajK:=if b then[1] else[0]
open Go Go.Ab Go.Proofs
def jj.as{α:Type}{D:ki α}{E:α→ajK}{ok:α→Prop}(h:jj D E ok)(dd:α→ajK)(tY:α→Prop)(ab:∀v,tY v↔ok v)(ai:∀v,ok v→dd v=E v):jj D dd tY where
 rt:=λv t aA=>by rw [ai v ((ab v).1 aA)];exact h.rt v t ((ab v).1 aA)
 kF:=λx v t hx=>by
  obtain⟨ay,bg⟩:=h.kF x v t hx;exact⟨by rw [ai v bg];exact ay,(ab v).2 bg⟩
 hP:=h.hP
def Bp(v:bB):Prop:=lO v=true∧gM v.N
def afE{s:ajK}(h:mr s=true):s.length≤64:=by
 unfold mr at h;simp only [Bool.and_eq_true,decide_eq_true_eq]at h;exact h.2
def afF{v:bB}(h:lO v=true):v=⟨0,0,[]⟩∨(v.Kind=1∧v.S=[])∨(v.Kind=2∧v.N=0∧mr v.S=true):=by
 obtain⟨k,n,s⟩:=v;unfold lO at h;simp only at h ⊢
 split at h
 ·rename_i h0;simp only [Bool.and_eq_true,decide_eq_true_eq]at h;obtain⟨rfl,rfl⟩:=h;exact .inl (by rw [h0])
 ·split at h
  ·rename_i ab;exact .inr (.inl ⟨ab,by simpa using h⟩)
  ·simp only [Bool.and_eq_true,decide_eq_true_eq]at h;exact .inr (.inr ⟨h.1.1,h.1.2,h.2⟩)
open Go Go.Ab Go.Proofs
def res{α:Type}(z:α)(s:ajK):Except Int (α×ajK)→α×Int×Int
 |.ok (v,t)=>(v,((s.length-t.length:Nat):Int),0)
 |.error e=>(z,0,e)
def Vw{i:Nat}(h:i≤9223372036854775807):ajM (i:Int)=(i:Int):=by rw [wr]<;>omega
open Go Go.Ab Go.Proofs
open Go Go.Ab Go.Proofs
def Jy:∀a b:ajK,(!Op.bytesLess a b)=(Op.bytesLess b a||decide (b=a))
 |[],[]=>rfl
 |[],b::y=>rfl
 |a::x,[]=>rfl
 |a::x,b::y=>by
  simp only [Op.bytesLess,Jy x y,Bool.not_or,Bool.not_and];rcases Nat.lt_trichotomy a.toNat b.toNat with h|h|h
  ·have ab:a<b:=h;have ai:¬ b<a:=by show¬ b.toNat<a.toNat;omega
   have ay:a≠b:=by intro e;subst e;omega
   simp [ab,ai,Ne.symm ay]
  ·obtain rfl:a=b:=UInt8.toNat_inj.1 h;simp
  ·have ab:b<a:=h;have ai:¬ a<b:=by show¬ a.toNat<b.toNat;omega
   have ay:a≠b:=by intro e;subst e;omega
   simp [ab,ai,ay]
open Go Go.Ab Go.Proofs
def Bq{β:Type}{c k:Bool}{x y:β}(h:c = !k):(bif c then x else y)=if k then y else x:=by subst h;cases k<;>rfl
def Br{i len:Nat}{b:Bool}(hi:i<len)(ah:len≤9223372036854775807):(b||(!(decide (0<(i:Int)))||aP (ajM ((i:Int)-1)) len))=true:=by
 cases i with
 |zero=>simp
 |succ i=>
  rw [show((i+1:Nat):Int)-1=(i:Int)by omega,Vw (by omega),eo (by omega)];simp
def afG{i len:Nat}{b c:Bool}(hi:i<len):(b||(c||aP (i:Int) len))=true:=by rw [eo hi];simp
def allI(len:Nat)(chk:Nat→Bool):Bool:=(List.range len).all chk
def t6{len:Nat}{chk:Nat→Bool}:allI len chk=true↔∀i,i<len→chk i=true:=by
 unfold allI;simp
def t7(b:Bool):(if b then true else false)=b:=by cases b<;>rfl
def rS{β:Type}{L:Nat→Int→Option β}{len:Nat}{chk:Nat→Bool}{no yes:β}{m:Nat}(hm:len<m)
 (step:∀m i,i<len→L (m+1) (i:Int)=if chk i then L m ((i+1:Nat):Int)else some no) (stop:∀m,L (m+1) (len:Int)=some yes):
 L m 0=some (if allI len chk then yes else no):=Jw hm step stop
abbrev pv(i:Nat):Nat:=(ajM ((i:Int)-1)).toNat
def afH(i:Nat)(h:i≤9223372036854775807):pv (i+1)=i:=by
 unfold pv;(rw [show((i+1:Nat):Int)-1=(i:Int)by omega,Vw (by omega)];simp only [ajB])
section
variable {n:Nat} (hn:2000≤n) (b5:n≤9223372036854775808)
include hn b5
def afI(l:List aI):Bool:=allI l.length λi=>kE (l.getD i default).Key&&lO (l.getD i default).bo&&(!decide (0<(i:Int))||Op.bytesLess (l.getD (pv i) default).Key (l.getD i default).Key)
def afJ(l:List aI):Bool:=afI l&&allI l.length λi=>!decide ((l.getD i default).bo.Kind=0)
def afK(l:List bc):Bool:=(allI l.length λi=>kE (l.getD i default).Key && !decide ((l.getD i default).Count<1) && !decide (1099511627776<(l.getD i default).Count)&&(!decide (0<(i:Int))||Op.bytesLess (l.getD (pv i) default).Key (l.getD i default).Key))&&decide (((l.length:Nat):Int)≤32)
def Vx(l:List ajK):Bool:=(allI l.length λi=>kE (l.getD i default)&&(!decide (0<(i:Int))||Op.bytesLess (l.getD (pv i) default) (l.getD i default)))
def afL(f:eX):Bool:=bif f.ep then decide (f.Reads.length=0)&&decide (f.da.length=0) else(Vx f.Reads&&decide (f.Reads.length≤64))&&(Vx f.da&&decide (f.da.length≤64))
end
open Go Go.Ab Go.Proofs
def Vy(c b:Bool):(bif c then some b else some default)=some (c&&b):=by cases c<;>rfl
section
variable {n:Nat} (hn:2000≤n) (b5:n≤9223372036854775808)
include hn b5
def Vz(l:List bB):Bool:=allI l.length λi=>lO (l.getD i default) && !decide ((l.getD i default).Kind=0)
def VA(r:Request):Int:=
 bif (((decide (r.Client<1)||decide (32<r.Client))||decide (r.Seq<1))||decide (1099511627776<r.Seq))then 1 else
 bif !nb r.bj then 7 else
 bif decide (6<r.az.length)then 2 else
 bif !Vz r.az then 1 else
 bif ((!afL r.bY||r.bY.ep)||(!r.fD&&decide (0<r.bY.Reads.length+r.bY.da.length)))then 1 else 0
structure t8(n:Nat)(r:Request):Prop where
 proc:r.bj.length≤1000
 args:r.az.length<n
 vals:∀i,(r.az.getD i default).S.length<n
 afM:r.bY.Reads.length<n
 afN:r.bY.da.length<n
 xi:r.bY.Reads.length≤1000000
 wl:r.bY.da.length≤1000000
 rd:∀i,(r.bY.Reads.getD i default).length<n
 wr:∀i,(r.bY.da.getD i default).length<n
def t'(c:UInt8):Bool:=!(decide (c.toNat<33)||decide (126<c.toNat))
def iz(s:ajK):Bool:=(allI s.length λi=>t' (s.getD i 0))&&decide (s.length≤24)
def VB(n:Int):Bool:=decide (1≤n)&&decide (n≤16)
def afO(n:Int):Bool:=decide (1≤n)&&decide (n≤1099511627776)
def afP(l:List Part)(i:Nat):Bool:=
 let x:=l.getD i default
 bif decide (x.gQ=0)then decide (x.cN=[]) else((((VB x.gQ && !decide (x.gQ=x.Node))&&iz x.cN) && !Op.bytesLess x.cN x.dY)&&(decide (i+1=l.length)||Op.bytesLess x.cN (l.getD (i+1) default).dY))
def afQ(l:List Part)(i:Nat):Bool:=
 let x:=l.getD i default
 (!decide (0<(i:Int))||(iz x.dY&&Op.bytesLess (l.getD (pv i) default).dY x.dY))&&(((afO x.Id&&VB x.Node)&&afP l i)&&allI i λk=>!decide ((l.getD k default).Id=x.Id))
def VC(p:bX):Bool:=!((((decide (p.Version<0)||decide (1099511627776<p.Version))||decide (p.a7.length<1))||decide (16<p.a7.length)) || !decide ((p.a7.getD 0 default).dY=[]))&&allI p.a7.length (afQ p.a7)
def xj(n:Nat)(x:Part):Prop:=x.dY.length<n∧x.cN.length<n
end
open Go Go.Ab Go.Proofs
def afR{β:Type}{L:Nat→Int→Option β}{len:Nat}{chk:Nat→Bool}{no:β}{yes:Option β}
 (step:∀m i,i<len→L (m+1) (i:Int)=if chk i then L m ((i+1:Nat):Int)else some no) (stop:∀m,L (m+1) (len:Int)=yes):
 ∀m i,len<i+m→i≤len→L m (i:Int)=if(List.range' i (len-i)).all chk then yes else some no:=by
 intro m;induction m with
 |zero=>intro i h ai;omega
 |succ m bv=>
  intro i h ai;by_cases hi:i<len
  ·rw [step m i hi,bv (i+1) (by omega) (by omega),show len-i=(len-(i+1))+1 by omega,List.range'_succ,List.all_cons]
   cases chk i
   ·rfl
   ·rw [if_pos rfl,Bool.true_and]
  ·obtain rfl:i=len:=by omega
   rw [stop m];simp
def afS{β:Type}{L:Nat→Int→Option β}{len:Nat}{chk:Nat→Bool}{no:β}{yes:Option β}{m:Nat}(hm:len<m)
 (step:∀m i,i<len→L (m+1) (i:Int)=if chk i then L m ((i+1:Nat):Int)else some no) (stop:∀m,L (m+1) (len:Int)=yes):
 L m 0=if allI len chk then yes else some no:=by
 have:=afR step stop m 0 (by omega) (by omega)
 rwa [Nat.sub_zero,←List.range_eq_range']at this
section
variable {n:Nat} (hn:2000≤n) (b5:n≤9223372036854775808)
include hn b5
def afT(o:Outcome):Bool:=bif decide (o.Status=1) then(decide (o.Code=0)&&decide (o.Out.length≤16))&&Vz o.Out else((decide (o.Status=2)&&decide (0≤o.Code))&&decide (o.Code≤1009))&&decide (o.Out.length=0)
structure xk(n:Nat)(o:Outcome):Prop where
 out:o.Out.length<n
 vals:∀i,(o.Out.getD i default).S.length<n
def p0(e4:Int):Int:=bif (decide ((ajM (e4-1))<8)) then(ajM (e4-1))else 8
def afU(s:b1):Bool:=((decide (s.Client<1)||decide (32<s.Client))||decide (s.Next<1))||decide (1099511627776<s.Next)
def afV(s:b1)(i:Nat):Bool:=(decide ((s.c'.getD i default).Client=s.Client)&&decide ((s.c'.getD i default).Seq=s.Next-(s.c'.length:Int)+(i:Int)))&&afT (s.c'.getD i default).Outcome
def afW(s:b1):Bool:=(!afU s&&decide ((s.c'.length:Int)=p0 s.Next))&&allI s.c'.length (afV s)
structure rT(n:Nat)(s:b1):Prop where
 rep:s.c'.length<n
 out:∀i,xk n (s.c'.getD i default).Outcome
def VD(l:List b1):Bool:=allI l.length λi=>afW (l.getD i default)&&(!decide (0<(i:Int)) || !decide ((l.getD i default).Client≤(l.getD (pv i) default).Client))
end
open Go Go.Ab Go.Proofs
def VE{β:Type}{c d k:Bool}{x y:β}(h:k=(!c && !d)):(bif c then x else(bif d then x else y))=if k then y else x:=by subst h;cases c<;>cases d<;>rfl
def lP{m k:Nat}(h:m*k≤140737488355328):room m k=true:=by simp [room];exact h
def VF{α:Type}[Inhabited α]{l:List α}{i:Nat}(h:i<l.length):l.getD i default∈l:=by
 rw [List.getD_eq_getElem?_getD,List.getElem?_eq_getElem h];exact List.getElem_mem h
section
variable {n:Nat} (hn:2000≤n) (b5:n≤9223372036854775808)
include hn b5
def Jz(a b:bB):Bool:=decide (a.Kind=b.Kind)&&(decide (a.N=b.N)&&(decide (a.S=b.S)&&true))
def rU(r:Row)(floor last:Int)(i:Nat):Bool:=
 ((!decide ((r.bi.getD i default).bH<floor) && !decide (last<(r.bi.getD i default).bH))&&lO (r.bi.getD i default).bo) &&
 !(decide (0<(i:Int))&&(decide ((r.bi.getD i default).bH≤(r.bi.getD (pv i) default).bH)||Jz (r.bi.getD i default).bo (r.bi.getD (pv i) default).bo))
def lQ(r:Row)(floor last:Int):Bool:=!(decide (r.bi.length=0)||decide ((r.bi.getD 0 default).bo.Kind=0))&&allI r.bi.length (rU r floor last)
structure xl(n:Nat)(r:Row):Prop where
 key:r.Key.length<n
 xm:r.bi.length<n
 val:∀i,(r.bi.getD i default).bo.S.length<n
omit hn b5 in
theorem VG{i len:Nat}{b:Bool}(hi:i<len)(ah:len≤9223372036854775807):(!(decide (0<(i:Int)))||(b||aP (ajM ((i:Int)-1)) len))=true:=by
 have:=Br (b:=b) hi ah
 rw [←this];cases decide (0<(i:Int))<;>cases b<;>simp
omit hn b5 in
theorem VH{i len:Nat}(hi:i<len)(ah:len≤9223372036854775807):(!(decide (0<(i:Int)))||aP (ajM ((i:Int)-1)) len)=true:=by
 have:=Br (b:=false) hi ah
 rw [Bool.false_or]at this;exact this
omit hn b5 in
theorem VI{l:Nat}:(decide (l=0)||aP 0 l)=true:=by
 by_cases h:l=0
 ·rw [decide_eq_true h];rfl
 ·rw [aer (by omega)];simp
theorem afX{r:Row}(h:xl n r)(floor last:Int):y9 n r floor last=some (lQ r floor last):=by
 have ab:=h.xm;unfold y9 lQ;rw [rS (L:=sU n floor last r) (chk:=rU r floor last) (no:=false) (yes:=true) ab,t7]
 ·simp only [rN,VI,dy,ig];cases decide (r.bi.length=0)||decide ((r.bi.getD 0 default).bo.Kind=0)<;>rfl
 ·intro m i hi;have ai:=h.val i;simp only [sU,y8,ajC,hi,ajt,ajv,eo hi,dy,ajB,fy (show i≤9223372036854775806 by omega),VG hi (show r.bi.length≤9223372036854775807 by omega),VH hi (show r.bi.length≤9223372036854775807 by omega)]
  rw [show pz n (⟨((r.bi.getD i default).bo).Kind,((r.bi.getD i default).bo).N,((r.bi.getD i default).bo).S⟩:bB)=_ from afA (v:=(r.bi.getD i default).bo) (by omega) (by omega),Vy,c_]
  refine VE ?_;unfold rU;simp only [Jz,ig,lM,Bool.not_and,Bool.not_or,Bool.not_not];cases decide ((r.bi.getD i default).bH<floor)<;>cases decide (last<(r.bi.getD i default).bH)<;>cases lO (r.bi.getD i default).bo<;>rfl
 ·intro m;simp only [sU,y8,Ed,ajG,aju,ajw]
theorem afY{r:Row}(h:xl n r)(floor last:Int):z8 n r floor last=some (kE r.Key&&lQ r floor last):=by
 have ab:=h.xm;have h0:=h.key;unfold z8 lQ;rw [afx (by omega) (by omega),c_]
 rw [rS (L:=tg n floor last r) (chk:=rU r floor last) (no:=false) (yes:=true) ab,t7]
 ·have g:∀b:Bool,(b||decide (r.bi.length=0)||aP 0 r.bi.length)=true:=λb=>by rw [Bool.or_assoc,VI];simp
  simp only [rN,ig,g,dy];cases kE r.Key<;>cases decide (r.bi.length=0)<;>cases decide ((r.bi.getD 0 default).bo.Kind=0)<;>rfl
 ·intro m i hi;have ai:=h.val i;simp only [tg,z7,G8,ajC,hi,ajt,ajv,eo hi,dy,ajB,fy (show i≤9223372036854775806 by omega),VG hi (show r.bi.length≤9223372036854775807 by omega),VH hi (show r.bi.length≤9223372036854775807 by omega)]
  rw [show pG n (⟨((r.bi.getD i default).bo).Kind,((r.bi.getD i default).bo).N,((r.bi.getD i default).bo).S⟩:bB)=_ from afB (v:=(r.bi.getD i default).bo) (by omega) (by omega),c_,c_]
  refine VE ?_;unfold rU;simp only [Jz,ig,lM,Bool.not_and,Bool.not_or,Bool.not_not];cases decide ((r.bi.getD i default).bH<floor)<;>cases decide (last<(r.bi.getD i default).bH)<;>cases lO (r.bi.getD i default).bo<;>rfl
 ·intro m;simp only [tg,z7,G9,ajG,aju,ajw]
def jk(s:ao):Bool:=!((decide (s.bm<0)||decide (s.bk<s.bm))||decide (1099511627776<s.bk)) &&
 allI s.Rows.length λi=>(kE (s.Rows.getD i default).Key&&(!decide (0<(i:Int))||Op.bytesLess (s.Rows.getD (pv i) default).Key (s.Rows.getD i default).Key))&&lQ (s.Rows.getD i default) s.bm s.bk
structure p1(n:Nat)(s:ao):Prop where
 rows:s.Rows.length<n
 row:∀i,xl n (s.Rows.getD i default)
theorem VJ{s:ao}(h:p1 n s):sW n s=some (jk s):=by
 have ab:=h.rows;unfold sW jk;rw [rS (L:=sV n s) (chk:=λi=>(kE (s.Rows.getD i default).Key&&(!decide (0<(i:Int))||Op.bytesLess (s.Rows.getD (pv i) default).Key (s.Rows.getD i default).Key))&&lQ (s.Rows.getD i default) s.bm s.bk) (no:=false) (yes:=true) ab,t7]
 ·simp only [ig];cases (decide (s.bm<0)||decide (s.bk<s.bm))||decide (1099511627776<s.bk)<;>rfl
 ·intro m i hi;have ai:=(h.row i).key;simp only [sV,y',ajC,hi,ajt,ajv,eo hi,dy,c_,ajB,fy (show i≤9223372036854775806 by omega),afv (show 24<n by omega),Br hi (show s.Rows.length≤9223372036854775807 by omega),afX hn b5 (h.row i),Vy,←Jy]
  refine Bq ?_;simp only [ig,lM];cases kE (s.Rows.getD i default).Key<;>cases decide (0<(i:Int))<;>cases Op.bytesLess (s.Rows.getD (pv i) default).Key (s.Rows.getD i default).Key<;>rfl
 ·intro m;simp only [sV,y',Ee,ajG,aju,ajw]
theorem VK{s:ao}(h:p1 n s):rz n s=some (jk s):=by
 have ab:=h.rows;unfold rz jk;rw [rS (L:=th n s) (chk:=λi=>(kE (s.Rows.getD i default).Key&&(!decide (0<(i:Int))||Op.bytesLess (s.Rows.getD (pv i) default).Key (s.Rows.getD i default).Key))&&lQ (s.Rows.getD i default) s.bm s.bk) (no:=false) (yes:=true) ab,t7]
 ·simp only [ig];cases (decide (s.bm<0)||decide (s.bk<s.bm))||decide (1099511627776<s.bk)<;>rfl
 ·intro m i hi;simp only [th,z',ajC,hi,ajt,ajv,eo hi,dy,c_,ajB,fy (show i≤9223372036854775806 by omega),afY hn b5 (h.row i),afG hi,Br hi (show s.Rows.length≤9223372036854775807 by omega),ajH]
  refine Bq ?_;simp only [ig,lM];cases kE (s.Rows.getD i default).Key<;>cases decide (0<(i:Int))<;>cases Op.bytesLess (s.Rows.getD (pv i) default).Key (s.Rows.getD i default).Key<;>cases lQ (s.Rows.getD i default) s.bm s.bk<;>rfl
 ·intro m;simp only [th,z',G',ajG,aju,ajw]
end
open Go Go.Ab Go.Proofs
def p2{α:Type}[Inhabited α]{P:α→Prop}{l:List α}(h:∀x∈l,P x)(h0:P default)(i:Nat):P (l.getD i default):=by
 by_cases hi:i<l.length
 ·exact h _ (VF hi)
 ·rw [List.getD_eq_getElem?_getD,List.getElem?_eq_none (by omega)];exact h0
def VL{v:bB}(h:Bp v):v.S.length≤64:=by
 rcases afF h.1 with h|h|h
 ·rw [h];simp
 ·rw [h.2];simp
 ·exact afE h.2.2
def afZ(p:aI):ajK:=oT p.Key++b2 p.bo
def af0(p:aI):Prop:=p.Key.length≤24∧Bp p.bo
section
variable {n:Nat} (hn:2000≤n) (b5:n≤9223372036854775808) {s:ajK} (hs:s.length<min n 1000000000)
include hn b5 hs
end
open Go Go.Ab Go.Proofs
def af1(x:Part):ajK:=rQ x.Id++(oT x.dY++(rQ x.Node++(rQ x.gQ++oT x.cN)))
def JA(x:Part):Prop:=gM x.Id∧x.dY.length≤24∧gM x.Node∧gM x.gQ∧x.cN.length≤24
def af2(p:bX):ajK:=rQ p.Version++n4 af1 p.a7
def af3{n:Nat}(hn:2000≤n){p:Part}(h:JA p):xj n p:=⟨by have:=h.2.1;omega,by have:=h.2.2.2.2;omega⟩
def af4{n:Nat}(hn:2000≤n){l:List Part}(h:∀p∈l,JA p)(i:Nat):xj n (l.getD i default):=p2 (P:=xj n) (λx hx=>af3 hn (h x hx)) ⟨by show 0<n;omega,by show 0<n;omega⟩ i
section
variable {n:Nat} (hn:2000≤n) (b5:n≤9223372036854775808) {s:ajK} (hs:s.length<min n 1000000000)
include hn b5 hs
end
open Go Go.Ab Go.Proofs
def af5(o:Outcome):ajK:=rR o.Status++(rR o.Code++n4 b2 o.Out)
def VM(o:Outcome):Prop:=(0≤o.Status∧o.Status≤9999)∧(0≤o.Code∧o.Code≤9999)∧o.Out.length≤16∧∀v∈o.Out,Bp v
def af6(c e4 k:Int)(l:List Outcome):List eT:=(l.zipIdx 0).map λp=>⟨c,ajM (e4-ajM (k-(p.2:Int))),p.1⟩
def af7{e4:Int}(h:1≤e4∧e4≤1099511627776):0≤p0 e4∧p0 e4≤8∧p0 e4≤e4-1:=by
 unfold p0;rw [wr (x:=e4-1) (by omega) (by omega)]
 by_cases gH:e4-1<8
 ·rw [decide_eq_true gH,ajv];omega
 ·rw [decide_eq_false gH,ajw];omega
def af8(s:b1):ajK:=rR s.Client++(rR s.Next++tZ af5 (s.c'.map (·.Outcome)))
def JB(s:b1):Prop:=(1≤s.Client∧s.Client≤32)∧(1≤s.Next∧s.Next≤1099511627776)∧s.c'=af6 s.Client s.Next (p0 s.Next) (s.c'.map (·.Outcome))∧(s.c'.map (·.Outcome)).length=(p0 s.Next).toNat∧∀o∈s.c'.map (·.Outcome),VM o
def VN{n:Nat}(hn:2000≤n){o:Outcome}(h:VM o):xk n o:=
 ⟨by have:=h.2.2.1;omega,λi=>p2 (P:=λv:bB=>v.S.length<n) (λx hx=>by have:=VL (h.2.2.2 x hx);omega) (by show 0<n;omega) i⟩
def af9{n:Nat}(hn:2000≤n){s:b1}(h:JB s):rT n s:=by
 have hk:=af7 h.2.1;have ah:s.c'.length=(p0 s.Next).toNat:=by have:=h.2.2.2.1;simpa using this
 refine⟨by omega,λi=>p2 (P:=λr:eT=>xk n r.Outcome) (λx hx=>VN hn (h.2.2.2.2 _ (List.mem_map_of_mem hx))) ?_ i⟩
 refine VN hn ?_;refine⟨by show(0:Int)≤0∧(0:Int)≤9999;omega,by show(0:Int)≤0∧(0:Int)≤9999;omega,by show([]:List bB).length≤16;simp,λv aA=>by cases aA⟩
def JC{n:Nat}(hn:2000≤n){l:List b1}(h:∀s∈l,JB s)(i:Nat):rT n (l.getD i default):=by
 refine p2 (P:=rT n) (λx hx=>af9 hn (h x hx)) ⟨by show([]:List eT).length<n;simp;omega,λi=>⟨?_,λi=>?_⟩⟩ i
 ·show((([]:List eT).getD i default).Outcome).Out.length<n
  show([]:List bB).length<n
  simp;omega
 ·show((((([]:List eT).getD _ default).Outcome).Out).getD i default).S.length<n
  show 0<n
  omega
section
variable {n:Nat} (hn:2000≤n) (b5:n≤9223372036854775808) {s:ajK} (hs:s.length<min n 1000000000)
include hn b5 hs
end
open Go Go.Ab Go.Proofs
abbrev rV:=List ajK
def af'(b:Bool)(p:rV×rV):ajK:=if b then n4 oT p.1++n4 oT p.2 else[]
def VO(b:Bool)(p:rV×rV):Prop:=if b then(p.1.length≤64∧∀v∈p.1,v.length≤24)∧(p.2.length≤64∧∀v∈p.2,v.length≤24)else p=([],[])
def VP(r:Request):Prop:=pZ r.Client∧pZ r.Seq∧r.bj.length≤16∧(r.az.length≤6∧∀v∈r.az,Bp v)∧VO r.fD (r.bY.Reads,r.bY.da)∧r.bY.ep=false
def af_(r:Request):ajK:=rR r.Client++(rR r.Seq++(oT r.bj++(n4 b2 r.az++(afD r.fD++af' r.fD (r.bY.Reads,r.bY.da)))))
def aga(r:Request):Bool:=(decide (r.Client≤32)&&decide (r.Seq≤1099511627776))&&decide (VA r=0)
def agb(h:bc):ajK:=oT h.Key++rQ h.Count
def agc{n:Nat}(hn:2000≤n){r:Request}(h:VP r):t8 n r:=by
 have bQ:=h.2.2.2.2.1
 have hk:(r.bY.Reads.length≤64∧∀v∈r.bY.Reads,v.length≤24)∧(r.bY.da.length≤64∧∀v∈r.bY.da,v.length≤24):=by
  unfold VO at bQ;cases hd:r.fD
  ·rw [hd]at bQ;simp only [Bool.false_eq_true,ajJ,Prod.mk.injEq]at bQ;rw [bQ.1,bQ.2];simp
  ·rw [hd]at bQ;exact bQ
 have hd:∀l:rV,(∀v∈l,v.length≤24)→∀i,(l.getD i default).length<n:=λl ah i=>p2 (P:=λv:ajK=>v.length<n) (λx hx=>by have:=ah x hx;omega) (by show 0<n;omega) i
 exact⟨by have:=h.2.2.1;omega,by have:=h.2.2.2.1.1;omega,λi=>p2 (P:=λv:bB=>v.S.length<n) (λx hx=>by have:=VL (h.2.2.2.1.2 x hx);omega) (by show 0<n;omega) i,by have:=hk.1.1;omega,by have:=hk.2.1;omega,by have:=hk.1.1;omega,by have:=hk.2.1;omega,hd _ hk.1.2,hd _ hk.2.2⟩
section
variable {n:Nat} (hn:2000≤n) (b5:n≤9223372036854775808) {s:ajK} (hs:s.length<min n 1000000000)
include hn b5 hs
end
open Go Go.Ab Go.Proofs
section
variable {n:Nat} (hn:2000≤n) (b5:n≤9223372036854775808) {s:ajK} (hs:s.length<min n 1000000000)
include hn b5 hs
end
open Go Go.Ab Go.Proofs
structure VQ(p:bj):Prop where
 v:Vb p=0
 i:pX p
 w:aeH p≤125000
def JD(p:bj):ajK:=if Vb p=0 then afq p else[]
structure p3(p:bj):Prop where
 i:pX p
 n:p.Name.length≤300000
 f:nd p.Params≤300000
 b:iy p.Body≤300000
def VQ.fj{p:bj}(h:VQ p):p3 p:=by
 have hw:p.Name.length+nd p.Params+iy p.Body≤125000:=h.w;exact⟨h.i,by omega,by omega,by omega⟩
open Go Go.Ab Go.Proofs
def VR(x:ao):(⟨x.bm,x.bk,x.Rows⟩:ao)=x:=rfl
def VS(x:bX):(⟨x.Version,x.a7⟩:bX)=x:=rfl
def rW(x:bF):(⟨x.Pos,(⟨x.ao.bm,x.ao.bk,x.ao.Rows⟩:ao),x.bI,x.bT,(⟨x.Place.Version,x.Place.a7⟩:bX),x.bc,x.Queue,x.b6⟩:bF)=x:=rfl
def agd(l:List bj):Bool:=(allI l.length λi=>!(decide (JD (l.getD i default)=[])||decide (16384<(((JD (l.getD i default)).length:Nat):Int)))&&(!decide (0<(i:Int))||Op.bytesLess (l.getD (pv i) default).Name (l.getD i default).Name))&&decide (l.length≤16)
def age(l:List Request):Bool:=(allI l.length λi=>decide (VA (l.getD i default)=0))&&decide (l.length≤64)
def agf(r:bF):Bool:=((((((((decide (0≤r.Pos)&&decide (r.Pos≤1099511627776))&&jk r.ao)&&decide (r.ao.bk=r.Pos))&&agd r.bI)&&VD r.bT)&&VC r.Place)&&afK r.bc)&&age r.Queue)
structure rX(n:Nat)(r:bF):Prop where
 st:p1 n r.ao
 JE:r.bI.length<n
 Bs:∀i,p3 (r.bI.getD i default)
 JF:r.bT.length<n
 Bt:∀i,rT n (r.bT.getD i default)
 pl:r.Place.a7.length<n
 JG:∀i,xj n (r.Place.a7.getD i default)
 ce:r.bc.length<n
 jp:∀i,(r.bc.getD i default).Key.length<n
 Bu:r.Queue.length<n
 JH:∀i,t8 n (r.Queue.getD i default)
def VT:p3 default:=by
 refine⟨⟨by show([]:ajK).length≤_;simp,by show([]:List Param).length≤_;simp,λi hi=>by exact absurd hi (by show¬ i<([]:List Param).length;simp),trivial⟩,by show([]:ajK).length≤_;simp,by show nd []≤_;simp [nd],by show iy []≤_;simp [iy]⟩
section
variable {n:Nat} (hn:3000000≤n) (b5:n≤9223372036854775808)
include hn b5
omit hn b5 in
theorem nk{L:Nat→Int→ajO}{len:Nat}{m:Nat}(hm:len<m)(step:∀m i,i<len→L (m+1) (i:Int)=L m ((i+1:Nat):Int))(stop:∀m,L (m+1) (len:Int)=some true):L m 0=some true:=by
 have:=rS (chk:=λ_=>true) (no:=false) (yes:=true) hm (λm i hi=>by rw [step m i hi,if_pos rfl]) stop
 rw [this,t7]
 congr 1
 rw [t6];exact λ_ _=>rfl
theorem agh{s:ao}(h:p1 n s):Aj n s s=some true:=by
 have ab:=h.rows;unfold Aj;simp only [ajt,ajx,ajw];refine nk (L:=pH n s s) ab (λm i hi=>?_) (λm=>?_)
 ·have ai:=(h.row i).xm;simp only [pH,Ai,ajC,hi,ajt,ajv,eo hi,dy,ajB,ajx,ajw]
  have:=afS (L:=tk n (pH n s s m) (i:Int) s s) (len:=(s.Rows.getD i default).bi.length) (chk:=λ_=>true) (no:=false) (yes:=pH n s s m ((i+1:Nat):Int)) (m:=n) ai (λagi k hk=>by
   simp only [tk,Ah,ajC,ajB,hk,ajt,ajv,eo hk,dy,Bool.and_self,ajx,ajw,ajI,fy (show k≤9223372036854775806 by omega)]) (λagi=>by
   simp only [tk,Ah,Hs,ajB,ajG,aju,ajw,fy (show i≤9223372036854775806 by omega)])
  rw [this,if_pos];rw [t6];exact λ_ _=>rfl
 ·simp only [pH,Ai,Hr,ajG,aju,ajw]
theorem agj{l:List bj}(ah:l.length<n)(h:∀i,p3 (l.getD i default)):Ag n l l=some true:=by
 unfold Ag;simp only [ajt,ajx,ajw];refine nk (L:=tj n l l) ah (λm i hi=>?_) (λm=>?_)
 ·have ab:=h i;have ai:=ab.f;have ay:=ab.b;have bg:=U5 (l.getD i default).Params;simp only [tj,Af,ajC,hi,ajt,ajv,eo hi,dy,ajB,aeN (n:=n) (l.getD i default) (by omega) (by omega) (by omega) (by omega),c_,ajx,ajw,fy (show i≤9223372036854775806 by omega)]
 ·simp only [tj,Af,Hq,ajG,aju,ajw]
theorem agk{o:Outcome}(h:xk n o):wd n o o=some true:=by
 have ab:=h.out;unfold wd;simp only [ajt,ajx,ajw];refine nk (L:=tp n o o) ab (λm i hi=>?_) (λm=>?_)
 ·simp only [tp,Aq,ajC,hi,ajt,ajv,eo hi,dy,ajB,Bool.and_self,ajx,ajw,fy (show i≤9223372036854775806 by omega)]
 ·simp only [tp,Aq,Hx,ajG,aju,ajw]
theorem agl{s:b1}(h:rT n s):As n s.c' s.c'=some true:=by
 have ab:=h.rep;unfold As;simp only [ajt,ajx,ajw];refine nk (L:=tq n s.c' s.c') ab (λm i hi=>?_) (λm=>?_)
 ·have:=agk hn b5 (h.out i)
  simp only [tq,Ar,Hy,ajC,hi,ajt,ajv,eo hi,dy,ajB];rw [show wd n ⟨(s.c'.getD i default).Outcome.Status,(s.c'.getD i default).Outcome.Code,(s.c'.getD i default).Outcome.Out⟩ ⟨(s.c'.getD i default).Outcome.Status,(s.c'.getD i default).Outcome.Code,(s.c'.getD i default).Outcome.Out⟩=some true from this]
  simp only [c_,ajv,ajx,ajw,fy (show i≤9223372036854775806 by omega)]
 ·simp only [tq,Ar,Hz,ajG,aju,ajw]
theorem agm{l:List b1}(ah:l.length<n)(h:∀i,rT n (l.getD i default)):Au n l l=some true:=by
 unfold Au;simp only [ajt,ajx,ajw];refine nk (L:=tr n l l) ah (λm i hi=>?_) (λm=>?_)
 ·simp only [tr,At,ajC,hi,ajt,ajv,eo hi,dy,ajB,agl hn b5 (h i),c_,ajx,ajy,ajw,Bool.false_or,fy (show i≤9223372036854775806 by omega)]
 ·simp only [tr,At,HA,ajG,aju,ajw]
theorem agn{p:bX}(ah:p.a7.length<n):Al n p p=some true:=by
 unfold Al;simp only [ajt,ajx,ajw];refine nk (L:=tl n p p) ah (λm i hi=>?_) (λm=>?_)
 ·simp only [tl,Ak,ajC,hi,ajt,ajv,eo hi,dy,ajB,Bool.and_self,ajx,ajw,fy (show i≤9223372036854775806 by omega)]
 ·simp only [tl,Ak,Ht,ajG,aju,ajw]
theorem ago{l:List bc}(ah:l.length<n):An n l l=some true:=by
 unfold An;simp only [ajt,ajx,ajw];refine nk (L:=tm n l l) ah (λm i hi=>?_) (λm=>?_)
 ·simp only [tm,Am,ajC,hi,ajt,ajv,eo hi,dy,ajB,Bool.and_self,ajx,ajw,fy (show i≤9223372036854775806 by omega)]
 ·simp only [tm,Am,Hu,ajG,aju,ajw]
theorem JI{l:rV}(ah:l.length<n):ry n l l=some true:=by
 unfold ry;simp only [ajt,ajx,ajw];refine nk (L:=tf n l l) ah (λm i hi=>?_) (λm=>?_)
 ·simp only [tf,z6,ajC,hi,ajt,ajv,eo hi,dy,ajB,ajx,ajw,fy (show i≤9223372036854775806 by omega)]
 ·simp only [tf,z6,G6,ajG,aju,ajw]
theorem agp{r:Request}(h:t8 n r):Ap n r r=some true:=by
 have ab:=h.args;unfold Ap Hv;rw [JI hn b5 h.afM,JI hn b5 h.afN];simp only [ajt,ajx,ajw,beq_self_eq_true,ajy,ajv,c_];refine nk (L:=tn n r r) ab (λm i hi=>?_) (λm=>?_)
 ·simp only [tn,Ao,ajC,hi,ajt,ajv,eo hi,dy,ajB,Bool.and_self,ajx,ajw,fy (show i≤9223372036854775806 by omega)]
 ·simp only [tn,Ao,Hw,ajG,aju,ajw]
theorem agq{r:bF}(h:rX n r):we n r r=some true:=by
 have ab:=h.Bu;unfold we;rw [agh hn b5 h.st,agj hn b5 h.JE h.Bs,agm hn b5 h.JF h.Bt,agn hn b5 h.pl,ago hn b5 h.ce];simp only [ajt,ajx,ajy,ajw,ajv,c_];refine nk (L:=tu n r r) ab (λm i hi=>?_) (λm=>?_)
 ·simp only [tu,Av,ajC,hi,ajt,ajv,eo hi,dy,ajB,agp hn b5 (h.JH i),c_,ajx,ajw,fy (show i≤9223372036854775806 by omega)]
 ·simp only [tu,Av,HB,ajG,aju,ajw]
end
open Go Go.Ab Go.Proofs
abbrev Bv:=Int×List aI×rV×List b1×bX×List bc×List Request×Int
def Bw(p:Bv):ajK:=rQ p.1++(n4 afZ p.2.1++(n4 oT p.2.2.1++(n4 af8 p.2.2.2.1++(af2 p.2.2.2.2.1++(n4 agb p.2.2.2.2.2.1++(n4 af_ p.2.2.2.2.2.2.1++rR p.2.2.2.2.2.2.2))))))
structure VU(p:Bv):Prop where
 pos:gM p.1
 Bs:(p.2.1.length≤2147483647∧∀v∈p.2.1,af0 v)∧afJ p.2.1=true
 src:p.2.2.1.length≤16∧∀s∈p.2.2.1,s.length≤16384
 Bt:(p.2.2.2.1.length≤32∧∀v∈p.2.2.2.1,JB v)∧VD p.2.2.2.1=true
 ai0:(gM p.2.2.2.2.1.Version∧p.2.2.2.2.1.a7.length≤16∧∀v∈p.2.2.2.2.1.a7,JA v)∧VC p.2.2.2.2.1=true
 ce:p.2.2.2.2.2.1.length≤32∧∀h∈p.2.2.2.2.2.1,h.Key.length≤24∧gM h.Count
 Bu:p.2.2.2.2.2.2.1.length≤64∧∀v∈p.2.2.2.2.2.2.1,VP v∧aga v=true
 ai1:pZ p.2.2.2.2.2.2.2
section
variable {n:Nat} (hn:3000000≤n) (b5:n≤9223372036854775808) {s:ajK} (hs:s.length<min n 1000000000)
include hn b5 hs
end
open Go Go.Ab Go.Proofs
section
variable {n:Nat} (hn:3000000≤n) (b5:n≤9223372036854775808) {s:ajK} (hs:s.length<min n 1000000000)
include hn b5 hs
end
abbrev VV:bF:=⟨0,⟨0,0,[]⟩,[],[],⟨0,[]⟩,[],[],0⟩
def VW{n:Nat}(hn:2000≤n):t8 n default:=agc hn ⟨by show pZ 0;unfold pZ;omega,by show pZ 0;unfold pZ;omega,by show([]:ajK).length≤16;simp,⟨by show([]:List bB).length≤6;simp,λv aA=>by cases aA⟩,rfl,rfl⟩
open Go Go.Ab Go.Proofs
def xn{n:Nat}(hn:2000≤n):rX n VV:=by
 have h0:∀{α:Type} (l:List α),l=[]→l.length<n:=λl h=>by rw [h];show 0<n;omega
 exact {
  st:=by
   refine⟨h0 _ rfl,λi=>⟨?_,?_,λk=>?_⟩⟩
   ·show 0<n;omega
   ·exact h0 _ rfl
   ·show 0<n;omega
  JE:=h0 _ rfl
  Bs:=λi=>p2 (P:=p3) (λx hx=>absurd hx (by show¬ x∈([]:List bj);simp)) VT i
  JF:=h0 _ rfl
  Bt:=JC hn (λx hx=>by cases hx)
  pl:=h0 _ rfl
  JG:=af4 (by omega) (λx hx=>by cases hx)
  ce:=h0 _ rfl
  jp:=λi=>by show 0<n;omega
  Bu:=h0 _ rfl
  JH:=λi=>p2 (P:=t8 n) (λx hx=>absurd hx (by show¬ x∈([]:List Request);simp)) (VW hn) i}
section
variable {n:Nat} (hn:3000000≤n) (b5:n≤9223372036854775808) {s:ajK} (hs:s.length≤2000)
include hn b5 hs
end
open Go Go.Ab Go.Proofs
open Go Go.Ab Go.Proofs
section
variable {n:Nat} (hn:2000≤n)
include hn
end
open Go Go.Ab Go.Proofs
section
variable {n:Nat} (hn:2000≤n)
include hn
end
section
variable {n:Nat} (hn:3000000≤n) (b5:n≤9223372036854775808)
include hn b5
end
section
variable {n:Nat} (hn:3000000≤n) (b5:n≤9223372036854775808) {s:ajK} (hs:s.length≤2000)
include hn b5 hs
end
open Go Go.Ab Go.Proofs
section
variable {n:Nat} (hn:2000≤n)
include hn
end
open Go Go.Ab Go.Proofs
section
variable {n:Nat} (hn:2000≤n)
include hn
end
open Go Go.Ab Go.Proofs
def xo(r:bF)(A:List aI):Bv:=(r.Pos,A,r.bI.map JD,r.bT,r.Place,r.bc,r.Queue,r.b6)
section
variable {n:Nat} (hn:2000≤n)
include hn
end
open Go Go.Ab Go.Proofs
section
variable {n:Nat} (hn:3000000≤n) (b5:n≤9223372036854775808) {r:bF} {A:List aI} (hp:VU (xo r A)) (hs:(Bw (xo r A)).length≤800000) (hg:∀q∈r.bI,p3 q) (iE:r.bI.length≤1000)
include hn b5 hp hs hg iE
end
open Go Go.Ab Go.Proofs
section
variable {n:Nat} (hn:3000000≤n) (b5:n≤9223372036854775808) {r:bF} {A:List aI} (hp:VU (xo r A)) (hs:(Bw (xo r A)).length≤800000) (hg:∀q∈r.bI,p3 q) (iE:r.bI.length≤1000)
include hn b5 hp hs hg iE
end
open Go Go.Ab Go.Proofs
def agr{L:Nat→Int→ajO}{len:Nat}{Q:Nat→Prop}{fin:ajO}
 (step:∀m i,i<len→L (m+1) (i:Int)=some false∨(Q i∧L (m+1) (i:Int)=L m ((i+1:Nat):Int))) (stop:∀m,L (m+1) (len:Int)=fin):
 ∀m i,len<m+i→i≤len→L m (i:Int)=some false∨((∀k,i≤k→k<len→Q k)∧L m (i:Int)=fin):=by
 intro m;induction m with
 |zero=>intro i ab ai;omega
 |succ m bv=>
  intro i ab ai;by_cases hi:i<len
  ·rcases step m i hi with h|⟨aR,h⟩
   ·exact Or.inl h
   ·rcases bv (i+1) (by omega) (by omega)with ay|⟨ay,bg⟩
    ·exact Or.inl (h.trans ay)
    ·refine Or.inr ⟨λk hk pi=>?_,h.trans bg⟩
     by_cases e:k=i
     ·subst e;exact aR
     ·exact ay k (by omega) pi
  ·obtain rfl:i=len:=by omega
   exact Or.inr ⟨λk hk pi=>by omega,stop m⟩
def p4{L:Nat→Int→ajO}{len m:Nat}{Q:Nat→Prop}{fin:ajO}(hm:len<m)
 (step:∀m i,i<len→L (m+1) (i:Int)=some false∨(Q i∧L (m+1) (i:Int)=L m ((i+1:Nat):Int))) (stop:∀m,L (m+1) (len:Int)=fin):
 L m 0=some false∨((∀k,k<len→Q k)∧L m 0=fin):=by
 rcases agr step stop m 0 (by omega) (by omega)with h|⟨ab,ai⟩
 ·exact Or.inl h
 ·exact Or.inr ⟨λk hk=>ab k (by omega) hk,ai⟩
structure VX(f:eX):Prop where
 r:f.Reads.length≤100
 w:f.da.length≤100
 rs:∀i,i<f.Reads.length→(f.Reads.getD i default).length≤100
 ws:∀i,i<f.da.length→(f.da.getD i default).length≤100
def ags{n:Nat}(hn:2000≤n)(f:eX):rr n f 100=some false∨(VX f∧rr n f 100=some true):=by
 unfold rr;simp only [ix,ig];by_cases ab:f.Reads.length≤100
 ·by_cases ai:f.da.length≤100
  ·simp only [show¬ 100<f.Reads.length by omega,show¬ 100<f.da.length by omega,aju,Bool.or_false,ajw]
   have hw:=p4 (L:=rq n f) (len:=f.da.length) (m:=n) (Q:=λi=>(f.da.getD i default).length≤100) (fin:=some true) (by omega)
    (λm i hi=>by
     simp only [rq,zN,hi,eo hi,ajB,ajC,ix,ajt,ajv,dy,fy (show i≤9223372036854775806 by omega)]
     by_cases h:(f.da.getD i default).length≤100
     ·right;simp only [show¬ 100<(f.da.getD i default).length by omega,aju,ajw,h,true_and]
     ·left;simp only [show 100<(f.da.getD i default).length by omega,ajt,ajv])
    (λm=>by simp only [rq,zN,GH,ajC,Nat.lt_irrefl,aju,ajw])
   have ak:=p4 (L:=s' n f) (len:=f.Reads.length) (m:=n) (Q:=λi=>(f.Reads.getD i default).length≤100) (fin:=rq n f n 0) (by omega)
    (λm i hi=>by
     simp only [s',zO,hi,eo hi,ajB,ajC,ix,ajt,ajv,dy,fy (show i≤9223372036854775806 by omega)]
     by_cases h:(f.Reads.getD i default).length≤100
     ·right;simp only [show¬ 100<(f.Reads.getD i default).length by omega,aju,ajw,h,true_and]
     ·left;simp only [show 100<(f.Reads.getD i default).length by omega,ajt,ajv])
    (λm=>by simp only [s',zO,GI,ajC,Nat.lt_irrefl,aju,ajw])
   rcases ak with ak|⟨gF,hQ⟩
   ·exact Or.inl ak
   ·rw [hQ];rcases hw with hw|⟨u7,u9⟩
    ·exact Or.inl hw
    ·exact Or.inr ⟨⟨ab,ai,gF,u7⟩,u9⟩
  ·left;simp only [show 100<f.da.length by omega,ajt,ajH,ajv]
 ·left;simp only [show 100<f.Reads.length by omega,ajt,Bool.true_or,ajv]
open Go Go.Ab Go.Proofs
structure JJ(r:Request):Prop where
 p:r.bj.length≤300
 a:r.az.length≤40
 vs:∀i,i<r.az.length→(r.az.getD i default).S.length≤300
 f:VX r.bY
def agt{n:Nat}(hn:2000≤n)(r:Request):vU n r=some false∨(JJ r∧vU n r=some true):=by
 unfold vU;simp only [ix,ig];by_cases ab:r.bj.length≤300
 ·by_cases ai:r.az.length≤40
  ·simp only [show¬ 300<r.bj.length by omega,show¬ 40<r.az.length by omega,aju,Bool.or_false,Bool.false_or,ajy,ajv]
   rcases ags hn r.bY with h|⟨ay,h⟩
   ·left;rw [show rr n _ 100=some false from h];rfl
   ·rw [show rr n (⟨r.bY.ep,r.bY.Reads,r.bY.da⟩:eX) 100=some true from h,c_]
    simp only [ajx,ajw]
    rcases p4 (L:=s_ n r) (len:=r.az.length) (m:=n) (Q:=λi=>(r.az.getD i default).S.length≤300) (fin:=some true) (by omega)
     (λm i hi=>by
      simp only [s_,zP,hi,eo hi,ajB,ajC,ix,ajt,ajv,dy,fy (show i≤9223372036854775806 by omega)]
      by_cases h:(r.az.getD i default).S.length≤300
      ·right;simp only [show¬ 300<(r.az.getD i default).S.length by omega,aju,ajw,h,true_and]
      ·left;simp only [show 300<(r.az.getD i default).S.length by omega,ajt,ajv])
     (λm=>by simp only [s_,zP,GJ,ajC,Nat.lt_irrefl,aju,ajw])with bg|⟨bg,bQ⟩
    ·exact Or.inl bg
    ·exact Or.inr ⟨⟨ab,ai,bg,ay⟩,bQ⟩
  ·left;simp only [show 40<r.az.length by omega,ajt,ajH,Bool.true_or,ajx,ajw,c_,ajv]
 ·left;simp only [show 300<r.bj.length by omega,ajt,Bool.true_or,ajx,ajw,c_,ajv]
open Go Go.Ab Go.Proofs
def VY(r:Row):bB:=(r.bi.getD (r.bi.length-1) default).bo
def JK:List Row→List aI
 |[]=>[]
 |r::l=>if(VY r).Kind=0 then JK l else⟨r.Key,VY r⟩::JK l
structure agu(n:Nat)(a:Int)(r:Row):Prop where
 l:r.bi.length<n
 b:r.bi.length≤1000000000
 p:0<r.bi.length
 s:∀i,i<r.bi.length→(r.bi.getD i default).bH≤a
section
variable {n:Nat} {s:ao} {a:Int} (ah:s.Rows.length≤1000) (hn:2000≤n) (h:∀i,i<s.Rows.length→agu n a (s.Rows.getD i default)) (bh:s.bm≤a) (ha:a≤s.bk)
include ah hn h bh ha
end
open Go Go.Ab Go.Proofs
open Go Go.Ab Go.Proofs
open Go Go.Ab Go.Proofs
open Go Go.Ab Go.Proofs
def agv{α:Type}[Inhabited α]{l:List α}{x:α}(h:x∈l):∃i,i<l.length∧l.getD i default=x:=by
 obtain⟨i,hi,e⟩:=List.mem_iff_getElem.1 h;exact⟨i,hi,by rw [List.getD_eq_getElem?_getD,List.getElem?_eq_getElem hi];exact e⟩
open Go Go.Ab Go.Proofs
def VZ{α:Type}:∀(l:List α),l.length=4→∃a b c d,l=[a,b,c,d]
 |[a,b,c,d],_=>⟨a,b,c,d,rfl⟩
 |[],h=>by simp at h
 |[_],h=>by simp at h
 |[_,_],h=>by simp at h
 |[_,_,_],h=>by simp at h
 |_::_::_::_::_::_,h=>by simp at h
section
variable {H:Type} {enc:TypeId×Value→H} {W:World}
theorem JL:Tryz.prog.cellsOf 198=4:=by kernel_rfl
theorem mu:Tryz.prog.cellsOf 3=1:=by kernel_rfl
theorem mv:Tryz.prog.cellsOf 2=1:=by kernel_rfl
theorem kG:Tryz.prog.cellsOf 9=1:=by kernel_rfl
theorem agw:Tryz.prog.cellsOf 196=1:=by kernel_rfl
theorem V0:∀l:List Expr,(∀i,i<l.length→lg (l.getD i default))→xe l
 |[],h=>trivial
 |x::l,h=>⟨h 0 (by simp),V0 l λi hi=>by have:=h (i+1) (by simpa using hi);simpa using this⟩
theorem V1:∀(fuel:Nat) (cs:List Value) (x:DataW H×List MemPlace),DataW.trod enc Tryz.prog W 0 (λ_=>true) true fuel 198 cs=some x→∃e:Expr,lg e∧e7 W cs (bW e).cells:=by
 intro fuel;induction fuel using Nat.strongRecOn with
 |_ fuel bv=>
  intro cs x h;obtain⟨xs,n,hn,_,ah,fM,bh⟩:=DataW.trod_struct Tryz.underlying198 h;rw [JL]at ah;obtain⟨c0,c1,c2,c3,rfl⟩:=VZ cs ah;obtain⟨ff,fA,gP,nl,rfl⟩:=VZ xs fM;have h0:DataW.trod enc Tryz.prog W 0 (λ_=>true) true n 3 (List.take (Tryz.prog.cellsOf 3) [c0,c1,c2,c3])=some ff:=bh 0 _ rfl
  have ab:DataW.trod enc Tryz.prog W 0 (λ_=>true) true n 2 (List.take (Tryz.prog.cellsOf 2) [c1,c2,c3])=some fA:=bh 1 _ rfl
  have ai:DataW.trod enc Tryz.prog W 0 (λ_=>true) true n 9 (List.take (Tryz.prog.cellsOf 9) [c2,c3])=some gP:=bh 2 _ rfl
  have ay:DataW.trod enc Tryz.prog W 0 (λ_=>true) true n 196 (List.take (Tryz.prog.cellsOf 196) [c3])=some nl:=bh 3 _ rfl
  rw [mu]at h0;rw [mv]at ab;rw [kG]at ai;rw [agw]at ay;obtain⟨Op,_,dt⟩:=gJ (k:=.i64) Tryz.underlying3 h0;obtain⟨N,b5,ae⟩:=gJ (k:=.i64) Tryz.underlying2 ab;obtain⟨S,agx,an⟩:=ku Tryz.underlying9 ai;obtain⟨A,nh,fQ,aB⟩:=jb (encA:=bW) (ok:=lg) Tryz.underlying196 JL (by omega) ay (λm cs' fh hm hx=>bv m (by omega) cs' fh hx)
  refine⟨⟨Op,N,S,A⟩,⟨b5.2,agx,nh,V0 A fQ⟩,?_⟩
  have:=((dt.app ae).app an).app aB
  exact this.yO (vj ⟨Op,N,S,A⟩)
end
open Go Go.Ab Go.Proofs
def agy{α:Type}(l:List α)(h:l.length=13):∃a b c d e f g i j k m n o,l=[a,b,c,d,e,f,g,i,j,k,m,n,o]:=by
 match l,h with
 |[a,b,c,d,e,f,g,i,j,k,m,n,o],_=>exact⟨a,b,c,d,e,f,g,i,j,k,m,n,o,rfl⟩
def agz{α:Type}(l:List α)(h:l.length=7):∃a b c d e f g,l=[a,b,c,d,e,f,g]:=by
 match l,h with
 |[a,b,c,d,e,f,g],_=>exact⟨a,b,c,d,e,f,g,rfl⟩
def V2{α:Type}(l:List α)(h:l.length=3):∃a b c,l=[a,b,c]:=by
 match l,h with
 |[a,b,c],_=>exact⟨a,b,c,rfl⟩
def V3{α:Type}(l:List α)(h:l.length=2):∃a b,l=[a,b]:=by
 match l,h with
 |[a,b],_=>exact⟨a,b,rfl⟩
section
variable {H:Type} {enc:TypeId×Value→H} {W:World}
theorem Bx:Tryz.prog.cellsOf 200=13:=by kernel_rfl
theorem V4:Tryz.prog.cellsOf 143=2:=by kernel_rfl
theorem V5:Tryz.prog.cellsOf 73=3:=by kernel_rfl
theorem V6:Tryz.prog.cellsOf 71=1:=by kernel_rfl
theorem agA:Tryz.prog.cellsOf 70=1:=by kernel_rfl
theorem By:∀l:List Stmt,(∀i,i<l.length→pW (l.getD i default))→oR l
 |[],h=>trivial
 |x::l,h=>⟨h 0 (by simp),By l λi hi=>by have:=h (i+1) (by simpa using hi);simpa using this⟩
theorem agB:∀(fuel:Nat) (cs:List Value) (x:DataW H×List MemPlace),DataW.trod enc Tryz.prog W 0 (λ_=>true) true fuel 200 cs=some x→∃s:Stmt,pW s∧e7 W cs (bR s).cells:=by
 intro fuel;induction fuel using Nat.strongRecOn with
 |_ fuel bv=>
  intro cs x h;obtain⟨xs,n,hn,_,ah,fM,bh⟩:=DataW.trod_struct Tryz.underlying200 h;rw [Bx]at ah;obtain⟨c0,c1,c2,c3,c4,c5,iV,iA,kH,c9,jV,oU,c12,rfl⟩:=agy cs ah;obtain⟨ff,fA,gP,nl,fo,ky,m3,rfl⟩:=agz xs fM;have h0:DataW.trod enc Tryz.prog W 0 (λ_=>true) true n 3 (List.take (Tryz.prog.cellsOf 3) [c0,c1,c2,c3,c4,c5,iV,iA,kH,c9,jV,oU,c12])=some ff:=bh 0 _ rfl
  have ab:DataW.trod enc Tryz.prog W 0 (λ_=>true) true n 9 (List.take (Tryz.prog.cellsOf 9) [c1,c2,c3,c4,c5,iV,iA,kH,c9,jV,oU,c12])=some fA:=bh 1 _ rfl
  have ai:DataW.trod enc Tryz.prog W 0 (λ_=>true) true n 3 (List.take (Tryz.prog.cellsOf 3) [c2,c3,c4,c5,iV,iA,kH,c9,jV,oU,c12])=some gP:=bh 2 _ rfl
  have ay:DataW.trod enc Tryz.prog W 0 (λ_=>true) true n 198 (List.take (Tryz.prog.cellsOf 198) [c3,c4,c5,iV,iA,kH,c9,jV,oU,c12])=some nl:=bh 3 _ rfl
  have bg:DataW.trod enc Tryz.prog W 0 (λ_=>true) true n 198 (List.take (Tryz.prog.cellsOf 198) [iA,kH,c9,jV,oU,c12])=some fo:=bh 4 _ rfl
  have bQ:DataW.trod enc Tryz.prog W 0 (λ_=>true) true n 71 (List.take (Tryz.prog.cellsOf 71) [oU,c12])=some ky:=bh 5 _ rfl
  have dh:DataW.trod enc Tryz.prog W 0 (λ_=>true) true n 71 (List.take (Tryz.prog.cellsOf 71) [c12])=some m3:=bh 6 _ rfl
  rw [mu]at h0 ai;rw [kG]at ab;rw [JL]at ay bg;rw [V6]at bQ dh;obtain⟨Op,_,dt⟩:=gJ (k:=.i64) Tryz.underlying3 h0;obtain⟨Nm,b5,ae⟩:=ku Tryz.underlying9 ab;obtain⟨V7,cX,an⟩:=gJ (k:=.i64) Tryz.underlying3 ai;obtain⟨A,nh,aB⟩:=V1 n _ _ ay;obtain⟨B,w6,aQ⟩:=V1 n _ _ bg;obtain⟨aj,ai2,JM,bN⟩:=jb (encA:=bR) (ok:=pW) Tryz.underlying71 Bx (by omega) bQ (λm cs' fh hm hx=>bv m (by omega) cs' fh hx)
  obtain⟨JN,ai3,JO,ba⟩:=jb (encA:=bR) (ok:=pW) Tryz.underlying71 Bx (by omega) dh (λm cs' fh hm hx=>bv m (by omega) cs' fh hx)
  refine⟨⟨Op,Nm,V7,A,B,aj,JN⟩,⟨cX,b5,nh,w6,By aj JM,By JN JO⟩,?_⟩
  have:=(((((dt.app ae).app an).app (aB.yO (DR A))).app (aQ.yO (DR B))).app bN).app ba
  exact this.yO (Nc ⟨Op,Nm,V7,A,B,aj,JN⟩)
theorem agC(fuel:Nat)(cs:List Value)(x:DataW H×List MemPlace)(h:DataW.trod enc Tryz.prog W 0 (λ_=>true) true fuel 143 cs=some x):∃p:Param,p.Name.length≤9223372036854775807∧e7 W cs (dN p).cells:=by
 obtain⟨xs,n,hn,_,ah,fM,bh⟩:=DataW.trod_struct Tryz.underlying143 h;rw [V4]at ah;obtain⟨c0,c1,rfl⟩:=V3 cs ah;obtain⟨ff,fA,rfl⟩:=V3 xs fM;have h0:DataW.trod enc Tryz.prog W 0 (λ_=>true) true n 9 (List.take (Tryz.prog.cellsOf 9) [c0,c1])=some ff:=bh 0 _ rfl
 have ab:DataW.trod enc Tryz.prog W 0 (λ_=>true) true n 3 (List.take (Tryz.prog.cellsOf 3) [c1])=some fA:=bh 1 _ rfl
 rw [kG]at h0;rw [mu]at ab;obtain⟨Nm,b5,dt⟩:=ku Tryz.underlying9 h0;obtain⟨agD,_,ae⟩:=gJ (k:=.i64) Tryz.underlying3 ab;exact⟨⟨Nm,agD⟩,b5,dt.app ae⟩
theorem agE(fuel:Nat)(cs:List Value)(x:DataW H×List MemPlace)(h:DataW.trod enc Tryz.prog W 0 (λ_=>true) true fuel 73 cs=some x):∃p:bj,pX p∧e7 W cs (cJ p).cells:=by
 obtain⟨xs,n,hn,_,ah,fM,bh⟩:=DataW.trod_struct Tryz.underlying73 h;rw [V5]at ah;obtain⟨c0,c1,c2,rfl⟩:=V2 cs ah;obtain⟨ff,fA,gP,rfl⟩:=V2 xs fM;have h0:DataW.trod enc Tryz.prog W 0 (λ_=>true) true n 9 (List.take (Tryz.prog.cellsOf 9) [c0,c1,c2])=some ff:=bh 0 _ rfl
 have ab:DataW.trod enc Tryz.prog W 0 (λ_=>true) true n 70 (List.take (Tryz.prog.cellsOf 70) [c1,c2])=some fA:=bh 1 _ rfl
 have ai:DataW.trod enc Tryz.prog W 0 (λ_=>true) true n 71 (List.take (Tryz.prog.cellsOf 71) [c2])=some gP:=bh 2 _ rfl
 rw [kG]at h0;rw [agA]at ab;rw [V6]at ai;obtain⟨Nm,b5,dt⟩:=ku Tryz.underlying9 h0;obtain⟨agF,kd,JM,ae⟩:=jb (encA:=dN) (ok:=λp:Param=>p.Name.length≤9223372036854775807) Tryz.underlying70 V4 (by omega) ab (λm cs' fh hm hx=>agC m cs' fh hx)
 obtain⟨aj,w6,JO,an⟩:=jb (encA:=bR) (ok:=pW) Tryz.underlying71 Bx (by omega) ai (λm cs' fh hm hx=>agB m cs' fh hx)
 exact⟨⟨Nm,agF,aj⟩,⟨b5,kd,JM,By aj JO⟩,(dt.app ae).app an⟩
end
open Go Go.Ab Go.Proofs
def p5{α:Type}(l:List α)(h:l.length=2):∃a0 bb,l=[a0,bb]:=by
 match l,h with
 |[a0,bb],_=>exact⟨a0,bb,rfl⟩
def nm{α:Type}(l:List α)(h:l.length=3):∃a0 bb a2,l=[a0,bb,a2]:=by
 match l,h with
 |[a0,bb,a2],_=>exact⟨a0,bb,a2,rfl⟩
def V8{α:Type}(l:List α)(h:l.length=4):∃a0 bb a2 a3,l=[a0,bb,a2,a3]:=by
 match l,h with
 |[a0,bb,a2,a3],_=>exact⟨a0,bb,a2,a3,rfl⟩
def JP{α:Type}(l:List α)(h:l.length=5):∃a0 bb a2 a3 a4,l=[a0,bb,a2,a3,a4]:=by
 match l,h with
 |[a0,bb,a2,a3,a4],_=>exact⟨a0,bb,a2,a3,a4,rfl⟩
def V9{α:Type}(l:List α)(h:l.length=6):∃a0 bb a2 a3 a4 a5,l=[a0,bb,a2,a3,a4,a5]:=by
 match l,h with
 |[a0,bb,a2,a3,a4,a5],_=>exact⟨a0,bb,a2,a3,a4,a5,rfl⟩
def V'{α:Type}(l:List α)(h:l.length=8):∃a0 bb a2 a3 a4 a5 lh nn,l=[a0,bb,a2,a3,a4,a5,lh,nn]:=by
 match l,h with
 |[a0,bb,a2,a3,a4,a5,lh,nn],_=>exact⟨a0,bb,a2,a3,a4,a5,lh,nn,rfl⟩
def agG{α:Type}(l:List α)(h:l.length=11):∃a0 bb a2 a3 a4 a5 lh nn rY a9 rZ,l=[a0,bb,a2,a3,a4,a5,lh,nn,rY,a9,rZ]:=by
 match l,h with
 |[a0,bb,a2,a3,a4,a5,lh,nn,rY,a9,rZ],_=>exact⟨a0,bb,a2,a3,a4,a5,lh,nn,rY,a9,rZ,rfl⟩
def agH{α:Type}(l:List α)(h:l.length=16):∃a0 bb a2 a3 a4 a5 lh nn rY a9 rZ JQ a12 JR JS JT,l=[a0,bb,a2,a3,a4,a5,lh,nn,rY,a9,rZ,JQ,a12,JR,JS,JT]:=by
 match l,h with
 |[a0,bb,a2,a3,a4,a5,lh,nn,rY,a9,rZ,JQ,a12,JR,JS,JT],_=>exact⟨a0,bb,a2,a3,a4,a5,lh,nn,rY,a9,rZ,JQ,a12,JR,JS,JT,rfl⟩
section
variable {H:Type} {enc:TypeId×Value→H} {W:World}
theorem JU:Tryz.prog.cellsOf 4=1:=by kernel_rfl
theorem agI:Tryz.prog.cellsOf 22=1:=by kernel_rfl
theorem V_:Tryz.prog.cellsOf 24=3:=by kernel_rfl
theorem agJ:Tryz.prog.cellsOf 25=1:=by kernel_rfl
theorem agK:Tryz.prog.cellsOf 26=1:=by kernel_rfl
theorem agL:Tryz.prog.cellsOf 27=1:=by kernel_rfl
theorem Wa:Tryz.prog.cellsOf 29=2:=by kernel_rfl
theorem agM:Tryz.prog.cellsOf 30=1:=by kernel_rfl
theorem agN:Tryz.prog.cellsOf 31=1:=by kernel_rfl
theorem agO:Tryz.prog.cellsOf 32=1:=by kernel_rfl
theorem Wb:Tryz.prog.cellsOf 34=11:=by kernel_rfl
theorem agP:Tryz.prog.cellsOf 37=1:=by kernel_rfl
theorem JV:Tryz.prog.cellsOf 38=1:=by kernel_rfl
theorem agQ:Tryz.prog.cellsOf 40=16:=by kernel_rfl
theorem agR:Tryz.prog.cellsOf 74=1:=by kernel_rfl
theorem Wc:Tryz.prog.cellsOf 76=3:=by kernel_rfl
theorem Wd:Tryz.prog.cellsOf 78=1:=by kernel_rfl
theorem We:Tryz.prog.cellsOf 80=3:=by kernel_rfl
theorem Wf:Tryz.prog.cellsOf 82=8:=by kernel_rfl
theorem xp:Tryz.prog.cellsOf 85=3:=by kernel_rfl
theorem Wg:Tryz.prog.cellsOf 87=4:=by kernel_rfl
theorem agS:Tryz.prog.cellsOf 90=1:=by kernel_rfl
theorem Wh:Tryz.prog.cellsOf 92=2:=by kernel_rfl
theorem Wi:Tryz.prog.cellsOf 138=4:=by kernel_rfl
theorem Wj:Tryz.prog.cellsOf 148=5:=by kernel_rfl
theorem Wk:Tryz.prog.cellsOf 179=2:=by kernel_rfl
theorem Wl:Tryz.prog.cellsOf 230=3:=by kernel_rfl
theorem Wm:Tryz.prog.cellsOf 232=5:=by kernel_rfl
structure r0(x:bB):Prop where
 ai4:gM x.Kind
 ai5:gM x.N
 JW:x.S.length≤9223372036854775807
theorem Bz(fuel:Nat)(cs:List Value)(x:DataW H×List MemPlace)(h:DataW.trod enc Tryz.prog W 0 (λ_=>true) true fuel 85 cs=some x):∃p:bB,r0 p∧e7 W cs (dM p).cells:=by
 obtain⟨xs,n,hn,_,ah,fM,bh⟩:=DataW.trod_struct Tryz.underlying85 h;rw [xp]at ah;obtain⟨c0,c1,c2,rfl⟩:=nm cs ah;obtain⟨ff,fA,gP,rfl⟩:=nm xs fM;have h0:DataW.trod enc Tryz.prog W 0 (λ_=>true) true n 3 (List.take (Tryz.prog.cellsOf 3) [c0,c1,c2])=some ff:=bh 0 _ rfl
 rw [mu]at h0;obtain⟨v0,eu,dt⟩:=gJ (k:=.i64) Tryz.underlying3 h0;have ab:DataW.trod enc Tryz.prog W 0 (λ_=>true) true n 2 (List.take (Tryz.prog.cellsOf 2) [c1,c2])=some fA:=bh 1 _ rfl
 rw [mv]at ab;obtain⟨v1,c6,ae⟩:=gJ (k:=.i64) Tryz.underlying2 ab;have ai:DataW.trod enc Tryz.prog W 0 (λ_=>true) true n 9 (List.take (Tryz.prog.cellsOf 9) [c2])=some gP:=bh 2 _ rfl
 rw [kG]at ai;obtain⟨v2,ar,an⟩:=ku Tryz.underlying9 ai;exact⟨⟨v0,v1,v2⟩,⟨⟨eu.1,eu.2⟩,⟨c6.1,c6.2⟩,ar⟩,((dt.app ae).app an)⟩
structure JX(x:Version):Prop where
 agT:gM x.bH
 JY:r0 x.bo
theorem agU(fuel:Nat)(cs:List Value)(x:DataW H×List MemPlace)(h:DataW.trod enc Tryz.prog W 0 (λ_=>true) true fuel 138 cs=some x):∃p:Version,JX p∧e7 W cs (fI p).cells:=by
 obtain⟨xs,n,hn,_,ah,fM,bh⟩:=DataW.trod_struct Tryz.underlying138 h;rw [Wi]at ah;obtain⟨c0,c1,c2,c3,rfl⟩:=V8 cs ah;obtain⟨ff,fA,rfl⟩:=p5 xs fM;have h0:DataW.trod enc Tryz.prog W 0 (λ_=>true) true n 2 (List.take (Tryz.prog.cellsOf 2) [c0,c1,c2,c3])=some ff:=bh 0 _ rfl
 rw [mv]at h0;obtain⟨v0,eu,dt⟩:=gJ (k:=.i64) Tryz.underlying2 h0;have ab:DataW.trod enc Tryz.prog W 0 (λ_=>true) true n 85 (List.take (Tryz.prog.cellsOf 85) [c1,c2,c3])=some fA:=bh 1 _ rfl
 rw [xp]at ab;obtain⟨v1,c6,ae⟩:=Bz n _ _ ab;exact⟨⟨v0,v1⟩,⟨⟨eu.1,eu.2⟩,c6⟩,(dt.app ae)⟩
structure JZ(x:Row):Prop where
 xq:x.Key.length≤9223372036854775807
 BA:x.bi.length≤9223372036854775807∧∀i,i<x.bi.length→JX (x.bi.getD i default)
theorem agV(fuel:Nat)(cs:List Value)(x:DataW H×List MemPlace)(h:DataW.trod enc Tryz.prog W 0 (λ_=>true) true fuel 92 cs=some x):∃p:Row,JZ p∧e7 W cs (bw p).cells:=by
 obtain⟨xs,n,hn,_,ah,fM,bh⟩:=DataW.trod_struct Tryz.underlying92 h;rw [Wh]at ah;obtain⟨c0,c1,rfl⟩:=p5 cs ah;obtain⟨ff,fA,rfl⟩:=p5 xs fM;have h0:DataW.trod enc Tryz.prog W 0 (λ_=>true) true n 9 (List.take (Tryz.prog.cellsOf 9) [c0,c1])=some ff:=bh 0 _ rfl
 rw [kG]at h0;obtain⟨v0,eu,dt⟩:=ku Tryz.underlying9 h0;have ab:DataW.trod enc Tryz.prog W 0 (λ_=>true) true n 90 (List.take (Tryz.prog.cellsOf 90) [c1])=some fA:=bh 1 _ rfl
 rw [agS]at ab;obtain⟨v1,c6,g1,ae⟩:=jb (encA:=fI) (ok:=JX) Tryz.underlying90 Wi (by omega) ab (λm cs' fh hm hx=>agU m cs' fh hx)
 exact⟨⟨v0,v1⟩,⟨eu,⟨c6,g1⟩⟩,(dt.app ae)⟩
structure xr(x:ao):Prop where
 ai6:gM x.bm
 ai7:gM x.bk
 Wn:x.Rows.length≤9223372036854775807∧∀i,i<x.Rows.length→JZ (x.Rows.getD i default)
theorem Wo(fuel:Nat)(cs:List Value)(x:DataW H×List MemPlace)(h:DataW.trod enc Tryz.prog W 0 (λ_=>true) true fuel 24 cs=some x):∃p:ao,xr p∧e7 W cs (M9 p).cells:=by
 obtain⟨xs,n,hn,_,ah,fM,bh⟩:=DataW.trod_struct Tryz.underlying24 h;rw [V_]at ah;obtain⟨c0,c1,c2,rfl⟩:=nm cs ah;obtain⟨ff,fA,gP,rfl⟩:=nm xs fM;have h0:DataW.trod enc Tryz.prog W 0 (λ_=>true) true n 2 (List.take (Tryz.prog.cellsOf 2) [c0,c1,c2])=some ff:=bh 0 _ rfl
 rw [mv]at h0;obtain⟨v0,eu,dt⟩:=gJ (k:=.i64) Tryz.underlying2 h0;have ab:DataW.trod enc Tryz.prog W 0 (λ_=>true) true n 2 (List.take (Tryz.prog.cellsOf 2) [c1,c2])=some fA:=bh 1 _ rfl
 rw [mv]at ab;obtain⟨v1,c6,ae⟩:=gJ (k:=.i64) Tryz.underlying2 ab;have ai:DataW.trod enc Tryz.prog W 0 (λ_=>true) true n 22 (List.take (Tryz.prog.cellsOf 22) [c2])=some gP:=bh 2 _ rfl
 rw [agI]at ai;obtain⟨v2,ar,g2,an⟩:=jb (encA:=bw) (ok:=JZ) Tryz.underlying22 Wh (by omega) ai (λm cs' fh hm hx=>agV m cs' fh hx)
 exact⟨⟨v0,v1,v2⟩,⟨⟨eu.1,eu.2⟩,⟨c6.1,c6.2⟩,⟨ar,g2⟩⟩,((dt.app ae).app an)⟩
structure Wp(x:Outcome):Prop where
 ai8:gM x.Status
 ai9:gM x.Code
 agW:x.Out.length≤9223372036854775807∧∀i,i<x.Out.length→r0 (x.Out.getD i default)
theorem agX(fuel:Nat)(cs:List Value)(x:DataW H×List MemPlace)(h:DataW.trod enc Tryz.prog W 0 (λ_=>true) true fuel 230 cs=some x):∃p:Outcome,Wp p∧e7 W cs (aak p).cells:=by
 obtain⟨xs,n,hn,_,ah,fM,bh⟩:=DataW.trod_struct Tryz.underlying230 h;rw [Wl]at ah;obtain⟨c0,c1,c2,rfl⟩:=nm cs ah;obtain⟨ff,fA,gP,rfl⟩:=nm xs fM;have h0:DataW.trod enc Tryz.prog W 0 (λ_=>true) true n 3 (List.take (Tryz.prog.cellsOf 3) [c0,c1,c2])=some ff:=bh 0 _ rfl
 rw [mu]at h0;obtain⟨v0,eu,dt⟩:=gJ (k:=.i64) Tryz.underlying3 h0;have ab:DataW.trod enc Tryz.prog W 0 (λ_=>true) true n 3 (List.take (Tryz.prog.cellsOf 3) [c1,c2])=some fA:=bh 1 _ rfl
 rw [mu]at ab;obtain⟨v1,c6,ae⟩:=gJ (k:=.i64) Tryz.underlying3 ab;have ai:DataW.trod enc Tryz.prog W 0 (λ_=>true) true n 78 (List.take (Tryz.prog.cellsOf 78) [c2])=some gP:=bh 2 _ rfl
 rw [Wd]at ai;obtain⟨v2,ar,g2,an⟩:=jb (encA:=dM) (ok:=r0) Tryz.underlying78 xp (by omega) ai (λm cs' fh hm hx=>Bz m cs' fh hx)
 exact⟨⟨v0,v1,v2⟩,⟨⟨eu.1,eu.2⟩,⟨c6.1,c6.2⟩,⟨ar,g2⟩⟩,((dt.app ae).app an)⟩
structure J0(x:eT):Prop where
 Wq:gM x.Client
 agY:gM x.Seq
 agZ:Wp x.Outcome
theorem ag0(fuel:Nat)(cs:List Value)(x:DataW H×List MemPlace)(h:DataW.trod enc Tryz.prog W 0 (λ_=>true) true fuel 232 cs=some x):∃p:eT,J0 p∧e7 W cs (gK p).cells:=by
 obtain⟨xs,n,hn,_,ah,fM,bh⟩:=DataW.trod_struct Tryz.underlying232 h;rw [Wm]at ah;obtain⟨c0,c1,c2,c3,c4,rfl⟩:=JP cs ah;obtain⟨ff,fA,gP,rfl⟩:=nm xs fM;have h0:DataW.trod enc Tryz.prog W 0 (λ_=>true) true n 3 (List.take (Tryz.prog.cellsOf 3) [c0,c1,c2,c3,c4])=some ff:=bh 0 _ rfl
 rw [mu]at h0;obtain⟨v0,eu,dt⟩:=gJ (k:=.i64) Tryz.underlying3 h0;have ab:DataW.trod enc Tryz.prog W 0 (λ_=>true) true n 2 (List.take (Tryz.prog.cellsOf 2) [c1,c2,c3,c4])=some fA:=bh 1 _ rfl
 rw [mv]at ab;obtain⟨v1,c6,ae⟩:=gJ (k:=.i64) Tryz.underlying2 ab;have ai:DataW.trod enc Tryz.prog W 0 (λ_=>true) true n 230 (List.take (Tryz.prog.cellsOf 230) [c2,c3,c4])=some gP:=bh 2 _ rfl
 rw [Wl]at ai;obtain⟨v2,ar,an⟩:=agX n _ _ ai;exact⟨⟨v0,v1,v2⟩,⟨⟨eu.1,eu.2⟩,⟨c6.1,c6.2⟩,ar⟩,((dt.app ae).app an)⟩
structure J1(x:b1):Prop where
 Wq:gM x.Client
 J2:gM x.Next
 Wr:x.c'.length≤9223372036854775807∧∀i,i<x.c'.length→J0 (x.c'.getD i default)
theorem ag1(fuel:Nat)(cs:List Value)(x:DataW H×List MemPlace)(h:DataW.trod enc Tryz.prog W 0 (λ_=>true) true fuel 76 cs=some x):∃p:b1,J1 p∧e7 W cs (cy p).cells:=by
 obtain⟨xs,n,hn,_,ah,fM,bh⟩:=DataW.trod_struct Tryz.underlying76 h;rw [Wc]at ah;obtain⟨c0,c1,c2,rfl⟩:=nm cs ah;obtain⟨ff,fA,gP,rfl⟩:=nm xs fM;have h0:DataW.trod enc Tryz.prog W 0 (λ_=>true) true n 3 (List.take (Tryz.prog.cellsOf 3) [c0,c1,c2])=some ff:=bh 0 _ rfl
 rw [mu]at h0;obtain⟨v0,eu,dt⟩:=gJ (k:=.i64) Tryz.underlying3 h0;have ab:DataW.trod enc Tryz.prog W 0 (λ_=>true) true n 2 (List.take (Tryz.prog.cellsOf 2) [c1,c2])=some fA:=bh 1 _ rfl
 rw [mv]at ab;obtain⟨v1,c6,ae⟩:=gJ (k:=.i64) Tryz.underlying2 ab;have ai:DataW.trod enc Tryz.prog W 0 (λ_=>true) true n 74 (List.take (Tryz.prog.cellsOf 74) [c2])=some gP:=bh 2 _ rfl
 rw [agR]at ai;obtain⟨v2,ar,g2,an⟩:=jb (encA:=gK) (ok:=J0) Tryz.underlying74 Wm (by omega) ai (λm cs' fh hm hx=>ag0 m cs' fh hx)
 exact⟨⟨v0,v1,v2⟩,⟨⟨eu.1,eu.2⟩,⟨c6.1,c6.2⟩,⟨ar,g2⟩⟩,((dt.app ae).app an)⟩
structure J3(x:Part):Prop where
 ai':gM x.Id
 ag2:x.dY.length≤9223372036854775807
 ai_:gM x.Node
 aja:gM x.gQ
 Ws:x.cN.length≤9223372036854775807
theorem ag3(fuel:Nat)(cs:List Value)(x:DataW H×List MemPlace)(h:DataW.trod enc Tryz.prog W 0 (λ_=>true) true fuel 148 cs=some x):∃p:Part,J3 p∧e7 W cs (ca p).cells:=by
 obtain⟨xs,n,hn,_,ah,fM,bh⟩:=DataW.trod_struct Tryz.underlying148 h;rw [Wj]at ah;obtain⟨c0,c1,c2,c3,c4,rfl⟩:=JP cs ah;obtain⟨ff,fA,gP,nl,fo,rfl⟩:=JP xs fM;have h0:DataW.trod enc Tryz.prog W 0 (λ_=>true) true n 3 (List.take (Tryz.prog.cellsOf 3) [c0,c1,c2,c3,c4])=some ff:=bh 0 _ rfl
 rw [mu]at h0;obtain⟨v0,eu,dt⟩:=gJ (k:=.i64) Tryz.underlying3 h0;have ab:DataW.trod enc Tryz.prog W 0 (λ_=>true) true n 9 (List.take (Tryz.prog.cellsOf 9) [c1,c2,c3,c4])=some fA:=bh 1 _ rfl
 rw [kG]at ab;obtain⟨v1,c6,ae⟩:=ku Tryz.underlying9 ab;have ai:DataW.trod enc Tryz.prog W 0 (λ_=>true) true n 3 (List.take (Tryz.prog.cellsOf 3) [c2,c3,c4])=some gP:=bh 2 _ rfl
 rw [mu]at ai;obtain⟨v2,ar,an⟩:=gJ (k:=.i64) Tryz.underlying3 ai;have ay:DataW.trod enc Tryz.prog W 0 (λ_=>true) true n 3 (List.take (Tryz.prog.cellsOf 3) [c3,c4])=some nl:=bh 3 _ rfl
 rw [mu]at ay;obtain⟨v3,eS,aB⟩:=gJ (k:=.i64) Tryz.underlying3 ay;have bg:DataW.trod enc Tryz.prog W 0 (λ_=>true) true n 9 (List.take (Tryz.prog.cellsOf 9) [c4])=some fo:=bh 4 _ rfl
 rw [kG]at bg;obtain⟨v4,dS,aQ⟩:=ku Tryz.underlying9 bg;exact⟨⟨v0,v1,v2,v3,v4⟩,⟨⟨eu.1,eu.2⟩,c6,⟨ar.1,ar.2⟩,⟨eS.1,eS.2⟩,dS⟩,((((dt.app ae).app an).app aB).app aQ)⟩
structure Wt(x:bX):Prop where
 ajb:gM x.Version
 ag4:x.a7.length≤9223372036854775807∧∀i,i<x.a7.length→J3 (x.a7.getD i default)
theorem ag5(fuel:Nat)(cs:List Value)(x:DataW H×List MemPlace)(h:DataW.trod enc Tryz.prog W 0 (λ_=>true) true fuel 29 cs=some x):∃p:bX,Wt p∧e7 W cs (aal p).cells:=by
 obtain⟨xs,n,hn,_,ah,fM,bh⟩:=DataW.trod_struct Tryz.underlying29 h;rw [Wa]at ah;obtain⟨c0,c1,rfl⟩:=p5 cs ah;obtain⟨ff,fA,rfl⟩:=p5 xs fM;have h0:DataW.trod enc Tryz.prog W 0 (λ_=>true) true n 2 (List.take (Tryz.prog.cellsOf 2) [c0,c1])=some ff:=bh 0 _ rfl
 rw [mv]at h0;obtain⟨v0,eu,dt⟩:=gJ (k:=.i64) Tryz.underlying2 h0;have ab:DataW.trod enc Tryz.prog W 0 (λ_=>true) true n 27 (List.take (Tryz.prog.cellsOf 27) [c1])=some fA:=bh 1 _ rfl
 rw [agL]at ab;obtain⟨v1,c6,g1,ae⟩:=jb (encA:=ca) (ok:=J3) Tryz.underlying27 Wj (by omega) ab (λm cs' fh hm hx=>ag3 m cs' fh hx)
 exact⟨⟨v0,v1⟩,⟨⟨eu.1,eu.2⟩,⟨c6,g1⟩⟩,(dt.app ae)⟩
structure J4(x:bc):Prop where
 xq:x.Key.length≤9223372036854775807
 ajc:gM x.Count
theorem ag6(fuel:Nat)(cs:List Value)(x:DataW H×List MemPlace)(h:DataW.trod enc Tryz.prog W 0 (λ_=>true) true fuel 179 cs=some x):∃p:bc,J4 p∧e7 W cs (cO p).cells:=by
 obtain⟨xs,n,hn,_,ah,fM,bh⟩:=DataW.trod_struct Tryz.underlying179 h;rw [Wk]at ah;obtain⟨c0,c1,rfl⟩:=p5 cs ah;obtain⟨ff,fA,rfl⟩:=p5 xs fM;have h0:DataW.trod enc Tryz.prog W 0 (λ_=>true) true n 9 (List.take (Tryz.prog.cellsOf 9) [c0,c1])=some ff:=bh 0 _ rfl
 rw [kG]at h0;obtain⟨v0,eu,dt⟩:=ku Tryz.underlying9 h0;have ab:DataW.trod enc Tryz.prog W 0 (λ_=>true) true n 2 (List.take (Tryz.prog.cellsOf 2) [c1])=some fA:=bh 1 _ rfl
 rw [mv]at ab;obtain⟨v1,c6,ae⟩:=gJ (k:=.i64) Tryz.underlying2 ab;exact⟨⟨v0,v1⟩,⟨eu,⟨c6.1,c6.2⟩⟩,(dt.app ae)⟩
structure Wu(x:eX):Prop where
 ajd:True
 aje:x.Reads.length≤9223372036854775807∧∀i,i<x.Reads.length→(x.Reads.getD i default).length≤9223372036854775807
 ajf:x.da.length≤9223372036854775807∧∀i,i<x.da.length→(x.da.getD i default).length≤9223372036854775807
theorem ag7(fuel:Nat)(cs:List Value)(x:DataW H×List MemPlace)(h:DataW.trod enc Tryz.prog W 0 (λ_=>true) true fuel 80 cs=some x):∃p:eX,Wu p∧e7 W cs (aam p).cells:=by
 obtain⟨xs,n,hn,_,ah,fM,bh⟩:=DataW.trod_struct Tryz.underlying80 h;rw [We]at ah;obtain⟨c0,c1,c2,rfl⟩:=nm cs ah;obtain⟨ff,fA,gP,rfl⟩:=nm xs fM;have h0:DataW.trod enc Tryz.prog W 0 (λ_=>true) true n 4 (List.take (Tryz.prog.cellsOf 4) [c0,c1,c2])=some ff:=bh 0 _ rfl
 rw [JU]at h0;obtain⟨v0,dt⟩:=DH Tryz.underlying4 h0;have ab:DataW.trod enc Tryz.prog W 0 (λ_=>true) true n 38 (List.take (Tryz.prog.cellsOf 38) [c1,c2])=some fA:=bh 1 _ rfl
 rw [JV]at ab;obtain⟨v1,c6,g1,ae⟩:=jb (encA:=a8) (ok:=λs:ajK=>s.length≤9223372036854775807) Tryz.underlying38 kG (by omega) ab (λm cs' fh hm hx=>ku Tryz.underlying9 hx)
 have ai:DataW.trod enc Tryz.prog W 0 (λ_=>true) true n 38 (List.take (Tryz.prog.cellsOf 38) [c2])=some gP:=bh 2 _ rfl
 rw [JV]at ai;obtain⟨v2,ar,g2,an⟩:=jb (encA:=a8) (ok:=λs:ajK=>s.length≤9223372036854775807) Tryz.underlying38 kG (by omega) ai (λm cs' fh hm hx=>ku Tryz.underlying9 hx)
 exact⟨⟨v0,v1,v2⟩,⟨trivial,⟨c6,g1⟩,⟨ar,g2⟩⟩,((dt.app ae).app an)⟩
structure J5(x:Request):Prop where
 Wq:gM x.Client
 agY:gM x.Seq
 ajg:x.bj.length≤9223372036854775807
 fArgs:x.az.length≤9223372036854775807∧∀i,i<x.az.length→r0 (x.az.getD i default)
 ajh:True
 aji:Wu x.bY
theorem ag8(fuel:Nat)(cs:List Value)(x:DataW H×List MemPlace)(h:DataW.trod enc Tryz.prog W 0 (λ_=>true) true fuel 82 cs=some x):∃p:Request,J5 p∧e7 W cs (cT p).cells:=by
 obtain⟨xs,n,hn,_,ah,fM,bh⟩:=DataW.trod_struct Tryz.underlying82 h;rw [Wf]at ah;obtain⟨c0,c1,c2,c3,c4,c5,iV,iA,rfl⟩:=V' cs ah;obtain⟨ff,fA,gP,nl,fo,ky,rfl⟩:=V9 xs fM;have h0:DataW.trod enc Tryz.prog W 0 (λ_=>true) true n 3 (List.take (Tryz.prog.cellsOf 3) [c0,c1,c2,c3,c4,c5,iV,iA])=some ff:=bh 0 _ rfl
 rw [mu]at h0;obtain⟨v0,eu,dt⟩:=gJ (k:=.i64) Tryz.underlying3 h0;have ab:DataW.trod enc Tryz.prog W 0 (λ_=>true) true n 2 (List.take (Tryz.prog.cellsOf 2) [c1,c2,c3,c4,c5,iV,iA])=some fA:=bh 1 _ rfl
 rw [mv]at ab;obtain⟨v1,c6,ae⟩:=gJ (k:=.i64) Tryz.underlying2 ab;have ai:DataW.trod enc Tryz.prog W 0 (λ_=>true) true n 9 (List.take (Tryz.prog.cellsOf 9) [c2,c3,c4,c5,iV,iA])=some gP:=bh 2 _ rfl
 rw [kG]at ai;obtain⟨v2,ar,an⟩:=ku Tryz.underlying9 ai;have ay:DataW.trod enc Tryz.prog W 0 (λ_=>true) true n 78 (List.take (Tryz.prog.cellsOf 78) [c3,c4,c5,iV,iA])=some nl:=bh 3 _ rfl
 rw [Wd]at ay;obtain⟨v3,eS,g3,aB⟩:=jb (encA:=dM) (ok:=r0) Tryz.underlying78 xp (by omega) ay (λm cs' fh hm hx=>Bz m cs' fh hx)
 have bg:DataW.trod enc Tryz.prog W 0 (λ_=>true) true n 4 (List.take (Tryz.prog.cellsOf 4) [c4,c5,iV,iA])=some fo:=bh 4 _ rfl
 rw [JU]at bg;obtain⟨v4,aQ⟩:=DH Tryz.underlying4 bg;have bQ:DataW.trod enc Tryz.prog W 0 (λ_=>true) true n 80 (List.take (Tryz.prog.cellsOf 80) [c5,iV,iA])=some ky:=bh 5 _ rfl
 rw [We]at bQ;obtain⟨v5,m6,bN⟩:=ag7 n _ _ bQ;exact⟨⟨v0,v1,v2,v3,v4,v5⟩,⟨⟨eu.1,eu.2⟩,⟨c6.1,c6.2⟩,ar,⟨eS,g3⟩,trivial,m6⟩,(((((dt.app ae).app an).app aB).app aQ).app bN)⟩
structure t_(x:bF):Prop where
 ajj:gM x.Pos
 ag9:xr x.ao
 Wv:x.bI.length≤9223372036854775807∧∀i,i<x.bI.length→pX (x.bI.getD i default)
 ag':x.bT.length≤9223372036854775807∧∀i,i<x.bT.length→J1 (x.bT.getD i default)
 ag_:Wt x.Place
 aha:x.bc.length≤9223372036854775807∧∀i,i<x.bc.length→J4 (x.bc.getD i default)
 ajk:x.Queue.length≤9223372036854775807∧∀i,i<x.Queue.length→J5 (x.Queue.getD i default)
 ajl:pZ x.b6
theorem ahb(fuel:Nat)(cs:List Value)(x:DataW H×List MemPlace)(h:DataW.trod enc Tryz.prog W 0 (λ_=>true) true fuel 34 cs=some x):∃p:bF,t_ p∧e7 W cs (aan p).cells:=by
 obtain⟨xs,n,hn,_,ah,fM,bh⟩:=DataW.trod_struct Tryz.underlying34 h;rw [Wb]at ah;obtain⟨c0,c1,c2,c3,c4,c5,iV,iA,kH,c9,jV,rfl⟩:=agG cs ah;obtain⟨ff,fA,gP,nl,fo,ky,m3,vD,rfl⟩:=V' xs fM;have h0:DataW.trod enc Tryz.prog W 0 (λ_=>true) true n 2 (List.take (Tryz.prog.cellsOf 2) [c0,c1,c2,c3,c4,c5,iV,iA,kH,c9,jV])=some ff:=bh 0 _ rfl
 rw [mv]at h0;obtain⟨v0,eu,dt⟩:=gJ (k:=.i64) Tryz.underlying2 h0;have ab:DataW.trod enc Tryz.prog W 0 (λ_=>true) true n 24 (List.take (Tryz.prog.cellsOf 24) [c1,c2,c3,c4,c5,iV,iA,kH,c9,jV])=some fA:=bh 1 _ rfl
 rw [V_]at ab;obtain⟨v1,c6,ae⟩:=Wo n _ _ ab;have ai:DataW.trod enc Tryz.prog W 0 (λ_=>true) true n 25 (List.take (Tryz.prog.cellsOf 25) [c4,c5,iV,iA,kH,c9,jV])=some gP:=bh 2 _ rfl
 rw [agJ]at ai;obtain⟨v2,ar,g2,an⟩:=jb (encA:=cJ) (ok:=pX) Tryz.underlying25 V5 (by omega) ai (λm cs' fh hm hx=>agE m cs' fh hx)
 have ay:DataW.trod enc Tryz.prog W 0 (λ_=>true) true n 26 (List.take (Tryz.prog.cellsOf 26) [c5,iV,iA,kH,c9,jV])=some nl:=bh 3 _ rfl
 rw [agK]at ay;obtain⟨v3,eS,g3,aB⟩:=jb (encA:=cy) (ok:=J1) Tryz.underlying26 Wc (by omega) ay (λm cs' fh hm hx=>ag1 m cs' fh hx)
 have bg:DataW.trod enc Tryz.prog W 0 (λ_=>true) true n 29 (List.take (Tryz.prog.cellsOf 29) [iV,iA,kH,c9,jV])=some fo:=bh 4 _ rfl
 rw [Wa]at bg;obtain⟨v4,dS,aQ⟩:=ag5 n _ _ bg;have bQ:DataW.trod enc Tryz.prog W 0 (λ_=>true) true n 30 (List.take (Tryz.prog.cellsOf 30) [kH,c9,jV])=some ky:=bh 5 _ rfl
 rw [agM]at bQ;obtain⟨v5,m6,g5,bN⟩:=jb (encA:=cO) (ok:=J4) Tryz.underlying30 Wk (by omega) bQ (λm cs' fh hm hx=>ag6 m cs' fh hx)
 have dh:DataW.trod enc Tryz.prog W 0 (λ_=>true) true n 31 (List.take (Tryz.prog.cellsOf 31) [c9,jV])=some m3:=bh 6 _ rfl
 rw [agN]at dh;obtain⟨v6,nV,g6,ba⟩:=jb (encA:=cT) (ok:=J5) Tryz.underlying31 Wf (by omega) dh (λm cs' fh hm hx=>ag8 m cs' fh hx)
 have e5:DataW.trod enc Tryz.prog W 0 (λ_=>true) true n 32 (List.take (Tryz.prog.cellsOf 32) [jV])=some vD:=bh 7 _ rfl
 rw [agO]at e5;obtain⟨bu,oH,b4⟩:=gJ (k:=.u64) Tryz.underlying32 e5;exact⟨⟨v0,v1,v2,v3,v4,v5,v6,bu⟩,⟨⟨eu.1,eu.2⟩,c6,⟨ar,g2⟩,⟨eS,g3⟩,dS,⟨m6,g5⟩,⟨nV,g6⟩,⟨oH.1,Int.lt_of_le_of_lt oH.2 (by decide)⟩⟩,(((((((dt.app ae).app an).app aB).app aQ).app bN).app ba).app b4)⟩
structure J6(x:aI):Prop where
 xq:x.Key.length≤9223372036854775807
 JY:r0 x.bo
theorem ahc(fuel:Nat)(cs:List Value)(x:DataW H×List MemPlace)(h:DataW.trod enc Tryz.prog W 0 (λ_=>true) true fuel 87 cs=some x):∃p:aI,J6 p∧e7 W cs (bG p).cells:=by
 obtain⟨xs,n,hn,_,ah,fM,bh⟩:=DataW.trod_struct Tryz.underlying87 h;rw [Wg]at ah;obtain⟨c0,c1,c2,c3,rfl⟩:=V8 cs ah;obtain⟨ff,fA,rfl⟩:=p5 xs fM;have h0:DataW.trod enc Tryz.prog W 0 (λ_=>true) true n 9 (List.take (Tryz.prog.cellsOf 9) [c0,c1,c2,c3])=some ff:=bh 0 _ rfl
 rw [kG]at h0;obtain⟨v0,eu,dt⟩:=ku Tryz.underlying9 h0;have ab:DataW.trod enc Tryz.prog W 0 (λ_=>true) true n 85 (List.take (Tryz.prog.cellsOf 85) [c1,c2,c3])=some fA:=bh 1 _ rfl
 rw [xp]at ab;obtain⟨v1,c6,ae⟩:=Bz n _ _ ab;exact⟨⟨v0,v1⟩,⟨eu,c6⟩,(dt.app ae)⟩
structure BB(x:de):Prop where
 agT:gM x.bH
 Ww:t_ x.Rest
 J2:x.Next.length≤9223372036854775807
 Ws:True
 ajm:x.c8.length≤9223372036854775807∧∀i,i<x.c8.length→J6 (x.c8.getD i default)
 ajn:x.cU.length≤9223372036854775807∧∀i,i<x.cU.length→(x.cU.getD i default).length≤9223372036854775807
theorem ahd(fuel:Nat)(cs:List Value)(x:DataW H×List MemPlace)(h:DataW.trod enc Tryz.prog W 0 (λ_=>true) true fuel 40 cs=some x):∃p:de,BB p∧e7 W cs (Nd p).cells:=by
 obtain⟨xs,n,hn,_,ah,fM,bh⟩:=DataW.trod_struct Tryz.underlying40 h;rw [agQ]at ah;obtain⟨c0,c1,c2,c3,c4,c5,iV,iA,kH,c9,jV,oU,c12,BC,xt,ua,rfl⟩:=agH cs ah;obtain⟨ff,fA,gP,nl,fo,ky,rfl⟩:=V9 xs fM;have h0:DataW.trod enc Tryz.prog W 0 (λ_=>true) true n 2 (List.take (Tryz.prog.cellsOf 2) [c0,c1,c2,c3,c4,c5,iV,iA,kH,c9,jV,oU,c12,BC,xt,ua])=some ff:=bh 0 _ rfl
 rw [mv]at h0;obtain⟨v0,eu,dt⟩:=gJ (k:=.i64) Tryz.underlying2 h0;have ab:DataW.trod enc Tryz.prog W 0 (λ_=>true) true n 34 (List.take (Tryz.prog.cellsOf 34) [c1,c2,c3,c4,c5,iV,iA,kH,c9,jV,oU,c12,BC,xt,ua])=some fA:=bh 1 _ rfl
 rw [Wb]at ab;obtain⟨v1,c6,ae⟩:=ahb n _ _ ab;have ai:DataW.trod enc Tryz.prog W 0 (λ_=>true) true n 9 (List.take (Tryz.prog.cellsOf 9) [c12,BC,xt,ua])=some gP:=bh 2 _ rfl
 rw [kG]at ai;obtain⟨v2,ar,an⟩:=ku Tryz.underlying9 ai;have ay:DataW.trod enc Tryz.prog W 0 (λ_=>true) true n 4 (List.take (Tryz.prog.cellsOf 4) [BC,xt,ua])=some nl:=bh 3 _ rfl
 rw [JU]at ay;obtain⟨v3,aB⟩:=DH Tryz.underlying4 ay;have bg:DataW.trod enc Tryz.prog W 0 (λ_=>true) true n 37 (List.take (Tryz.prog.cellsOf 37) [xt,ua])=some fo:=bh 4 _ rfl
 rw [agP]at bg;obtain⟨v4,dS,g4,aQ⟩:=jb (encA:=bG) (ok:=J6) Tryz.underlying37 Wg (by omega) bg (λm cs' fh hm hx=>ahc m cs' fh hx)
 have bQ:DataW.trod enc Tryz.prog W 0 (λ_=>true) true n 38 (List.take (Tryz.prog.cellsOf 38) [ua])=some ky:=bh 5 _ rfl
 rw [JV]at bQ;obtain⟨v5,m6,g5,bN⟩:=jb (encA:=a8) (ok:=λs:ajK=>s.length≤9223372036854775807) Tryz.underlying38 kG (by omega) bQ (λm cs' fh hm hx=>ku Tryz.underlying9 hx)
 exact⟨⟨v0,v1,v2,v3,v4,v5⟩,⟨⟨eu.1,eu.2⟩,c6,ar,trivial,⟨dS,g4⟩,⟨m6,g5⟩⟩,(((((dt.app ae).app an).app aB).app aQ).app bN)⟩
end
open Go Go.Ab Go.Proofs
def li{α:Type}[Inhabited α]{P:α→Prop}{l:List α}(h:∀i,i<l.length→P (l.getD i default))(h0:P default)(i:Nat):P (l.getD i default):=by
 by_cases hi:i<l.length
 ·exact h i hi
 ·rw [List.getD_eq_getElem?_getD,List.getElem?_eq_none (by omega)];exact h0
open Go Go.Ab Go.Proofs
open Go Go.Ab Go.Proofs
open Go Go.Ab Go.Proofs
structure J7(n:Nat)(r:bF):Prop where
 cp:rX n r
 xi:r.ao.Rows.length≤100
 vs:∀i,i<r.ao.Rows.length→(r.ao.Rows.getD i default).bi.length≤1000
 pl:r.bI.length≤1000
 jG:r.bT.length≤10
abbrev Wx(r:bF):Bv:=xo r (JK r.ao.Rows)
section
variable {n:Nat} (hn:3000000≤n) (b5:n≤9223372036854775808) {r:bF} (bh:J7 n r) (hi:t_ r)
include hn b5 bh hi
def encA(r:bF):ajK×Int:=bif !agf r then([],1)else bif decide (16384<(((Bw (Wx r)).length:Nat):Int)) then([],2) else(Bw (Wx r),0)
end
open Go Go.Ab Go.Proofs
section
variable {n:Nat} (hn:3000000≤n) (b5:n≤9223372036854775808) {r:bF} (bh:J7 n r) (hi:t_ r)
include hn b5 bh hi
end
open Go Go.Ab Go.Proofs
section
variable {n:Nat} (hn:3000000≤n) (b5:n≤9223372036854775808) {r:bF} (bh:J7 n r) (hi:t_ r)
include hn b5 bh hi
end
open Go Go.Ab Go.Proofs
def hA(a:Int):List Version→Nat
 |[]=>0
 |v::l=>if v.bH≤a then hA a l+1 else 0
def oV(a:Int)(x:bB):List Version→bB
 |[]=>x
 |v::l=>oV a (if v.bH≤a then v.bo else x) l
def J8(a:Int):∀l:List Version,hA a l≤l.length
 |[]=>Nat.le_refl _
 |v::l=>by
  have:=J8 a l
  unfold hA;split
  ·simp only [ajz];omega
  ·exact Nat.zero_le _
def BD:List Version→Prop
 |[]=>True
 |v::l=>(∀w∈l,v.bH<w.bH)∧BD l
def Wy{a:Int}{x:bB}:∀{l:List Version},(∀w∈l,a<w.bH)→oV a x l=x
 |[],_=>rfl
 |v::l,h=>by
  have ab:=h v (by simp)
  unfold oV;rw [if_neg (by omega)]
  exact Wy λw hw=>h w (by simp [hw])
def Wz{a:Int}:∀{l:List Version} {x:bB},BD l→oV a x l=if hA a l=0 then x else(l.getD (hA a l-1) default).bo
 |[],_,_=>rfl
 |v::l,x,⟨ab,ai⟩=>by
  unfold oV hA;by_cases h:v.bH≤a
  ·rw [if_pos h,if_pos h,Wz ai,if_neg (show¬ hA a l+1=0 by omega),Nat.add_sub_cancel]
   by_cases h0:hA a l=0
   ·rw [if_pos h0,h0];rfl
   ·rw [if_neg h0];obtain⟨k,hk⟩:∃k,hA a l=k+1:=⟨hA a l-1,by omega⟩
    rw [hk,Nat.add_sub_cancel,List.getD_cons_succ]
  ·have ay:∀w∈l,a<w.bH:=λw hw=>by have:=ab w hw;omega
   rw [if_neg h,if_neg h,if_pos rfl,Wy ay]
def lR(a:Int)(r:Row):bB:=if hA a r.bi=0 then⟨0,0,[]⟩ else(r.bi.getD (hA a r.bi-1) default).bo
def lj(a:Int):List Row→List aI
 |[]=>[]
 |r::l=>if(lR a r).Kind=0 then lj a l else⟨r.Key,lR a r⟩::lj a l
section
variable {n:Nat} {a:Int} {r:Row} (ah:r.bi.length<n) (b5:n≤9223372036854775808)
include ah b5
theorem ahe:Ei n r a=some ((hA a r.bi:Nat):Int):=by
 have key:∀m i,r.bi.length<m+i→i≤r.bi.length→vo n a r m (i:Int)=some ((i+hA a (r.bi.drop i):Nat):Int):=by
  intro m;induction m with
  |zero=>intro i ab ai;omega
  |succ m bv=>
   intro i ab ai;simp only [vo,Eh,Eg,ajC,ajB];by_cases hi:i<r.bi.length
   ·rw [mq r.bi i default hi,hA];by_cases h:(r.bi.getD i default).bH≤a
    ·simp only [hi,eo hi,ajt,ajH,dy,ajv,h,fy (show i≤9223372036854775806 by omega),ajI]
     rw [bv (i+1) (by omega) (by omega),show i+1+hA a (r.bi.drop (i+1))=i+(hA a (r.bi.drop (i+1))+1)by omega]
    ·simp only [hi,eo hi,ajt,aju,ajH,dy,ajv,ajw,h,ajJ];rfl
   ·obtain rfl:i=r.bi.length:=by omega
    simp only [Nat.lt_irrefl,aju,ajy,Bool.true_or,dy,ajw,List.drop_length,hA,Nat.add_zero]
 have:=key n 0 (by omega) (by omega)
 rw [List.drop_zero,Nat.zero_add]at this;exact this
theorem ahf:y_ n r a=some (lR a r):=by
 have hs:=J8 a r.bi;unfold y_ lR;rw [ahe ah b5,c_];by_cases h0:hA a r.bi=0
 ·rw [h0];rfl
 ·have e:ajM (((hA a r.bi:Nat):Int)-1)=((hA a r.bi-1:Nat):Int):=by rw [wr]<;>omega
  simp only [show¬ ((hA a r.bi:Nat):Int)=0 by omega,aju,ajw,e,eo (show hA a r.bi-1<r.bi.length by omega),dy,ajB,h0,ajJ]
theorem ahg:v_ n r a=some (oV a ⟨0,0,[]⟩ r.bi):=by
 have key:∀m i K N S,r.bi.length<m+i→i≤r.bi.length→v' n a r m K N S (i:Int)=some (oV a ⟨K,N,S⟩ (r.bi.drop i)):=by
  intro m;induction m with
  |zero=>intro i K N S ab ai;omega
  |succ m bv=>
   intro i K N S ab ai;simp only [v',Hb,Ha,z_,ajC,ajB];by_cases hi:i<r.bi.length
   ·rw [mq r.bi i default hi,oV];by_cases h:(r.bi.getD i default).bH≤a
    ·simp only [hi,eo hi,ajt,dy,ajv,h,fy (show i≤9223372036854775806 by omega),ajI]
     exact bv (i+1) _ _ _ (by omega) (by omega)
    ·simp only [hi,eo hi,ajt,aju,dy,ajv,ajw,h,fy (show i≤9223372036854775806 by omega),ajJ]
     exact bv (i+1) _ _ _ (by omega) (by omega)
   ·obtain rfl:i=r.bi.length:=by omega
    simp only [Nat.lt_irrefl,aju,ajw,List.drop_length,oV]
 exact key n 0 0 0 [] (by omega) (by omega)
end
def ahh{r:Row}{f l:Int}(h:lQ r f l=true)(ah:r.bi.length≤1000000000):BD r.bi:=by
 unfold lQ at h;rw [Bool.and_eq_true,t6]at h
 have ai:∀i,i+1<r.bi.length→(r.bi.getD i default).bH<(r.bi.getD (i+1) default).bH:=λi hi=>by
  have ay:=h.2 (i+1) hi;unfold rU at ay;rw [afH i (by omega),show decide (0<((i+1:Nat):Int))=true from decide_eq_true (by omega)]at ay
  simp only [Bool.and_eq_true,Bool.true_and,Bool.not_eq_true',Bool.or_eq_false_iff,decide_eq_false_iff_not]at ay;have:=ay.2.1
  omega
 have key:∀l:List Version,(∀i,i+1<l.length→(l.getD i default).bH<(l.getD (i+1) default).bH)→BD l:=by
  intro l;induction l with
  |nil=>intro _;trivial
  |cons v l bv=>
   intro h;have i2:=bv λi hi=>by have:=h (i+1) (by simpa using hi);simpa using this
   refine⟨λw hw=>?_,i2⟩
   cases l with
   |nil=>simp at hw
   |cons x l=>
    have h0:v.bH<x.bH:=by simpa using h 0 (by simp)
    rcases List.mem_cons.1 hw with rfl|hw
    ·exact h0
    ·have:=i2.1 w hw;omega
 exact key _ ai
def ahi{n:Nat}{a f l:Int}{r:Row}(h:lQ r f l=true)(ah:r.bi.length<n)(hb:r.bi.length≤1000000000)(b5:n≤9223372036854775808):v_ n r a=some (lR a r):=by
 rw [ahg ah b5,Wz (ahh h hb)];unfold lR;rfl
open Go Go.Ab Go.Proofs
def J9{a:Int}:∀(l:List Row) (p:aI),p∈lj a l→∃r∈l,p=⟨r.Key,lR a r⟩∧(lR a r).Kind≠0
 |[],p,h=>by simp [lj]at h
 |r::l,p,h=>by
  unfold lj at h;by_cases k:(lR a r).Kind=0
  ·rw [if_pos k]at h;obtain⟨x,hx,e⟩:=J9 l p h;exact⟨x,by simp [hx],e⟩
  ·rw [if_neg k]at h;rcases List.mem_cons.1 h with rfl|h
   ·exact⟨r,by simp,rfl,k⟩
   ·obtain⟨x,hx,e⟩:=J9 l p h;exact⟨x,by simp [hx],e⟩
def J'{a:Int}:∀l:List Row,(lj a l).length≤l.length
 |[]=>Nat.le_refl _
 |r::l=>by
  have:=J' (a:=a) l
  unfold lj;split
  ·simp only [ajz];omega
  ·simp only [ajz];omega
def ahj{s:ao}(hs:jk s=true)(a:Int)(i:Nat)(hi:i<s.Rows.length):kE (s.Rows.getD i default).Key=true∧lO (lR a (s.Rows.getD i default))=true:=by
 unfold jk at hs;rw [Bool.and_eq_true,t6]at hs;have ab:=hs.2 i hi;simp only [Bool.and_eq_true]at ab;refine⟨ab.1.1,?_⟩
 have ai:=ab.2;unfold lQ at ai;rw [Bool.and_eq_true,t6]at ai;have hle:=J8 a (s.Rows.getD i default).bi;unfold lR;by_cases h0:hA a (s.Rows.getD i default).bi=0
 ·rw [if_pos h0];rfl
 ·rw [if_neg h0];have bQ:=ai.2 (hA a (s.Rows.getD i default).bi-1) (by omega)
  unfold rU at bQ;simp only [Bool.and_eq_true]at bQ;exact bQ.1.2
def fH(s:ao)(a:Int):List aI×Int:=bif !jk s then([],1)else bif (decide (a<s.bm)||decide (s.bk<a)) then([],15) else(lj a s.Rows,0)
section
variable {n:Nat} {s:ao} (hn:2000≤n) (b5:n≤9223372036854775808) (h:p1 n s) (ah:s.Rows.length≤1000)
include hn b5 h ah
theorem ahk(a:Int):vr n s a=some (fH s a):=by
 have key:∀m i acc,s.Rows.length<m+i→i≤s.Rows.length→acc.length≤i→vq n a s m (i:Int) acc=some (acc++lj a (s.Rows.drop i),0):=by
  intro m;induction m with
  |zero=>intro i acc ab ai;omega
  |succ m bv=>
   intro i acc ab ai ay;simp only [vq,Ek,ajC];by_cases hi:i<s.Rows.length
   ·simp only [hi,eo hi,ajB,ajt,ajv,dy];rw [ahf (h.row i).xm b5,c_,mq s.Rows i default hi,lj];by_cases k:(lR a (s.Rows.getD i default)).Kind=0
    ·simp only [k,ajt,ajx,ajw,vp,fy (show i≤9223372036854775806 by omega),ajI]
     exact bv (i+1) _ (by omega) (by omega) (by omega)
    ·simp only [k,aju,ajy,ajv,ajE,vp,fy (show i≤9223372036854775806 by omega),lP (show(acc.length+1)*48≤140737488355328 by omega),dy,ajJ]
     rw [bv (i+1) _ (by omega) (by omega) (by rw [ajD,ajE];omega)]
     simp
   ·obtain rfl:i=s.Rows.length:=by omega
    simp only [Nat.lt_irrefl,aju,ajw,Ej,pU s.Rows _ hi,lj,List.append_nil]
 unfold vr Ef fH;rw [VJ hn b5 h,c_];cases jk s
 ·rfl
 ·simp only [ajx,ajw,ig];cases decide (a<s.bm)||decide (s.bk<a)
  ·simp only [ajw,c_,ajt,ajx];exact key n 0 [] (by omega) (by omega) (by simp)
  ·rfl
theorem ahl(hb:∀i,i<s.Rows.length→(s.Rows.getD i default).bi.length≤1000000000)(a:Int):wh n s a=some (fH s a):=by
 unfold wh HE fH;rw [VK hn b5 h,c_];cases hs:jk s
 ·rfl
 ·have ahm:∀i,i<s.Rows.length→lQ (s.Rows.getD i default) s.bm s.bk=true:=λi hi=>by
   have h0:=hs;unfold jk at h0;rw [Bool.and_eq_true,t6]at h0;have ab:=h0.2 i hi;rw [Bool.and_eq_true]at ab;exact ab.2
  have key:∀m i acc,s.Rows.length<m+i→i≤s.Rows.length→acc.length≤i→tv n a s m acc (i:Int)=some (acc++lj a (s.Rows.drop i)):=by
   intro m;induction m with
   |zero=>intro i acc ab ai;omega
   |succ m bv=>
    intro i acc ab ai ay;simp only [tv,HD,ajC];by_cases hi:i<s.Rows.length
    ·simp only [hi,eo hi,ajB,ajt,ajv,dy];rw [ahi (ahm i hi) (h.row i).xm (hb i hi) b5,c_,mq s.Rows i default hi,lj];by_cases k:(lR a (s.Rows.getD i default)).Kind=0
     ·simp only [k,ajt,ajx,ajw,wg,fy (show i≤9223372036854775806 by omega),ajI]
      exact bv (i+1) _ (by omega) (by omega) (by omega)
     ·simp only [k,aju,ajy,ajv,ajE,wg,fy (show i≤9223372036854775806 by omega),lP (show(acc.length+1)*48≤140737488355328 by omega),dy,ajJ]
      rw [bv (i+1) _ (by omega) (by omega) (by rw [ajD,ajE];omega)]
      simp
    ·obtain rfl:i=s.Rows.length:=by omega
     simp only [Nat.lt_irrefl,aju,ajw,HC,pU s.Rows _ hi,lj,List.append_nil]
  simp only [ajx,ajw,ig];cases decide (a<s.bm)||decide (s.bk<a)
  ·simp only [ajw];rw [show tv n a s n [] 0=_ from key n 0 [] (by omega) (by omega) (by simp),c_]
   rfl
  ·rfl
end
end Go.Ab.Y

/- The plain law: what the functions compute answers as the statement says. -/
import Derived.Lib.ItoaNum
import Derived.Lib.ItoaLen
import Derived.Test.YtcjbfnojhpfchaaGreatDoorCtrB
set_option linter.all false
namespace Go.Ab.Y
open Go Go.Ab Go.Proofs
def aeQ{h:Decidable True}:@decide True h=true:=_root_.decide_true h
def aeR{h:Decidable False}:@decide False h=false:=_root_.decide_false h
def aeY:(∀n:Nat,(n:Int).toNat=n)∧∀(α:Type)(_:Inhabited α)(l:List α)(n:Nat),ae' l n=l.getD n default:=⟨λ_=>rfl,λ_ _ _ _=>rfl⟩
def aeS{α:Type}{a b:α}:cond true a b=a:=rfl
def aeT{α:Type}{a b:α}:cond false a b=b:=rfl
def aeU:(!true)=false:=rfl
def aeV:(!false)=true:=rfl
def aeW{α:Type}{a:α}{l:List α}:(a::l).length=l.length+1:=rfl
def aeX{α:Type}:([]:List α).length=0:=rfl
def aeZ{a b:Nat}:((a:Int)<b)↔a<b:=_root_.Int.ofNat_lt
def ae0{α:Type}{a b:List α}:(a++b).length=a.length+b.length:=_root_.List.length_append
def ae1{α:Type}{a:α}:[a].length=1:=rfl
def ae2{α:Type}{b:Bool}{x y:α}:cond b x y=if b then x else y:=_root_.Bool.cond_eq_ite b x y
def ae3(a:Int):¬a<a:=_root_.Int.lt_irrefl a
def ae4(a:Bool):(a||true)=true:=_root_.Bool.or_true a
def ae5{α:Type}{a b:α}{h:Decidable True}:@ite α True h a b=a:=_root_.if_true a b
def ae6{α:Type}{a b:α}{h:Decidable False}:@ite α False h a b=b:=_root_.if_false a b
def wr{x:Int}(Z : -9223372036854775808≤x)(ad:x≤9223372036854775807):ae9 x=x:=by(try unfold ae9);rw [IntKind.wrap_i64];omega
def df{i:Nat}(h:i≤4611686018427387904):ae9 ((i:Int)+1)=((i+1:Nat):Int):=by rw [wr]<;>omega
def cX{i n:Nat}(h:i<n):a_ (i:Int) n=true:=by simp [a_];omega
def uF{n:Nat}(h:0<n):a_ 0 n=true:=by simp [a_];omega
def QA{i n:Nat}(h:i≤n):gh (i:Int) n=true:=by simp [gh];omega
@[simp] def bK {α : Type} (x : Option α) : aI true x = x := rfl
def iP{α:Type}(l:List α)(i:Nat)(d:α)(h:i<l.length):l.drop i=l.getD i d::l.drop (i+1):=by
 rw [List.drop_eq_getElem_cons h];simp [List.getD,h]
def kv{α:Type}(l:List α)(i:Nat)(h:¬ i<l.length):l.drop i=[]:=List.drop_of_length_le (by omega)
def xW(a k:Nat):((a:Int)<(no_index (OfNat.ofNat k):Int))↔a<k:=Int.ofNat_lt
def kW(a k:Nat):((a:Int)≤(no_index (OfNat.ofNat k):Int))↔a≤k:=Int.ofNat_le
def f'(a k:Nat):((no_index (OfNat.ofNat k):Int)<(a:Int))↔k<a:=Int.ofNat_lt
def sj(a k:Nat):((no_index (OfNat.ofNat k):Int)≤(a:Int))↔k≤a:=Int.ofNat_le
def l'(a k:Nat):((a:Int)=(no_index (OfNat.ofNat k):Int))↔a=k:=Int.ofNat_inj
def fE(a b:Bool):(bif a then true else b)=(a||b):=by cases a<;>rfl
def gx(a b:Bool):(bif a then b else false)=(a&&b):=by cases a<;>rfl
def aP{α β:Type}(a:α)(f:α→Option β):Option.bind (some a) f=f a:=rfl
def okB(c:UInt8):Bool:=decide (32≤c.toNat)&&decide (c.toNat≤126)
def kw(s:ae7):Bool:=s.all okB&&decide (s.length≤64)
def Iz(c:UInt8):(decide (c.toNat<32)||decide (126<c.toNat)) = !okB c:=by
 unfold okB;by_cases h:c.toNat<32
 ·simp [h]
 ·by_cases ad:c.toNat≤126
  ·simp [ad,show 32≤c.toNat by omega,h]
  ·simp [ad];omega
def Zg(n:Nat)(s:ae7)(hs:s.length≤4611686018427387904):∀m i,s.length<i+m→i≤s.length→tM n s m (i:Int)=some ((s.drop i).all okB&&decide (s.length≤64)):=by
 intro m;induction m with
 |zero=>intro i h ad;omega
 |succ m a'=>
  intro i hm hi;simp only [tM,Fo,Fn];by_cases h:i<s.length
  ·rw [iP s i 0 h,df (by omega),a' (i+1) (by omega) (by omega)]
   simp only [h,cX h,aeY,aeZ,aeQ,aeS,bK,ae4,List.all_cons,xW,f',fE,Iz];cases okB (s.getD i 0)<;>simp
  ·rw [kv s i h];simp [h,kW]
def QB{n:Nat}{s:ae7}(h:s.length<n)(hs:s.length≤4611686018427387904):Fp n s=some (kw s):=Zg n s hs n 0 (by omega) (by omega)
def Zh(n:Nat)(s:ae7)(hs:s.length≤4611686018427387904):∀m i,s.length<i+m→i≤s.length→Bm n s m (i:Int)=some ((s.drop i).all okB):=by
 intro m;induction m with
 |zero=>intro i h ad;omega
 |succ m a'=>
  intro i hm hi;simp only [Bm,Pg,Pf];by_cases h:i<s.length
  ·rw [iP s i 0 h,df (by omega),a' (i+1) (by omega) (by omega)]
   simp only [h,cX h,aeY,aeZ,aeQ,aeS,bK,ae4,List.all_cons,xW,f',fE,Iz];cases okB (s.getD i 0)<;>simp
  ·rw [kv s i h];simp [h,kW]
def Zi{n:Nat}{s:ae7}(h:s.length<n)(hs:s.length≤4611686018427387904):HQ n s=some (kw s):=by
 unfold HQ;rw [show(0:Int)=((0:Nat):Int)from rfl,Zh n s hs n 0 (by omega) (by omega)]
 unfold kw;simp only [List.drop_zero,f'];by_cases h:64<s.length
 ·simp [h]
 ·simp [h];omega
def qh:List ae7:=[[112,114,111,99],[108,101,116],[112,117,116],[100,101,108,101,116,101],[105,102],[101,108,115,101],[102,111,114],[116,111],[109,97,120],[101,109,105,116],[97,98,111,114,116],[110,111,116],[97,110,100],[111,114],[105,110,116],[115,116,114],[98,111,111,108],[116,101,120,116],[108,101,110],[103,101,116,105,110,116],[103,101,116,115,116,114],[104,97,115],[110,111,119],[114,97,110,100,111,109],[110,111,100,101]]
def xX(s:ae7):Bool:=decide (s∈qh)
def Zj(n:Nat)(s:ae7):wx n s=some (xX s):=by
 unfold xX;by_cases h:s∈qh
 ·simp only [h,aeQ];simp only [qh,List.mem_cons,List.not_mem_nil,or_false]at h;rcases h with rfl|rfl|rfl|rfl|rfl|rfl|rfl|rfl|rfl|rfl|rfl|rfl|rfl|rfl|rfl|rfl|rfl|rfl|rfl|rfl|rfl|rfl|rfl|rfl|rfl<;>rfl
 ·simp only [h,aeR];simp only [qh,List.mem_cons,List.not_mem_nil,or_false,not_or]at h;simp only [wx,gD,E0,h,aeR,aeT]
def Zk(n:Nat)(l:List ae7)(s:ae7)(hs:l.length≤4611686018427387904):∀m i,l.length<i+m→i≤l.length→Bi n l s m (i:Int)=some (decide (s∈l.drop i)):=by
 intro m;induction m with
 |zero=>intro i h ad;omega
 |succ m a'=>
  intro i hm hi;simp only [Bi,O',O9];by_cases h:i<l.length
  ·rw [iP l i default h,df (by omega),a' (i+1) (by omega) (by omega)]
   simp only [h,cX h,aeY,aeZ,aeQ,aeS,bK,List.mem_cons];by_cases he:l.getD i default=s
   ·simp only [he,aeQ,aeS,true_or]
   ·simp only [he,aeR,aeT,show¬ s=l.getD i default from λx=>he x.symm,false_or]
  ·rw [kv l i h];simp [h]
def Zl(n:Nat):O8 n=some qh:=rfl
def Zm{n:Nat}(l:List ae7)(s:ae7)(h:l.length<n)(hs:l.length≤4611686018427387904):O_ n l s=some (decide (s∈l)):=Zk n l s hs n 0 (by omega) (by omega)
def Zn{n:Nat}(s:ae7)(h:25<n):HN n s=some (xX s):=by
 unfold HN;simp only [Zl,aP];rw [Zm qh s (by show 25<_;omega) (by decide)]
 rfl
def o7(c:UInt8):Bool:=decide (97≤c.toNat)&&decide (c.toNat≤122)
def QC(n:Nat)(c:UInt8):Bj n ((c.toNat:Nat):Int)=some (o7 c):=by
 simp only [Bj,gx,sj,kW,o7]
def Zo{x:Nat}(h:x<256):IntKind.i32.wrap (x:Int)=x:=by rw [IntKind.wrap_i32];omega
def Zp(n:Nat)(c:UInt8):wy n (IntKind.i32.wrap ((c.toNat:Nat):Int))=some (o7 c):=by
 rw [Zo c.toNat_lt];simp only [wy,gx,sj,kW,o7]
def Zq(n:Nat)(c:UInt8):HO n ((c.toNat:Nat):Int)=some (lk c):=by
 simp only [HO,QC,aP,Pa,gx,fE,sj,kW,l'];unfold lk o7;by_cases h:97≤c.toNat∧c.toNat≤122
 ·simp [h.1,h.2]
 ·have:(decide (97≤c.toNat)&&decide (c.toNat≤122))=false:=by simpa using h
  rw [this];simp only [aeV,aeS,aP,Bool.false_or,h,false_or,Bool.decide_or,Bool.decide_and]
def QD(c:UInt8)(s:ae7):kN (c::s)=bif lk c then kN s+1 else 0:=by
 unfold kN;cases h:lk c<;>simp [List.takeWhile,h]
def Zr(n:Nat)(s:ae7)(hs:s.length≤4611686018427387904):∀m i,s.length<i+m→i≤s.length→Bk n s m (i:Int)=some (((i+kN (s.drop i):Nat):Int)):=by
 intro m;induction m with
 |zero=>intro i h ad;omega
 |succ m a'=>
  intro i hm hi;simp only [Bk,Pc,Pb];by_cases h:i<s.length
  ·rw [iP s i 0 h,df (by omega),a' (i+1) (by omega) (by omega)]
   simp only [h,cX h,aeY,aeZ,aeQ,aeS,bK,ae4,Zq,aP,QD];cases lk (s.getD i 0)
   ·rfl
   ·simp only [aeS,Option.some.injEq];omega
  ·rw [kv s i h];simp [h,kN]
def Zs{n:Nat}{s:ae7}(i:Nat)(h:s.length<n)(hi:i≤s.length)(hs:s.length≤4611686018427387904):Pd n s (i:Int)=some (((i+kN (s.drop i):Nat):Int)):=Zr n s hs n i (by omega) hi
def gy(s:ae7):Bool:=
 match s with
 |[]=>false
 |c::l=>decide (l.length≤15)&&o7 c&&decide (kN (c::l)=l.length+1) && !xX (c::l)
def Zt{n:Nat}(s:ae7)(h:s.length<n)(ad:25<n)(hs:s.length≤4611686018427387904):HP n s=some (gy s):=by
 unfold HP;cases s with
 |nil=>rfl
 |cons c l=>
  simp only [Zn _ ad,gx,sj,kW,aeW,show 1≤l.length+1 by omega,aeQ,Bool.true_and,uF (show 0<l.length+1 by omega),ae4,bK,List.getD_cons_zero,QC]
  rw [show(0:Int)=((0:Nat):Int)from rfl,Zs 0 h (by omega) hs]
  simp only [List.drop_zero,Nat.zero_add,gy,Int.ofNat_inj,show(l.length+1≤16)=(l.length≤15)by rw [eq_iff_iff];omega]
  cases decide (l.length≤15)<;>simp only [Bool.false_and,aeT,aP,Bool.true_and,aeS]
  cases o7 c<;>simp only [Bool.false_and,aeT,aP,Bool.true_and,aeS,Int.ofNat_inj]
  cases decide (kN (c::l)=l.length+1)<;>simp only [Bool.false_and,aeT,aP,Bool.true_and,aeS]
def Zu(n:Nat)(s:ae7)(h:s.length≤140737488351232):tw n s=some ((kN s:Nat):Int):=by
 unfold tw;simp only [h,aeQ,bK]
def xY(n:Nat)(s:ae7)(h:s.length≤140737488351232):o1 n s=some (gy s):=by
 unfold o1;cases s with
 |nil=>rfl
 |cons c l=>
  simp only [Zj,gx,sj,kW,aeW,reduceCtorEq,aeR,aeV,Bool.true_and,uF (show 0<l.length+1 by omega),ae4,bK,List.getD_cons_zero,Zp,Zu _ _ h]
  simp only [gy,Int.ofNat_inj,show(l.length+1≤16)=(l.length≤15)by rw [eq_iff_iff];omega]
  cases decide (l.length≤15)<;>simp only [Bool.false_and,aeT,aP,Bool.true_and,aeS]
  cases o7 c<;>simp only [Bool.false_and,aeT,aP,Bool.true_and,aeS,Int.ofNat_inj]
  cases decide (kN (c::l)=l.length+1)<;>simp only [Bool.false_and,aeT,aP,Bool.true_and,aeS]
def hW(op:Int):Int:=bif decide (op<1)||decide (27<op)then -1 else bif decide (op≤3)||decide (25≤op)then 0 else bif decide (op=9)||decide (op=18)||decide (20≤op)then 1 else 2
def Zv(n:Nat)(op:Int):Ac n op=some (hW op):=by
 simp only [Ac,hW,fE];cases decide (op<1)||decide (27<op)<;>simp only [aeS,aeT]
 cases decide (op≤3)||decide (25≤op)<;>simp only [aeS,aeT]
 cases decide (op=9)||decide (op=18)||decide (20≤op)<;>rfl
def Zw(n:Nat)(op:Int):Bl n op=some (hW op):=by
 by_cases h:1≤op∧op≤27
 ·obtain rfl|rfl|rfl|rfl|rfl|rfl|rfl|rfl|rfl|rfl|rfl|rfl|rfl|rfl|rfl|rfl|rfl|rfl|rfl|rfl|rfl|rfl|rfl|rfl|rfl|rfl|rfl:op=1∨op=2∨op=3∨op=4∨op=5∨op=6∨op=7∨op=8∨op=9∨op=10∨op=11∨op=12∨op=13∨op=14∨op=15∨op=16∨op=17∨op=18∨op=19∨op=20∨op=21∨op=22∨op=23∨op=24∨op=25∨op=26∨op=27:=by omega
  all_goals rfl
 ·have ha:hW op = -1:=by
   unfold hW;by_cases Z:op<1
   ·simp [Z]
   ·simp [show 27<op by omega]
  have hb:(decide (4≤op)&&decide (op≤19))=false:=by
   by_cases Z:4≤op
   ·simp [Z];omega
   ·simp [Z]
  simp only [Bl,r7,p7,Pe,gx,hb,ha,show¬ op=1 by omega,show¬ op=2 by omega,show¬ op=3 by omega,show¬ op=25 by omega,show¬ op=26 by omega,show¬ op=27 by omega,show¬ op=9 by omega,show¬ op=18 by omega,show¬ op=20 by omega,show¬ op=21 by omega,show¬ op=22 by omega,show¬ op=23 by omega,show¬ op=24 by omega,aeR,aeT]
def mF(e:Expr)(depth:Int):Int:=
 if hW e.Op<0∨(e.Op≠1∧e.N≠0)∨(e.Op≠2∧e.Op≠3∧e.S≠[])then 1
 else if e.Op=3∧gy e.S=false then 7
 else if e.N<0∨(e.Op=2∧kw e.S=false)∨(e.aw.length:Int)≠hW e.Op then 1
 else if 12<depth then 2 else 0
def Zx{n:Nat}(e:Expr)(depth:Int)(h:e.S.length<n)(hs:e.S.length≤140737488351232):Ad n e depth=some (mF e depth):=by
 obtain⟨Op,N,S,aw⟩:=e;simp only at h hs
 simp only [Ad,Zv,aP,xY _ _ hs,QB h (by omega),mF]
 by_cases Z:hW Op<0
 ·simp [Z]
 by_cases ad:Op=1
 ·subst ad;by_cases a6:S=[]
  ·by_cases bT:N<0
   ·simp [Z,a6,bT]
   ·by_cases cI:(aw.length:Int)=hW 1
    ·by_cases dO:12<depth<;>simp [Z,a6,bT,cI,dO]
    ·simp [Z,a6,bT,cI]
  ·simp [Z,a6]
 ·by_cases al:N=0
  ·by_cases aH:Op=3
   ·subst aH;cases hn:gy S
    ·simp [Z,al,hn]
    ·by_cases cI:(aw.length:Int)=hW 3
     ·by_cases dO:12<depth<;>simp [Z,al,hn,cI,dO]
     ·simp [Z,al,hn,cI]
   ·by_cases a6:Op=2
    ·subst a6;cases hn:kw S
     ·simp [Z,al,hn]
     ·by_cases cI:(aw.length:Int)=hW 2
      ·by_cases dO:12<depth<;>simp [Z,al,hn,cI,dO]
      ·simp [Z,al,hn,cI]
    ·by_cases bT:S=[]
     ·by_cases cI:(aw.length:Int)=hW Op
      ·by_cases dO:12<depth<;>simp [Z,ad,al,aH,a6,bT,cI,dO]
      ·simp [Z,ad,al,aH,a6,bT,cI]
     ·simp [Z,ad,al,aH,a6,bT]
  ·simp [Z,ad,al]
def Zy{n:Nat}(e:Expr)(depth:Int)(h:e.S.length<n)(ad:25<n)(hs:e.S.length≤140737488351232):HR n e depth=some (mF e depth):=by
 obtain⟨Op,N,S,aw⟩:=e;simp only at h hs
 simp only [HR,Zw,aP,Zt S h ad (by omega),Zi h (by omega),mF]
 clear ad;by_cases Z:hW Op<0
 ·simp [Z]
 by_cases ad:Op=1
 ·subst ad;by_cases a6:S=[]
  ·by_cases bT:N<0
   ·simp [Z,a6,bT]
   ·by_cases cI:(aw.length:Int)=hW 1
    ·by_cases dO:12<depth<;>simp [Z,a6,bT,cI,dO]
    ·simp [Z,a6,bT,cI]
  ·simp [Z,a6]
 ·by_cases al:N=0
  ·by_cases aH:Op=3
   ·subst aH;cases hn:gy S
    ·simp [Z,al,hn]
    ·by_cases cI:(aw.length:Int)=hW 3
     ·by_cases dO:12<depth<;>simp [Z,al,hn,cI,dO]
     ·simp [Z,al,hn,cI]
   ·by_cases a6:Op=2
    ·subst a6;cases hn:kw S
     ·simp [Z,al,hn]
     ·by_cases cI:(aw.length:Int)=hW 2
      ·by_cases dO:12<depth<;>simp [Z,al,hn,cI,dO]
      ·simp [Z,al,hn,cI]
    ·by_cases bT:S=[]
     ·by_cases cI:(aw.length:Int)=hW Op
      ·by_cases dO:12<depth<;>simp [Z,ad,al,aH,a6,bT,cI,dO]
      ·simp [Z,ad,al,aH,a6,bT,cI]
     ·simp [Z,ad,al,aH,a6,bT]
  ·simp [Z,ad,al]
mutual
def dI:Expr→Nat
 |⟨_,_,S,aw⟩=>30+S.length+lC aw
def lC:List Expr→Nat
 |[]=>0
 |x::l=>dI x+1+lC l
end
def uG(e:Expr):dI e=30+e.S.length+lC e.aw:=by cases e;rfl
def IA:∀l:List Expr,l.length≤lC l
 |[]=>Nat.le_refl _
 |x::l=>by have:=IA l;simp only [lC,aeW];omega
def IB:∀(l:List Expr) (i:Nat),i<l.length→dI (l.getD i default)<lC l
 |[],i,h=>by simp at h
 |x::l,0,h=>by simp only [lC,List.getD_cons_zero];omega
 |x::l,i+1,h=>by have:=IB l i (by simpa using h);simp only [lC,List.getD_cons_succ];omega
open Go Go.Ab Go.Proofs
def val(u:Nat)(l:ae7):Nat:=l.foldl (λu c=>u*10+(c.toNat-48)) u
open Go Go.Ab Go.Proofs
open Go Go.Ab Go.Proofs
def up(k:Nat):Int ⊕ (ae7×Nat)→Int ⊕ (ae7×Nat)
 |.inl e=>.inl e
 |.inr p=>.inr (p.1,p.2+k)
def e4(l:ae7):List Int:=l.map λc=>((c.toNat:Nat):Int)
def QE(l:ae7):jv (e4 l)=l:=by
 unfold jv e4;rw [List.map_map]
 conv=>rhs;rw [←List.map_id l]
 refine List.map_congr_left λc _=>?_
 simp
def QF(l:ae7):mv (e4 l)=true:=by
 unfold mv e4;rw [List.all_eq_true];intro x hx;obtain⟨c,_,rfl⟩:=List.mem_map.1 hx;have:=c.toNat_lt
 simp only [Bool.and_eq_true,decide_eq_true_eq];omega
def QG(l:ae7):(e4 l).length=l.length:=by simp [e4]
def Zz(l:ae7)(c:UInt8):e4 l++[((c.toNat:Nat):Int)]=e4 (l++[c]):=by simp [e4]
def ZA{k:Nat}(h:k≤9223372036854775807):ew k=true:=by simp [ew];omega
open Go Go.Ab Go.Proofs
def two:List ae7:=[[61,61],[33,61],[60,61],[62,61],[43,43]]
def ZB:ae7:=[40,41,123,125,44,59,58,61,60,62,43,45,42,47,37]
def marks:List ae7:=two++ZB.map λc=>[c]
open Go Go.Ab Go.Proofs
open Go Go.Ab Go.Proofs
def fd(s:ae7)(i:Nat):Nat:=(s.take i).count 10
open Go Go.Ab Go.Proofs
open Go Go.Ab Go.Proofs
def iQ(l:List Token)(i:Nat)(w:ae7):Bool:=
 decide (i<l.length)&&((decide ((l.getD i default).Kind=2)||decide ((l.getD i default).Kind=5))&&decide ((l.getD i default).Text=w))
def QH{l:List Token}{i:Nat}{w:ae7}(h:iQ l i w=true):i<l.length:=by
 unfold iQ at h;simp only [Bool.and_eq_true,decide_eq_true_eq]at h;exact h.1
def ZC(n:Nat)(l:List Token)(i:Nat)(w:ae7):p5 n w ⟨l,(i:Int)⟩=some (iQ l i w):=by
 unfold p5 iQ;simp only [aeY,Int.ofNat_le,fE,gx];by_cases h:i<l.length
 ·simp only [show¬ l.length≤i by omega,aeR,aeT,cX h,bK,h,aeQ,Bool.true_and]
 ·simp only [show l.length≤i by omega,aeQ,aeS,h,aeR,Bool.false_and]
def QI(l:List Token)(i:Nat):Int:=
 if i<l.length then(l.getD i default).kO else if l.length=0 then 1 else(l.getD (l.length-1) default).kO
def s3(l:List Token)(i:Nat)(c:Int):V:=.iface 332 (.agg [.int .i64 (QI l i),.int .i64 c])
def B4(l:List Token)(i:Nat)(c:Int):Int:=if i<l.length then c else 6
def QJ(n:Nat)(l:List Token)(i:Nat)(c:Int)(ab:l.length≤4611686018427387904):o4 n c ⟨l,(i:Int)⟩=some (.aW (s3 l i (B4 l i c)) ()):=by
 unfold o4 GS GR s3 QI B4;simp only [aeY,aeZ];by_cases h:i<l.length
 ·simp only [h,cX h,aeQ,aeS,bK,ae5]
 ·simp only [h,aeR,aeT,ae6];by_cases h0:l.length=0
  ·simp only [h0,ae5];rfl
  ·have:ae9 (((l.length:Nat):Int)-1)=((l.length-1:Nat):Int):=by rw [wr]<;>omega
   rw [this];simp only [l',h0,aeR,aeT,cX (show l.length-1<l.length by omega),bK,aeY,ae6]
def ZD(n:Nat)(l:List Token)(i:Nat)(w:ae7)(hi:i≤4611686018427387904):jz n w ⟨l,(i:Int)⟩=some (iQ l i w,(((bif iQ l i w then i+1 else i):Nat):Int)):=by
 unfold jz;rw [ZC,aP,df hi];cases iQ l i w<;>rfl
def QK(n:Nat)(l:List Token)(i:Nat)(w:ae7)(hi:i≤4611686018427387904)(ab:l.length≤4611686018427387904):
 jc n w ⟨l,(i:Int)⟩=some (bif iQ l i w then .ret () ((i+1:Nat):Int)else .aW (s3 l i (B4 l i 5)) (i:Int)):=by
 unfold jc;rw [ZD n l i w hi,aP];cases iQ l i w
 ·simp only [aeV,aeS,aeT];rw [QJ n l i 5 ab,aP];rfl
 ·rfl
def ZE:List (ae7×Int×Int):=[([111,114],1,17),([97,110,100],2,16),([61,61],4,10),([33,61],4,11),([60],4,12),([60,61],4,13),([62],4,14),([62,61],4,15),([43,43],5,19),([43],6,4),([45],6,5),([42],7,6),([47],7,7),([37],7,8)]
def ZF:Option (ae7×Int×Int)→Int×Int
 |none=>(0,0)
 |some r=>r.2
def QL{l:List Token}{i:Nat}(h:i<l.length)(hk:(l.getD i default).Kind=2∨(l.getD i default).Kind=5)(w:ae7):iQ l i w=decide ((l.getD i default).Text=w):=by
 unfold iQ;have:(decide ((l.getD i default).Kind=2)||decide ((l.getD i default).Kind=5))=true:=by rcases hk with hk|hk<;>rw [decide_eq_true hk]<;>simp
 rw [this,decide_eq_true h];rfl
def QM{l:List Token}{i:Nat}(h:¬ (i<l.length∧((l.getD i default).Kind=2∨(l.getD i default).Kind=5)))(w:ae7):iQ l i w=false:=by
 unfold iQ;by_cases Z:i<l.length
 ·by_cases ad:(l.getD i default).Kind=2
  ·exact absurd ⟨Z,Or.inl ad⟩ h
  ·by_cases al:(l.getD i default).Kind=5
   ·exact absurd ⟨Z,Or.inr al⟩ h
   ·rw [decide_eq_false ad,decide_eq_false al];simp
 ·rw [decide_eq_false Z];rfl
open Go Go.Ab Go.Proofs
def oc:List (ae7×Int):=[([116,101,120,116],20),([108,101,110],21),([103,101,116,105,110,116],22),([103,101,116,115,116,114],23),([104,97,115],24),([110,111,119],25),([114,97,110,100,111,109],26),([110,111,100,101],27)]
def call2:Option (ae7×Int)→Int
 |none=>0
 |some r=>r.2
def B5(l:List Token)(i:Nat):Int:=call2 (oc.find? λr=>iQ l i r.1)
def QN(l:List Token):Prop:=∀t,t∈l→t.Kind=5→t.Text∈marks
def ZG(n:Nat)(l:List Token)(i:Nat)(hg:QN l):A6 n ⟨l,(i:Int)⟩=some (B5 l i):=by
 unfold A6 B5
 (simp only [aeY])
 simp only [Int.ofNat_le,fE];by_cases h:i<l.length
 ·simp only [show¬ l.length≤i by omega,aeR,Bool.false_or,cX h,bK]
  by_cases hk:(l.getD i default).Kind=2
  ·simp only [hk,aeQ,aeU,aeT,QL h (Or.inl hk)];generalize (l.getD i default).Text=w
   by_cases hw:w∈oc.map (·.1)
   ·simp only [oc,List.map_cons,List.map_nil,List.mem_cons,List.not_mem_nil,or_false]at hw;rcases hw with rfl|rfl|rfl|rfl|rfl|rfl|rfl|rfl<;>rfl
   ·simp only [oc,List.map_cons,List.map_nil,List.mem_cons,List.not_mem_nil,or_false,not_or]at hw;simp only [hw,aeR,aeT,oc,List.find?_cons,List.find?_nil];rfl
  ·simp only [hk,aeR,aeV,aeS];by_cases a6:(l.getD i default).Kind=5
   ·have hm:(l.getD i default).Text∈marks:=hg _ (by simp [List.getD,h]) a6
    simp only [QL h (Or.inr a6)];generalize (l.getD i default).Text=w at hm
    have:∀w,w∈marks→oc.find? (λr=>decide (w=r.1))=none:=by decide
    rw [this w hm];rfl
   ·have:∀w,iQ l i w=false:=QM (λx=>by rcases x.2 with e|e;exact hk e;exact a6 e)
    simp only [this,oc,List.find?_cons,List.find?_nil];rfl
 ·simp only [show l.length≤i by omega,aeQ,Bool.true_or,bK,aeS,QM (λx=>h x.1),oc,List.find?_cons,List.find?_nil]
  rfl
def ZH(n:Nat)(l:List Token)(i d:Nat)(ab:l.length≤4611686018427387904)(hd:d≤24):uh n (d:Int) ⟨l,(i:Int)⟩=some (if d=24 then .aW (s3 l i (B4 l i 2)) ()else .ret ((d+1:Nat):Int) ()):=by
 unfold uh A5;simp only [sj];by_cases h:d=24
 ·simp only [show 24≤d by omega,aeQ,aeS,QJ n l i 2 ab,aP,h,ae5];rfl
 ·simp only [show¬ 24≤d by omega,aeR,aeT,h,ae6]
  rw [df (by omega)]
open Go Go.Ab Go.Proofs
def ZI(n:Nat):r2 (n+1)=A7 n (kq n) (A9 n) (r2 n) (ui n):=rfl
def ZJ(n:Nat):ui (n+1)=A8 n (kq n) (A9 n) (r2 n) (ui n):=rfl
section
variable {l:List Token}
theorem ZK{i:Nat}(h:i≤1000000000):ae9 (((i+1:Nat):Int)-1)=(i:Int):=by rw [wr]<;>omega
end
open Go Go.Ab Go.Proofs
def l_(e:Expr):(⟨e.Op,e.N,e.S,e.aw⟩:Expr)=e:=by cases e;rfl
section
variable {l:List Token}
end
open Go Go.Ab Go.Proofs
open Go Go.Ab Go.Proofs
section
variable {α:Type} {wt:α→Nat} {l:List Token}
end
mutual
def fst:Stmt→Nat
 |⟨_,Name,_,A,B,Body,bR⟩=>80+Name.length+dI A+dI B+eS Body+eS bR
def eS:List Stmt→Nat
 |[]=>0
 |x::l=>fst x+1+eS l
end
def B6(s:Stmt):(⟨s.Op,s.Name,s.Max,s.A,s.B,s.Body,s.bR⟩:Stmt)=s:=by cases s;rfl
def fst_eq(s:Stmt):fst s=80+s.Name.length+dI s.A+dI s.B+eS s.Body+eS s.bR:=by cases s;rfl
def QO:∀l m:List Stmt,eS (l++m)=eS l+eS m
 |[],m=>by simp [eS]
 |x::l,m=>by rw [List.cons_append,eS,eS,QO l m];omega
def IC:∀l:List Stmt,80*l.length≤eS l
 |[]=>Nat.le_refl _
 |x::l=>by have:=IC l;have:=fst_eq x;simp only [eS,aeW];omega
open Go Go.Ab Go.Proofs
section
variable {l:List Token}
end
open Go Go.Ab Go.Proofs
section
variable {l:List Token}
end
open Go Go.Ab Go.Proofs
section
variable {l:List Token}
end
open Go Go.Ab Go.Proofs
section
variable {l:List Token}
end
open Go Go.Ab Go.Proofs
section
variable {l:List Token}
end
open Go Go.Ab Go.Proofs
def iu:List Param→Nat
 |[]=>0
 |p::l=>60+p.Name.length+iu l
def ID:∀l:List Param,60*l.length≤iu l
 |[]=>Nat.le_refl _
 |t::l=>by have:=ID l;simp only [iu,aeW];omega
section
variable {l:List Token}
def ZL(p:bb):Nat:=p.Name.length+iu p.Params+eS p.Body
end
open Go Go.Ab Go.Proofs
mutual
def iv:Expr→Int→Int
 |⟨Op,N,S,aw⟩,d=>if mF ⟨Op,N,S,aw⟩ d=0 then o8 aw (ae9 (d+1))else mF ⟨Op,N,S,aw⟩ d
def o8:List Expr→Int→Int
 |[],d=>0
 |x::l,d=>if iv x d=0 then o8 l d else iv x d
end
def QP(e:Expr)(d:Int):iv e d=if mF e d=0 then o8 e.aw (ae9 (d+1))else mF e d:=by cases e;rfl
def ZM:∀(n:Nat) (e:Expr) (d:Int),dI e≤n→dI e≤140737488351232→tN n e d=some (iv e d)∧Bo n e d=some (iv e d):=by
 intro n;induction n with
 |zero=>intro e d h;rw [uG]at h;omega
 |succ n a'=>
  intro e d h ab;have IE:=uG e;have QQ:=IA e.aw;simp only [tN,Bo,Fs,Pj];rw [Zx e d (by omega) (by omega),Zy e d (by omega) (by omega) (by omega),QP]
  simp only [aP];by_cases h0:mF e d=0
  ·rw [if_pos h0];simp only [h0,aeQ,aeU,aeT]
   have jX:∀m i,e.aw.length<i+m→i≤e.aw.length→wK n (tN n) d e m (i:Int)=some (o8 (e.aw.drop i) (ae9 (d+1)))∧Bn n (Bo n) d e m (i:Int)=some (o8 (e.aw.drop i) (ae9 (d+1))):=by
    intro m;induction m with
    |zero=>intro i Z ad;omega
    |succ m sk=>
     intro i Z ad;simp only [wK,Fr,Fq,Bn,Pi,Ph];by_cases hi:i<e.aw.length
     ·have hg:=IB e.aw i hi;obtain⟨hy,hM⟩:=a' (e.aw.getD i default) (ae9 (d+1)) (by omega) (by omega)
      obtain⟨ZN,IF⟩:=sk (i+1) (by omega) (by omega)
      (rw [iP e.aw i default hi,df (by omega)];simp only [aeY];rw [hy,hM,ZN,IF])
      simp only [hi,cX hi,aeZ,aeQ,aeS,bK,aP,o8];by_cases ai:iv (e.aw.getD i default) (ae9 (d+1))=0
      ·simp only [ai,aeQ,aeU,aeT,ae5,and_self]
      ·simp only [ai,aeR,aeV,aeS,ae6,and_self]
     ·rw [kv e.aw i hi];simp only [hi,aeZ,aeR,aeT,o8,and_self]
   exact jX n 0 (by omega) (by omega)
  ·rw [if_neg h0];simp only [h0,aeR,aeV,aeS,and_self]
def QR{n:Nat}(e:Expr)(h:dI e≤n)(ab:dI e≤140737488351232):wL n e=some (iv e 1):=by
 simp only [wL,(ZM n e 1 h ab).1,aP]
def od(e:Expr):Bool:=decide (e.Op=0)&&decide (e.N=0)&&decide (e.S=[])&&decide (e.aw.length=0)
def QS(n:Nat)(e:Expr):tO n e=some (od e):=by
 simp only [tO,od,gx,l']
def mG(op:Int):i_×Bool:=
 if op=1∨op=2 then(⟨true,true,false,false,false,false⟩,true)
 else if op=3 then(⟨false,true,true,false,false,false⟩,true)
 else if op=4∨op=7 then(⟨false,true,false,false,false,false⟩,true)
 else if op=5 then(⟨false,true,false,false,true,true⟩,true)
 else if op=6 then(⟨true,true,true,true,true,false⟩,true)
 else if op=8 then(⟨false,false,false,true,false,false⟩,true)
 else(⟨false,false,false,false,false,false⟩,false)
def ZO(n:Nat)(op:Int):Ah n op=some (mG op):=by
 by_cases h:1≤op∧op≤8
 ·obtain rfl|rfl|rfl|rfl|rfl|rfl|rfl|rfl:op=1∨op=2∨op=3∨op=4∨op=5∨op=6∨op=7∨op=8:=by omega
  all_goals rfl
 ·have e:mG op=(⟨false,false,false,false,false,false⟩,false):=by
   unfold mG;rw [if_neg (by omega),if_neg (by omega),if_neg (by omega),if_neg (by omega),if_neg (by omega),if_neg (by omega)]
  rw [e];simp only [Ah,Ag,Af,Ft,show¬ op=1 by omega,show¬ op=2 by omega,show¬ op=3 by omega,show¬ op=4 by omega,show¬ op=5 by omega,show¬ op=6 by omega,show¬ op=7 by omega,show¬ op=8 by omega,aeR,aeT]
def xZ(s:Stmt)(u:i_):Bool:=
 (!u.name && !decide (s.Name=[]))||(!u.a && !od s.A)||(!u.b && !od s.B)||(!u.max && !decide (s.Max=0))||(!u.body&&decide (0<s.Body.length))||(!u.other&&decide (0<s.bR.length))
def sl(s:Stmt):Bool:=if s.Op=6 then decide (1≤s.Max)&&decide (s.Max≤16)else if s.Op=8 then decide (0≤s.Max)&&decide (s.Max≤999)else true
def ma(s:Stmt)(d:Int):Int:=
 if(mG s.Op).2=false∨xZ s (mG s.Op).1=true∨sl s=false then 1
 else if(mG s.Op).1.name=true∧gy s.Name=false then 7
 else if(mG s.Op).1.a=true∧iv s.A 1≠0 then iv s.A 1
 else if(mG s.Op).1.b=true∧iv s.B 1≠0 then iv s.B 1
 else if 12<d then 2 else 0
open Go Go.Ab Go.Proofs
def ZP(n:Nat)(s:Stmt)(u:i_):Ae n s u=some (!xZ s u&&sl s):=by
 have hm:(bif decide (s.Op=6)then some (bif decide (1≤s.Max)then decide (s.Max≤16)else false)else bif decide (s.Op=8)then some (bif decide (0≤s.Max)then decide (s.Max≤999)else false)else some true)=some (sl s):=by
  unfold sl;by_cases bT:s.Op=6
  ·simp only [bT,aeQ,aeS,ae5,gx]
  ·by_cases dO:s.Op=8
   ·simp only [dO,show¬ (8:Int)=6 by omega,aeQ,aeR,aeS,aeT,ae5,ae6,gx]
   ·simp only [bT,dO,aeR,aeT,ae6]
 unfold Ae xZ;rw [hm];simp only [QS,l_,gx,fE,f'];generalize decide (s.Name=[])=x
 generalize od s.A=y
 generalize od s.B=z
 generalize decide (s.Max=0)=w
 generalize decide (0<s.Body.length)=p
 generalize decide (0<s.bR.length)=q
 generalize sl s=r
 obtain⟨B7,a,b,ka,mZ,IG⟩:=u;cases B7<;>cases x<;>cases a<;>cases y<;>cases b<;>cases z<;>simp only [aeU,aeV,Bool.and_true,Bool.and_false,Bool.true_and,Bool.false_and,ae4,Bool.or_false,Bool.true_or,Bool.false_or,aeS,aeT,aP]<;>(cases ((!ka && !w)||(!mZ&&p)||(!IG&&q))<;>simp_all)
def ZQ{n:Nat}(s:Stmt)(d:Int)(ei:dI s.A≤n)(dg:dI s.B≤n)(ZR:dI s.A≤140737488351232)(qi:dI s.B≤140737488351232)(bA:s.Name.length≤140737488351232):Ak n s d=some (ma s d):=by
 unfold Ak Aj Ai ma;simp only [ZO,aP,l_,B6,ZP,xY n s.Name bA,QR s.A ei ZR,QR s.B dg qi];generalize (mG s.Op)=U
 obtain⟨u,ZS⟩:=U;obtain⟨B7,a,b,ka,mZ,IG⟩:=u;simp only
 generalize xZ s ⟨B7,a,b,ka,mZ,IG⟩=m
 generalize sl s=r
 cases ZS
 ·simp
 ·cases m
  ·cases r
   ·simp
   ·generalize gy s.Name=x
    simp only [aeU,aeV,aeS,aeT,aP,Bool.true_and,Bool.and_true,Bool.true_eq_false,Bool.false_eq_true,or_self,ae6];cases B7
    ·simp only [aeT,aP,Bool.false_eq_true,false_and,ae6];cases a
     ·simp only [aeT,Bool.false_eq_true,false_and,ae6];cases b
      ·by_cases i8:12<d<;>simp [i8]
      ·by_cases hb:iv s.B 1=0<;>by_cases i8:12<d<;>simp [hb,i8]
     ·by_cases ha:iv s.A 1=0
      ·cases b
       ·by_cases i8:12<d<;>simp [ha,i8]
       ·by_cases hb:iv s.B 1=0<;>by_cases i8:12<d<;>simp [ha,hb,i8]
      ·simp [ha]
    ·cases x
     ·simp
     ·simp only [aeS,aP,aeU,aeT,Bool.true_eq_false,and_false,ae6];cases a
      ·simp only [aeT,Bool.false_eq_true,false_and,ae6];cases b
       ·by_cases i8:12<d<;>simp [i8]
       ·by_cases hb:iv s.B 1=0<;>by_cases i8:12<d<;>simp [hb,i8]
      ·by_cases ha:iv s.A 1=0
       ·cases b
        ·by_cases i8:12<d<;>simp [ha,i8]
        ·by_cases hb:iv s.B 1=0<;>by_cases i8:12<d<;>simp [ha,hb,i8]
       ·simp [ha]
  ·simp
open Go Go.Ab Go.Proofs
def uH(before:List Param):List Param→Int
 |[]=>0
 |x::l=>if gy x.Name=false then 7 else if x.gc<1∨3<x.gc then 10 else if(before.any λy=>decide (y.Name=x.Name))=true then 8 else uH (before++[x]) l
def ZT(n:Nat)(s:List Param)(b:Param)(hs:s.length≤4611686018427387904):∀m i,s.length<i+m→i≤s.length→
 ∃r,tK n s b m (i:Int)=some r∧(decide (0≤r)=(s.drop i).any λy=>decide (y.Name=b.Name)):=by
 intro m;induction m with
 |zero=>intro i h ad;omega
 |succ m a'=>
  intro i hm hi;simp only [tK,Fj,Fh,Fg];by_cases h:i<s.length
  ·obtain⟨r,Z,ad⟩:=a' (i+1) (by omega) (by omega)
   (rw [iP s i default h,df (by omega)];simp only [aeY];rw [Z])
   generalize s.getD i default=c
   simp only [h,cX h,aeZ,aeQ,aeS,bK,aP,List.any_cons];by_cases hc:c.Name=b.Name
   ·simp only [hc,aeQ,aeS,Bool.true_or];exact⟨_,rfl,decide_eq_true (by omega)⟩
   ·simp only [hc,aeR,aeT,Bool.false_or];exact⟨r,rfl,ad⟩
  ·rw [kv s i h];simp only [h,aeZ,aeR,aeT];exact⟨-1,rfl,rfl⟩
def ZU{n:Nat}(s:List Param)(b:Param)(hs:s.length≤4611686018427387904)(hn:s.length<n):z_ n s b=some (s.any λy=>decide (y.Name=b.Name)):=by
 unfold z_ Fk;obtain⟨r,Z,ad⟩:=ZT n s b hs n 0 (by omega) (by omega)
 rw [show tK n s b n 0=_ from Z,aP,ad,List.drop_zero]
def B8{α:Type}[Inhabited α](l:List α)(i:Nat)(h:i<l.length):l.take (i+1)=l.take i++[l.getD i default]:=by
 rw [List.take_add,iP l i default h,List.take_succ_cons,List.take_zero]
def QT:∀(l:List Param) (i:Nat),i<l.length→(l.getD i default).Name.length<iu l
 |[],i,h=>by simp at h
 |x::l,0,h=>by simp only [iu,List.getD_cons_zero];omega
 |x::l,i+1,h=>by have:=QT l i (by simpa using h);simp only [iu,List.getD_cons_succ];omega
def ZV(n:Nat)(l:List Param)(a7:iu l<n)(vj:iu l≤140737488351232):∀m i,l.length<i+m→i≤l.length→tL n l m (i:Int)=some (uH (l.take i) (l.drop i)):=by
 have hlen:=ID l;intro m;induction m with
 |zero=>intro i h ad;omega
 |succ m a'=>
  intro i hm hi;simp only [tL,Fm,Fl];by_cases h:i<l.length
  ·have hg:=QT l i h
   (rw [iP l i default h,df (by omega)];simp only [aeY];rw [a' (i+1) (by omega) (by omega),B8 l i h])
   generalize l.getD i default=c at hg
   rw [xY n c.Name (by omega),ZU (l.take i) c (by simp;omega) (by simp;omega)]
   simp only [h,cX h,aeZ,aeQ,aeS,bK,aP,QA hi,fE,uH];cases gy c.Name
   ·simp
   ·by_cases bH:c.gc<1∨3<c.gc
    ·have:(decide (c.gc<1)||decide (3<c.gc))=true:=by rcases bH with bH|bH<;>rw [decide_eq_true bH]<;>simp
     simp [this,bH]
    ·have:(decide (c.gc<1)||decide (3<c.gc))=false:=by rw [decide_eq_false (λe=>bH (Or.inl e)),decide_eq_false (λe=>bH (Or.inr e))];rfl
     rw [this];simp only [aeU,aeT,Bool.true_eq_false,ae6,bH];cases ((l.take i).any λy=>decide (y.Name=c.Name))<;>rfl
  ·rw [kv l i h];simp only [h,aeZ,aeR,aeT];rfl
def qj(l:List Param):Int:=if 6<l.length then 2 else uH [] l
def ZW{n:Nat}(l:List Param)(a7:iu l<n)(vj:iu l≤140737488351232):Aa n l=some (qj l):=by
 have hlen:=ID l;unfold Aa qj;have:=ZV n l a7 vj n 0 (by omega) (by omega)
 rw [show tL n l n 0=_ from this]
 simp only [f'];by_cases h:6<l.length
 ·simp only [h,aeQ,aeS,ae5]
 ·simp only [h,aeR,aeT,ae6,List.take_zero,List.drop_zero]
open Go Go.Ab Go.Proofs
mutual
def sm:Expr→Nat→Nat
 |⟨_,_,_,aw⟩,k=>if k=0 then 0 else qk aw (k-1)
def qk:List Expr→Nat→Nat
 |[],k=>k
 |x::l,k=>qk l (sm x k)
end
def ZX(e:Expr)(k:Nat):sm e k=if k=0 then 0 else qk e.aw (k-1):=by cases e;rfl
mutual
def IH:∀(e:Expr) (k:Nat),sm e k≤k
 |⟨_,_,_,aw⟩,k=>by
  have:=QU aw (k-1)
  simp only [sm];split<;>omega
def QU:∀(l:List Expr) (k:Nat),qk l k≤k
 |[],k=>Nat.le_refl _
 |x::l,k=>by
  have Z:=IH x k;have ad:=QU l (sm x k);simp only [qk];omega
end
def iR(e:Expr)(k:Nat):Nat:=if k=0∨od e=true then k else sm e k
def B9(e:Expr)(k:Nat):iR e k≤k:=by unfold iR;split;exact Nat.le_refl _;exact IH e k
mutual
def np:Stmt→Int→Nat×Int→Nat×Int
 |⟨Op,Name,Max,A,B,Body,bR⟩,d,r=>
  hr bR (ae9 (d+1)) (hr Body (ae9 (d+1)) (iR B (iR A (r.1-1)),if r.2=0 then ma ⟨Op,Name,Max,A,B,Body,bR⟩ d else r.2))
def hr:List Stmt→Int→Nat×Int→Nat×Int
 |[],d,r=>r
 |s::l,d,r=>if r.1=0 then r else hr l d (np s d r)
end
def ZY(s:Stmt)(d:Int)(r:Nat×Int):np s d r=hr s.bR (ae9 (d+1)) (hr s.Body (ae9 (d+1)) (iR s.B (iR s.A (r.1-1)),if r.2=0 then ma s d else r.2)):=by cases s;rfl
mutual
def ZZ:∀(s:Stmt) (d:Int) (r:Nat×Int),(np s d r).1≤r.1
 |⟨Op,Name,Max,A,B,Body,bR⟩,d,r=>by
  have Z:=B9 A (r.1-1);have ad:=B9 B (iR A (r.1-1));have al:=ql Body (ae9 (d+1)) (iR B (iR A (r.1-1)),if r.2=0 then ma ⟨Op,Name,Max,A,B,Body,bR⟩ d else r.2)
  have aH:=ql bR (ae9 (d+1)) (hr Body (ae9 (d+1)) (iR B (iR A (r.1-1)),if r.2=0 then ma ⟨Op,Name,Max,A,B,Body,bR⟩ d else r.2))
  simp only [np]at *;omega
def ql:∀(l:List Stmt) (d:Int) (r:Nat×Int),(hr l d r).1≤r.1
 |[],d,r=>Nat.le_refl _
 |s::l,d,r=>by
  have Z:=ZZ s d r;have ad:=ql l d (np s d r);simp only [hr];split
  ·exact Nat.le_refl _
  ·omega
end
def Z0:∀(n:Nat) (e:Expr) (k:Nat) (b:Int),dI e≤n→dI e≤140737488351232→k≤1000→tP n e (k:Int) b=some ((sm e k:Nat):Int):=by
 intro n;induction n with
 |zero=>intro e k b h;rw [uG]at h;omega
 |succ n a'=>
  intro e k b h ab hk;have IE:=uG e;have QQ:=IA e.aw;simp only [tP,Fw,l'];rw [ZX];by_cases h0:k=0
  ·rw [if_pos h0];simp only [h0,aeQ,aeS]
  ·rw [if_neg h0];simp only [h0,aeR,aeT]
   have jX:∀m i k,e.aw.length<i+m→i≤e.aw.length→k≤1000→wM n (tP n) e b m ((k:Nat):Int) (i:Int)=some ((qk (e.aw.drop i) k:Nat):Int):=by
    intro m;induction m with
    |zero=>intro i k Z ad;omega
    |succ m sk=>
     intro i k Z ad hk;simp only [wM,Fv];by_cases hi:i<e.aw.length
     ·have hg:=IB e.aw i hi;have hle:=IH (e.aw.getD i default) k
      (rw [iP e.aw i default hi,df (by omega)];simp only [aeY];rw [a' _ k b (by omega) (by omega) hk])
      simp only [hi,cX hi,aeZ,aeQ,aeS,bK,aP,qk];exact sk (i+1) _ (by omega) (by omega) (by omega)
     ·rw [kv e.aw i hi];simp only [hi,aeZ,aeR,aeT,qk]
   rw [show ae9 ((k:Int)-1)=((k-1:Nat):Int)by rw [wr]<;>omega]
   exact jX n 0 (k-1) (by omega) (by omega) (by omega)
def QV{n:Nat}(e:Expr)(k:Nat)(b:Int)(h:dI e≤n)(ab:dI e≤140737488351232)(hk:k≤1000):wN n e (k:Int) b=some ((iR e k:Nat):Int):=by
 unfold wN iR Fu;simp only [QS,l',Z0 n e k b h ab hk,aP];by_cases h0:k=0
 ·simp [h0]
 ·cases od e<;>simp [h0]
open Go Go.Ab Go.Proofs
def QW:∀(l:List Stmt) (i:Nat),i<l.length→fst (l.getD i default)<eS l
 |[],i,h=>by simp at h
 |x::l,0,h=>by simp only [eS,List.getD_cons_zero];omega
 |x::l,i+1,h=>by have:=QW l i (by simpa using h);simp only [eS,List.getD_cons_succ];omega
def QX{α β:Type}(x:α×β):(x.1,x.2)=x:=rfl
def Z1:∀(n:Nat) (l:List Stmt) (d:Int) (k:Nat) (e:Int),eS l+2≤n→eS l≤140737488351232→k≤1000→
 rH n l d (k:Int) e=some ((((hr l d (k,e)).1:Nat):Int),(hr l d (k,e)).2):=by
 intro n;induction n with
 |zero=>intro l d k e h;omega
 |succ n a'=>
  intro l d k e h ab hk;have QQ:=IC l;simp only [rH,Fy]
  have jX:∀m i k e,l.length<i+m→i≤l.length→k≤1000→wO n (rH n) d l m ((k:Nat):Int) e (i:Int)=some ((((hr (l.drop i) d (k,e)).1:Nat):Int),(hr (l.drop i) d (k,e)).2):=by
   intro m;induction m with
   |zero=>intro i k e Z ad;omega
   |succ m sk=>
    intro i k e Z ad hk;simp only [wO,Fx,l_,B6];by_cases hi:i<l.length
    ·have hg:=QW l i hi
     (rw [iP l i default hi];simp only [aeY])
     generalize l.getD i default=s at hg
     have nH:=fst_eq s;rw [df (by omega)]
     simp only [hi,cX hi,aeZ,aeQ,aeS,bK,l',hr];by_cases h0:k=0
     ·simp only [h0,aeQ,aeS,ae5]
     ·simp only [h0,aeR,aeT,ae6]
      have ar:Al n s d e=some (if e=0 then ma s d else e):=by
       unfold Al;simp only [l_,B6,ZQ s d (show dI s.A≤n by omega) (show dI s.B≤n by omega) (by omega) (by omega) (by omega),aP]
       by_cases he:e=0
       ·simp only [he,aeQ,aeS,ae5]
       ·simp only [he,aeR,aeT,ae6]
      rw [ar,aP,show ae9 ((k:Int)-1)=((k-1:Nat):Int)by rw [wr]<;>omega]
      have eM:=B9 s.A (k-1);have d9:=B9 s.B (iR s.A (k-1));rw [QV s.A (k-1) _ (by omega) (by omega) (by omega),aP,QV s.B _ _ (by omega) (by omega) (by omega),aP]
      have DK:=ql s.Body (ae9 (d+1)) (iR s.B (iR s.A (k-1)),if e=0 then ma s d else e)
      rw [a' s.Body _ _ _ (by omega) (by omega) (by omega),aP]
      simp only [QX]at DK ⊢;have aee:=ql s.bR (ae9 (d+1)) (hr s.Body (ae9 (d+1)) (iR s.B (iR s.A (k-1)),if e=0 then ma s d else e))
      rw [a' s.bR _ _ _ (by omega) (by omega) (by omega),aP]
      simp only [QX];rw [sk (i+1) _ _ (by omega) (by omega) (by omega),ZY]
    ·rw [kv l i hi];simp only [hi,aeZ,aeR,aeT,hr]
  exact jX n 0 k e (by omega) (by omega) hk
open Go Go.Ab Go.Proofs
open Go Go.Ab Go.Proofs
open Go Go.Ab Go.Proofs
def o9(p:bb):Int:=
 if gy p.Name=false then 7 else if qj p.Params≠0 then qj p.Params
 else if(hr p.Body 1 (401,0)).2=0∧(hr p.Body 1 (401,0)).1=0 then 2 else(hr p.Body 1 (401,0)).2
def QY{n:Nat}(p:bb)(bA:p.Name.length≤140737488351232)(jQ:iu p.Params<n)(Z2:iu p.Params≤140737488351232)(dg:eS p.Body+2≤n)(qi:eS p.Body≤140737488351232):wP n p=some (o9 p):=by
 unfold wP Fz o9;rw [xY n p.Name bA,ZW p.Params jQ Z2];simp only [aP];cases gy p.Name
 ·rfl
 ·simp only [aeU,aeT,Bool.true_eq_false,ae6];by_cases h:qj p.Params=0
  ·simp only [h,aeQ,aeU,aeT,ne_eq,not_true,ae6];have:=Z1 n p.Body 1 401 0 dg qi (by omega)
   rw [show rH n p.Body 1 401 0=_ from this]
   have hle:=ql p.Body 1 (401,0);simp only at hle
   generalize hr p.Body 1 (401,0)=r at hle
   obtain⟨k,e⟩:=r;simp only [aP];simp only at hle
   rw [show ae9 (401-((k:Nat):Int))=401-((k:Nat):Int)by rw [wr]<;>omega]
   by_cases he:e=0
   ·by_cases hk:k=0
    ·subst hk;subst he;rfl
    ·simp only [he,hk,aeQ,aeS,and_false,ae6,show¬ (400:Int)<401-((k:Nat):Int)by omega,aeR,aeT]
   ·simp only [he,aeR,aeT,false_and,ae6]
  ·simp only [h,aeR,aeV,aeS,ne_eq,not_false_iff,ae5]
open Go Go.Ab Go.Proofs
open Go Go.Ab Go.Proofs
def hK(t:Token):Token:=⟨t.Kind,t.Text,t.N,0⟩
open Go Go.Ab Go.Proofs
def Z3{w:ae7}:kN w=w.length→w.all lk=true:=by
 induction w with
 |nil=>intro;rfl
 |cons c w a'=>
  intro h;rw [QD]at h;cases hc:lk c
  ·rw [hc]at h;simp at h
  ·rw [hc]at h;simp only [aeS,aeW]at h;rw [List.all_cons,hc,a' (by omega)];rfl
def QZ{w:ae7}(h:gy w=true):∃c l,w=c::l∧o7 c=true∧w.all lk=true∧xX w=false∧w.length≤16:=by
 cases w with
 |nil=>cases h
 |cons c l=>
  simp only [gy,Bool.and_eq_true,decide_eq_true_eq,Bool.not_eq_true']at h;obtain⟨⟨⟨Z,ad⟩,al⟩,aH⟩:=h;exact⟨c,l,rfl,ad,Z3 (by simpa using al),aH,by simp;omega⟩
def hX:ae7→ae7
 |[]=>[]
 |c::l=>if c.toNat=34∨c.toNat=92 then 92::c::hX l else c::hX l
def quo(s:ae7):ae7:=34::(hX s++[34])
def spell(t:Token):ae7:=if t.Kind=3 then Lib.decDigits t.N.toNat else if t.Kind=4 then quo t.Text else t.Text
def x0(t:Token):Prop:=
 t.kO=0∧((t.Kind=1∧gy t.Text=true∧t.N=0)∨(t.Kind=2∧t.Text∈qh∧t.N=0)∨(t.Kind=3∧t.Text=[]∧0≤t.N∧t.N≤9223372036854775807)∨
  (t.Kind=4∧kw t.Text=true∧t.N=0)∨(t.Kind=5∧t.Text∈marks∧t.N=0))
open Go Go.Ab Go.Proofs
abbrev nq:=List (Option Token)
def flat:nq→ae7
 |[]=>[]
 |some t::l=>spell t++flat l
 |none::l=>32::flat l
def kx:nq→List Token
 |[]=>[]
 |some t::l=>t::kx l
 |none::l=>kx l
def o_:∀l m:nq,flat (l++m)=flat l++flat m
 |[],m=>rfl
 |some t::l,m=>by simp only [List.cons_append,flat,o_ l m,List.append_assoc]
 |none::l,m=>by simp only [List.cons_append,flat,o_ l m]
def II:∀l m:nq,kx (l++m)=kx l++kx m
 |[],m=>rfl
 |some t::l,m=>by simp only [List.cons_append,kx,II l m]
 |none::l,m=>by simp only [List.cons_append,kx,II l m]
def kX(w:ae7):Token:=⟨2,w,0,0⟩
def fH(w:ae7):Token:=⟨5,w,0,0⟩
def Z4(w:ae7):Token:=⟨1,w,0,0⟩
def Z5(n:Int):Token:=⟨3,[],n,0⟩
def Z6(w:ae7):Token:=⟨4,w,0,0⟩
def eT(op:Int):Nat:=if op=17 then 1 else if op=16 then 2 else if op=18 then 3 else if 10≤op∧op≤15 then 4 else if op=19 then 5 else if op=4∨op=5 then 6 else if 6≤op∧op≤8 then 7 else if op=9 then 8 else 9
def sn(op:Int):Token:=
 if op=17 then kX [111,114]else if op=16 then kX [97,110,100]else if op=10 then fH [61,61]else if op=11 then fH [33,61]else if op=12 then fH [60]else if op=13 then fH [60,61]
 else if op=14 then fH [62]else if op=15 then fH [62,61]else if op=19 then fH [43,43]else if op=4 then fH [43]else if op=5 then fH [45]else if op=6 then fH [42]else if op=7 then fH [47]else fH [37]
def jD(op:Int):Token:=
 if op=20 then kX [116,101,120,116]else if op=21 then kX [108,101,110]else if op=22 then kX [103,101,116,105,110,116]else if op=23 then kX [103,101,116,115,116,114]else if op=24 then kX [104,97,115]
 else if op=25 then kX [110,111,119]else if op=26 then kX [114,97,110,100,111,109]else kX [110,111,100,101]
def iS(op:Int)(p:nq)(least:Nat):nq:=if eT op<least then some (fH [40])::(p++[some (fH [41])])else p
def uI(Op N:Int)(S:ae7)(L:List (Int×nq)):nq:=
 if Op=1 then[some (Z5 N)]else if Op=2 then[some (Z6 S)]else if Op=3 then[some (Z4 S)]
 else match L with
  |[]=>[some (jD Op),some (fH [40]),some (fH [41])]
  |[a]=>if Op=18 then some (kX [110,111,116])::none::iS a.1 a.2 3 else if Op=9 then some (fH [45])::iS a.1 a.2 8 else some (jD Op)::some (fH [40])::(a.2++[some (fH [41])])
  |a::b::_=>iS a.1 a.2 (if eT Op=4 then 5 else eT Op)++none::some (sn Op)::none::iS b.1 b.2 (eT Op+1)
mutual
def dJ:Expr→nq
 |⟨Op,N,S,aw⟩=>uI Op N S (so aw)
def so:List Expr→List (Int×nq)
 |[]=>[]
 |x::l=>(x.Op,dJ x)::so l
end
def nU(op:Int)(n:Nat):Prop:=(1≤op∧op≤27)∧(n:Int)=hW op
mutual
def g':Expr→Prop
 |⟨Op,N,S,aw⟩=>nU Op aw.length∧(Op=1→0≤N∧N≤9223372036854775807)∧(Op≠1→N=0)∧(Op≠2∧Op≠3→S=[])∧(Op=2→kw S=true)∧(Op=3→gy S=true)∧B' aw
def B':List Expr→Prop
 |[]=>True
 |x::l=>g' x∧B' l
end
mutual
def iw:Expr→Nat
 |⟨_,_,_,aw⟩=>1+nr aw
def nr:List Expr→Nat
 |[]=>0
 |x::l=>max (iw x) (nr l)
end
def IJ(e:Expr):g' e↔nU e.Op e.aw.length∧(e.Op=1→0≤e.N∧e.N≤9223372036854775807)∧(e.Op≠1→e.N=0)∧(e.Op≠2∧e.Op≠3→e.S=[])∧(e.Op=2→kw e.S=true)∧(e.Op=3→gy e.S=true)∧B' e.aw:=by cases e;rfl
def B_(e:Expr):iw e=1+nr e.aw:=by cases e;rfl
def Q0{w:ae7}(h:w∈qh):x0 (kX w):=⟨rfl,Or.inr (Or.inl ⟨rfl,h,rfl⟩)⟩
def Z7{c:Prop}[Decidable c]{a b:Token}(ha:x0 a)(hb:x0 b):x0 (if c then a else b):=by
 by_cases h:c
 ·rw [if_pos h];exact ha
 ·rw [if_neg h];exact hb
def Z8{c:Prop}[Decidable c]{a b:Token}{k:Int}(ha:a.Kind=k)(hb:b.Kind=k):(if c then a else b).Kind=k:=by
 by_cases h:c
 ·rw [if_pos h];exact ha
 ·rw [if_neg h];exact hb
def Z9(op:Int):x0 (jD op)∧(jD op).Kind=2:=by
 unfold jD;constructor
 ·repeat refine Z7 (Q0 (by decide)) ?_
  exact Q0 (by decide)
 ·repeat refine Z8 rfl ?_
  rfl
def Z'{op:Int}(h:1≤op∧op≤27):hW op=0∧(op≤3∨25≤op)∨hW op=1∧(op=9∨op=18∨20≤op∧op≤24)∨hW op=2∧(4≤op∧op≤8∨10≤op∧op≤17∨op=19):=by
 obtain rfl|rfl|rfl|rfl|rfl|rfl|rfl|rfl|rfl|rfl|rfl|rfl|rfl|rfl|rfl|rfl|rfl|rfl|rfl|rfl|rfl|rfl|rfl|rfl|rfl|rfl|rfl:op=1∨op=2∨op=3∨op=4∨op=5∨op=6∨op=7∨op=8∨op=9∨op=10∨op=11∨op=12∨op=13∨op=14∨op=15∨op=16∨op=17∨op=18∨op=19∨op=20∨op=21∨op=22∨op=23∨op=24∨op=25∨op=26∨op=27:=by omega
 all_goals first|exact Or.inl ⟨rfl,by omega⟩|exact Or.inr (Or.inl ⟨rfl,by omega⟩)|exact Or.inr (Or.inr ⟨rfl,by omega⟩)
open Go Go.Ab Go.Proofs
def fB(l:List Token)(i:Nat)(T R:List Token):Prop:=(l.map hK).drop i=T++R
def sq(R:List Token)(w:ae7):Bool:=
 match R with
 |[]=>false
 |t::_=>(decide (t.Kind=2)||decide (t.Kind=5))&&decide (t.Text=w)
def Z_(l:List Token)(i:Nat)(w:ae7):iQ l i w=sq ((l.map hK).drop i) w:=by
 unfold iQ;by_cases h:i<l.length
 ·rw [iP (l.map hK) i default (by simpa using h)]
  have:(l.map hK).getD i default=hK (l.getD i default):=by simp [List.getD,h]
  rw [this];generalize l.getD i default=t
  simp only [sq,h,hK,aeQ,Bool.true_and]
  congr
 ·rw [kv (l.map hK) i (by simpa using h)]
  simp [sq,h]
def fB.is{l T R:List Token}{i:Nat}(h:fB l i T R)(w:ae7):iQ l i w=sq (T++R) w:=by rw [Z_,h]
def fB.call{l T R:List Token}{i:Nat}(h:fB l i T R):B5 l i=call2 (oc.find? λr=>sq (T++R) r.1):=by
 unfold B5
 congr 2
 funext r
 exact h.is r.1
def fB.lt{l T R:List Token}{t:Token}{i:Nat}(h:fB l i (t::T) R):i<l.length:=by
 by_cases hi:i<l.length
 ·exact hi
 ·unfold fB at h;rw [kv (l.map hK) i (by simpa using hi)]at h
  cases h
def fB.hd{l T R:List Token}{t:Token}{i:Nat}(h:fB l i (t::T) R):hK (l.getD i default)=t:=by
 have hi:=h.lt;unfold fB at h;rw [iP (l.map hK) i default (by simpa using hi),List.cons_append]at h
 injection h with Z ad;rw [←Z];simp [List.getD,hi]
def fB.le{l T R:List Token}{i:Nat}(h:fB l i T R)(aG:T≠[]):i+T.length≤l.length:=by
 have:=congrArg List.length h
 simp only [List.length_drop,List.length_map,ae0]at this;have:0<T.length:=List.length_pos_iff.2 aG
 omega
def aaa(R:List Token):Int:=(ZF (ZE.find? λr=>sq R r.1)).1
def aab(op:Int)(R:List Token)(h:20≤op∧op≤27):call2 (oc.find? λr=>sq (jD op::R) r.1)=op:=by
 have:op=20∨op=21∨op=22∨op=23∨op=24∨op=25∨op=26∨op=27:=by omega
 rcases this with rfl|rfl|rfl|rfl|rfl|rfl|rfl|rfl<;>rfl
section
variable {l:List Token}
def jy(l:List Token)(i d ns:Nat)(e:Expr)(k B:Nat):Prop:=∀n,B≤n→kq n (ns:Int) (d:Int) ⟨l,(i:Int)⟩=some (.ret e (k:Int))
def IK(l:List Token)(i d:Nat)(e:Expr)(k B:Nat):Prop:=∀n,B≤n→r2 n (d:Int) ⟨l,(i:Int)⟩=some (.ret e (k:Int))
def IL(l:List Token)(i d:Nat)(e:Expr)(k B:Nat):Prop:=∀n,B≤n→ui n (d:Int) ⟨l,(i:Int)⟩=some (.ret e (k:Int))
theorem jy.mono{i d ns:Nat}{e:Expr}{k B Q1:Nat}(h:jy l i d ns e k B)(dg:B≤Q1):jy l i d ns e k Q1:=λn hn=>h n (by omega)
theorem IL.of{i d:Nat}{e:Expr}{k B:Nat}(ab:l.length≤1000000000)(hi:iQ l i [40]=true)(h:jy l (i+1) d 1 e k B)(hk:iQ l k [41]=true):IL l i d e (k+1) (B+1):=by
 intro n hn;obtain⟨n,rfl⟩:∃j,n=j+1:=⟨n-1,by omega⟩
 have Z:=QH hi;have ad:=QH hk;rw [ZJ];unfold A8;rw [QK n l i _ (by omega) (by omega),hi]
 simp only [aP,aeS,aA.on];rw [show kq n 1 (d:Int) ⟨l,((i+1:Nat):Int)⟩=_ from h n (by omega)]
 simp only [aP,aA.on];rw [QK n l k _ (by omega) (by omega),hk]
 rfl
theorem aac{n i d:Nat}(ab:l.length≤1000000000)(h:i<l.length):r2 (n+1) (d:Int) ⟨l,(i:Int)⟩ =
 if(l.getD i default).Kind=3 then some (.ret ⟨1,(l.getD i default).N,[],[]⟩ ((i+1:Nat):Int))else if(l.getD i default).Kind=4 then some (.ret ⟨2,0,(l.getD i default).Text,[]⟩ ((i+1:Nat):Int))
 else if(l.getD i default).Kind=1 then some (.ret ⟨3,0,(l.getD i default).Text,[]⟩ ((i+1:Nat):Int))else xf n (kq n) (A9 n) (r2 n) (ui n) (d:Int) ⟨l,(i:Int)⟩ (i:Int):=by
 rw [ZI];unfold A7
 (rw [df (by omega)];simp only [aeY];rw [ZK (by omega)])
 simp only [aeZ,h,aeQ,aeS,cX h,bK];by_cases al:(l.getD i default).Kind=3
 ·simp only [al,aeQ,aeS,ae5]
 ·by_cases aH:(l.getD i default).Kind=4
  ·simp only [aH,show¬ (4:Int)=3 by omega,aeQ,aeR,aeS,aeT,ae5,ae6]
  ·by_cases a6:(l.getD i default).Kind=1
   ·simp only [a6,show¬ (1:Int)=3 by omega,show¬ (1:Int)=4 by omega,aeQ,aeR,aeS,aeT,ae5,ae6]
   ·simp only [al,aH,a6,aeR,aeT,ae6]
theorem IK.word{i d:Nat}{e:Expr}{k B:Nat}{op:Int}(iH:20≤op∧op≤24)(ab:l.length≤1000000000)(hg:QN l){T R:List Token}(ei:fB l i (jD op::T) R)(hd:d≤23)(h:IL l (i+1) (d+1) e k B):IK l i d ⟨op,0,[],[e]⟩ k (B+1):=by
 intro n hn;obtain⟨n,rfl⟩:∃j,n=j+1:=⟨n-1,by omega⟩
 have cB:=ei.lt;have bf:=ei.hd;have hk:(l.getD i default).Kind=2:=by have:=congrArg Token.Kind bf;exact this.trans (Z9 op).2
 rw [aac ab cB,hk,if_neg (by decide),if_neg (by decide),if_neg (by decide)]
 unfold xf xe GX;rw [ZG n l i hg,ei.call,List.cons_append,aab op _ (by omega),ZH n l i d (by omega) (by omega),if_neg (by omega)]
 simp only [aP,show¬ op=0 by omega,show¬ op=25 by omega,show¬ op=26 by omega,show¬ op=27 by omega,aeR,aeT,aA.on]
 rw [df (by omega),h n (by omega)]
 rfl
end
open Go Go.Ab Go.Proofs
def aad{l:List Expr}{n:Int}(h:(l.length:Int)=n)(ad:n=2):∃a b,l=[a,b]:=by
 match l,h with
 |[a,b],_=>exact⟨a,b,rfl⟩
 |[],h=>simp at h;omega
 |[a],h=>simp at h;omega
 |a::b::c::l,h=>simp at h;omega
def aae{l:List Expr}{n:Int}(h:(l.length:Int)=n)(ad:n=1):∃a,l=[a]:=by
 match l,h with
 |[a],_=>exact⟨a,rfl⟩
 |[],h=>simp at h;omega
 |a::b::l,h=>simp at h;omega
def aaf{l:List Expr}{n:Int}(h:(l.length:Int)=n)(ad:n=0):l=[]:=by
 match l,h with
 |[],_=>rfl
 |a::l,h=>simp at h;omega
def Q2(e:Expr)(h:g' e):
 (e.Op=1∧e=⟨1,e.N,[],[]⟩)∨(e.Op=2∧e=⟨2,0,e.S,[]⟩)∨(e.Op=3∧e=⟨3,0,e.S,[]⟩)∨((25≤e.Op∧e.Op≤27)∧e=⟨e.Op,0,[],[]⟩)∨
 (∃a,e=⟨e.Op,0,[],[a]⟩∧g' a∧iw e=1+iw a∧(e.Op=9∨e.Op=18∨20≤e.Op∧e.Op≤24))∨
 (∃a b,e=⟨e.Op,0,[],[a,b]⟩∧g' a∧g' b∧iw e=1+max (iw a) (iw b)∧(4≤e.Op∧e.Op≤8∨10≤e.Op∧e.Op≤17∨e.Op=19)):=by
 obtain⟨Op,N,S,aw⟩:=e;obtain⟨⟨Z,ad⟩,al,aH,a6,bT,cI,dO⟩:=h;rcases Z' Z with⟨ha,hb⟩|⟨ha,hb⟩|⟨ha,hb⟩
 ·obtain rfl:=aaf ad ha;by_cases e1:Op=1
  ·subst e1;obtain rfl:=a6 (by omega);exact Or.inl ⟨rfl,rfl⟩
  ·obtain rfl:=aH e1;by_cases e2:Op=2
   ·subst e2;exact Or.inr (Or.inl ⟨rfl,rfl⟩)
   ·by_cases e3:Op=3
    ·subst e3;exact Or.inr (Or.inr (Or.inl ⟨rfl,rfl⟩))
    ·obtain rfl:=a6 ⟨e2,e3⟩;exact Or.inr (Or.inr (Or.inr (Or.inl ⟨⟨by simp only;omega,by simp only;omega⟩,rfl⟩)))
 ·obtain⟨a,rfl⟩:=aae ad ha;obtain rfl:=aH (by omega)
  obtain rfl:=a6 (by omega)
  exact Or.inr (Or.inr (Or.inr (Or.inr (Or.inl ⟨a,rfl,dO.1,by simp [iw,nr],hb⟩))))
 ·obtain⟨a,b,rfl⟩:=aad ad ha;obtain rfl:=aH (by omega)
  obtain rfl:=a6 (by omega)
  exact Or.inr (Or.inr (Or.inr (Or.inr (Or.inr ⟨a,b,rfl,dO.1,dO.2.1,by simp [iw,nr],hb⟩))))
def Q3{op:Int}{a b:Expr}(h:4≤op∧op≤8∨10≤op∧op≤17∨op=19):dJ ⟨op,0,[],[a,b]⟩=iS a.Op (dJ a) (if eT op=4 then 5 else eT op)++none::some (sn op)::none::iS b.Op (dJ b) (eT op+1):=by
 simp only [dJ,so,uI];rw [if_neg (by omega),if_neg (by omega),if_neg (by omega)]
def aag{op:Int}(h:4≤op∧op≤8∨10≤op∧op≤17∨op=19):eT op=1∨eT op=2∨eT op=4∨eT op=5∨eT op=6∨eT op=7:=by
 have:op=4∨op=5∨op=6∨op=7∨op=8∨op=10∨op=11∨op=12∨op=13∨op=14∨op=15∨op=16∨op=17∨op=19:=by omega
 rcases this with rfl|rfl|rfl|rfl|rfl|rfl|rfl|rfl|rfl|rfl|rfl|rfl|rfl|rfl<;>decide
section
variable {l:List Token}
abbrev x1(e:Expr)(ns:Nat):List Token:=kx (iS e.Op (dJ e) ns)
end
open Go Go.Ab Go.Proofs
section
variable {l:List Token}
def e7(l:List Token)(e:Expr):Prop:=∀(i d:Nat) (R:List Token),fB l i (kx (dJ e)) R→aaa R<(eT e.Op:Int)→d+2*iw e≤26→
 if eT e.Op=9 then IK l i d e (i+(kx (dJ e)).length) (24*(kx (dJ e)).length+20)else jy l i d (eT e.Op) e (i+(kx (dJ e)).length) (24*(kx (dJ e)).length+40-2*eT e.Op)
end
open Go Go.Ab Go.Proofs
def jE{k:Nat}(h:k≤1000000000000):ew k=true:=ZA (by omega)
def IM{k:Nat}(h:k≤1000000000000):room k 1=true:=by simp [room];omega
def Q4(n:Nat)(op:Int):wW n op=some ((eT op:Nat):Int):=by
 by_cases h:1≤op∧op≤27
 ·obtain rfl|rfl|rfl|rfl|rfl|rfl|rfl|rfl|rfl|rfl|rfl|rfl|rfl|rfl|rfl|rfl|rfl|rfl|rfl|rfl|rfl|rfl|rfl|rfl|rfl|rfl|rfl:op=1∨op=2∨op=3∨op=4∨op=5∨op=6∨op=7∨op=8∨op=9∨op=10∨op=11∨op=12∨op=13∨op=14∨op=15∨op=16∨op=17∨op=18∨op=19∨op=20∨op=21∨op=22∨op=23∨op=24∨op=25∨op=26∨op=27:=by omega
  all_goals rfl
 ·have e:eT op=9:=by
   unfold eT;rw [if_neg (by omega),if_neg (by omega),if_neg (by omega),if_neg (by omega),if_neg (by omega),if_neg (by omega),if_neg (by omega),if_neg (by omega)]
  rw [e];simp only [wW,pZ,Aq,wV,FL,show¬ op=17 by omega,show¬ op=16 by omega,show¬ op=18 by omega,show¬ op=10 by omega,show¬ op=11 by omega,show¬ op=12 by omega,show¬ op=13 by omega,show¬ op=14 by omega,show¬ op=15 by omega,show¬ op=19 by omega,show¬ op=4 by omega,show¬ op=5 by omega,show¬ op=6 by omega,show¬ op=7 by omega,show¬ op=8 by omega,show¬ op=9 by omega,aeR,aeT]
  rfl
def Q5(n:Nat)(op:Int)(h:20≤op∧op≤27):As n op=some (spell (jD op)):=by
 obtain rfl|rfl|rfl|rfl|rfl|rfl|rfl|rfl:op=20∨op=21∨op=22∨op=23∨op=24∨op=25∨op=26∨op=27:=by omega
 all_goals rfl
def aah(n:Nat)(op:Int)(h:4≤op∧op≤8∨10≤op∧op≤17∨op=19):Ar n op=some (spell (sn op)):=by
 have:op=4∨op=5∨op=6∨op=7∨op=8∨op=10∨op=11∨op=12∨op=13∨op=14∨op=15∨op=16∨op=17∨op=19:=by omega
 rcases this with rfl|rfl|rfl|rfl|rfl|rfl|rfl|rfl|rfl|rfl|rfl|rfl|rfl|rfl<;>rfl
def Q6(n:Nat)(i:Int)(h0:0≤i)(Z:i≤9223372036854775807):rI n i=some (Lib.decDigits i.toNat):=by
 unfold rI zM;rw [decide_eq_true (show(10:Int)=10 ∧ -9223372036854775808≤i∧i≤9223372036854775807 from⟨rfl,by omega,Z⟩)]
 simp only [bK,aP];unfold Lib.itoa;rw [if_neg (by omega)]
def x2(i:Int)(h0:0≤i)(Z:i≤9223372036854775807):(Lib.decDigits i.toNat).length≤21:=by
 have:=Lib.itoa_length_le i (by omega) Z
 unfold Lib.itoa at this
 rwa [if_neg (by omega)]at this
def x3(n:Nat)(c:UInt8)(b:ae7)(h:b.length≤100000000):n3 n ((c.toNat:Nat):Int) (e4 b)=some (e4 (b++[c])):=by
 unfold n3 tR;simp only [aP,QG,aeW,aeX,IM (show b.length+(0+1)≤1000000000000 by omega),bK,Zz]
def aai(n:Nat)(s:ae7)(hs:s.length≤4611686018427387904):∀m i,s.length<i+m→i≤s.length→wT n s m (i:Int)=some ((s.drop i).all okB):=by
 intro m;induction m with
 |zero=>intro i h ad;omega
 |succ m a'=>
  intro i hm hi;simp only [wT,FG,FF];by_cases h:i<s.length
  ·rw [iP s i 0 h,df (by omega),a' (i+1) (by omega) (by omega)]
   simp only [h,cX h,aeY,aeZ,aeQ,aeS,bK,ae4,List.all_cons,xW,f',fE,Iz];cases okB (s.getD i 0)<;>simp
  ·rw [kv s i h];simp [h]
def aaj{n:Nat}(s:ae7)(h:s.length<n)(hs:s.length≤4611686018427387904):FH n s=some (s.all okB):=by
 have:=aai n s hs n 0 (by omega) (by omega)
 rw [List.drop_zero]at this;exact this
def x4:∀s:ae7,(hX s).length≤2*s.length
 |[]=>Nat.le_refl _
 |c::s=>by
  have:=x4 s
  simp only [hX];split<;>simp only [aeW]<;>omega
def aak(s:ae7)(c:UInt8):hX (s++[c])=hX s++hX [c]:=by
 induction s with
 |nil=>rfl
 |cons d s a'=>simp only [List.cons_append,hX,a'];split<;>rfl
def aal(n:Nat)(s:ae7)(hs:s.length≤64):∀m i,s.length<i+m→i≤s.length→wU n s m (e4 (34::hX (s.take i))) (i:Int)=some (quo s,0):=by
 intro m;induction m with
 |zero=>intro i h ad;omega
 |succ m a'=>
  intro i hm hi;simp only [wU,FK,FI,FJ,Ao];have hlen:=x4 (s.take i);have aef:(s.take i).length≤i:=by simp;omega
  by_cases h:i<s.length
  ·(rw [df (by omega)];simp only [aeY])
   have hn:=a' (i+1) (by omega) (by omega)
   have bH:s.take (i+1)=s.take i++[s.getD i 0]:=by
    rw [List.take_add,iP s i 0 h,List.take_succ_cons,List.take_zero]
   rw [bH,aak]at hn;generalize s.getD i 0=c at hn
   simp only [h,cX h,aeZ,aeQ,aeS,bK,ae4,l',fE];by_cases hc:c.toNat=34∨c.toNat=92
   ·have hb:(decide (c.toNat=34)||decide (c.toNat=92))=true:=by rcases hc with hc|hc<;>rw [decide_eq_true hc]<;>simp
    have e1:=x3 n 92 (34::hX (s.take i)) (by simp only [aeW];omega)
    have e2:=x3 n c (34::hX (s.take i)++[92]) (by simp only [ae0,aeW,aeX];omega)
    rw [hb];simp only [aeS];rw [show n3 n 92 _=_ from e1]
    simp only [aP];rw [e2];simp only [aP];rw [show(34::hX (s.take i)++[92]++[c])=34::(hX (s.take i)++hX [c])by simp only [hX];rw [if_pos hc];simp]
    exact hn
   ·have hb:(decide (c.toNat=34)||decide (c.toNat=92))=false:=by rw [decide_eq_false (λe=>hc (Or.inl e)),decide_eq_false (λe=>hc (Or.inr e))];rfl
    have e2:=x3 n c (34::hX (s.take i)) (by simp only [aeW];omega)
    rw [hb];simp only [aeT];rw [e2];simp only [aP];rw [show(34::hX (s.take i)++[c])=34::(hX (s.take i)++hX [c])by simp only [hX];rw [if_neg hc];simp]
    exact hn
  ·have aam:i=s.length:=by omega
   subst aam;simp only [aeZ,Nat.lt_irrefl,aeR,aeT,List.take_length];have e1:=x3 n 34 (34::hX s) (by have:=x4 s;simp only [aeW];omega)
   rw [show n3 n 34 _=_ from e1]
   have ab:=x4 s;have d9:(e4 (34::hX s++[34])).length≤9223372036854775807:=by rw [QG];simp only [ae0,aeW,aeX];omega
   simp only [aP,o2,QF,QE,d9,aeQ,Bool.and_self,bK];rfl
def aan{n:Nat}(s:ae7)(h:kw s=true)(hn:100<n):Ap n s=some (quo s,0):=by
 unfold kw at h;simp only [Bool.and_eq_true,decide_eq_true_eq]at h;unfold Ap;simp only [f',show¬ 64<s.length by omega,aeR,aeT,aaj s (show s.length<n by omega) (by omega),aP,h.1,aeU]
 have e1:=x3 n 34 [] (by simp)
 rw [show n3 n 34 []=_ from e1]
 exact aal n s (by omega) n 0 (by omega) (by omega)
def aao(s:ae7):(quo s).length≤2*s.length+2:=by
 have:=x4 s
 simp only [quo,aeW,ae0,aeX];omega
def Q7{c:Prop}[Decidable c]{a b:Token}{k:Nat}(ha:(spell a).length≤k)(hb:(spell b).length≤k):(spell (if c then a else b)).length≤k:=by
 by_cases h:c
 ·rw [if_pos h];exact ha
 ·rw [if_neg h];exact hb
def Q8(op:Int):(spell (sn op)).length≤3:=by
 unfold sn
 repeat refine Q7 (by decide) ?_
 decide
def Ca(op:Int):(spell (jD op)).length≤6:=by
 unfold jD
 repeat refine Q7 (by decide) ?_
 decide
def qm(op:Int)(p:nq)(k:Nat):(flat (iS op p k)).length≤(flat p).length+2:=by
 unfold iS;split
 ·simp only [flat,o_,spell,fH,ae0,aeW];simp;omega
 ·omega
def pb{w:ae7}(h:gy w=true):w.length≤16:=by
 obtain⟨c,l,_,_,_,_,a6⟩:=QZ h;exact a6
def qS:∀(h:Nat) (e:Expr),iw e≤h→g' e→(flat (dJ e)).length≤4*dI e:=by
 intro h;induction h with
 |zero=>intro e he;rw [B_]at he;omega
 |succ h a'=>
  intro e he eR;have sr:=(IJ e).1 eR;have IE:=uG e;rcases Q2 e eR with⟨Z,ax⟩|⟨Z,ax⟩|⟨Z,ax⟩|⟨ai,ax⟩|⟨a,ax,ha,bf,iH⟩|⟨a,b,ax,ha,hb,bf,iH⟩
  ·have:=x2 e.N (sr.2.1 Z).1 (sr.2.1 Z).2
   have e2:flat (dJ e)=Lib.decDigits e.N.toNat++[]:=by rw [ax];rfl
   rw [e2,List.append_nil];omega
  ·have:=aao e.S
   have e2:flat (dJ e)=quo e.S++[]:=by rw [ax];rfl
   rw [e2,List.append_nil];omega
  ·have:=pb (sr.2.2.2.2.2.1 Z)
   have e2:flat (dJ e)=e.S++[]:=by rw [ax];rfl
   rw [e2,List.append_nil];omega
  ·have:=Ca e.Op
   generalize e.Op=op at ai ax this
   have e2:flat (dJ e)=spell (jD op)++([40]++([41]++[])):=by
    rw [ax];simp only [dJ,so,uI];rw [if_neg (by omega),if_neg (by omega),if_neg (by omega)];rfl
   rw [e2];simp only [ae0,aeW,aeX];omega
  ·have IN:=a' a (by omega) ha
   have IP:dI e=30+(dI a+1):=by rw [ax];simp [dI,lC]
   have:=Ca e.Op
   have al:=qm a.Op (dJ a) 3;have dO:=qm a.Op (dJ a) 8;generalize e.Op=op at iH ax this
   have e2:dJ e=if op=18 then some (kX [110,111,116])::none::iS a.Op (dJ a) 3 else if op=9 then some (fH [45])::iS a.Op (dJ a) 8 else some (jD op)::some (fH [40])::(dJ a++[some (fH [41])]):=by
    rw [ax];simp only [dJ,so,uI];rw [if_neg (by omega),if_neg (by omega),if_neg (by omega)]
   rw [e2];split
   ·simp only [flat,spell,kX,ae0,aeW];simp;omega
   ·split
    ·simp only [flat,spell,fH,ae0,aeW];simp;omega
    ·simp only [flat,o_,ae0];have e3:(spell (fH [40])).length=1:=rfl;have oS:(spell (fH [41])).length=1:=rfl;simp only [aeX];omega
  ·have IN:=a' a (by omega) ha
   have aap:=a' b (by omega) hb
   have IP:dI e=30+(dI a+1+(dI b+1)):=by rw [ax];simp [dI,lC]
   have:=Q8 e.Op
   have al:=qm a.Op (dJ a) (if eT e.Op=4 then 5 else eT e.Op)
   have dO:=qm b.Op (dJ b) (eT e.Op+1);generalize e.Op=op at iH ax this al dO
   have e2:dJ e=iS a.Op (dJ a) (if eT op=4 then 5 else eT op)++none::some (sn op)::none::iS b.Op (dJ b) (eT op+1):=by rw [ax,Q3 iH]
   rw [e2];simp only [o_,flat,ae0,aeW];omega
open Go Go.Ab Go.Proofs
def aaq(n:Nat):jU (n+1)=At n (jU n) (rJ n):=rfl
def aar(n:Nat):rJ (n+1)=Au n (jU n) (rJ n):=rfl
def x5{n:Nat}{e:Expr}{k:Nat}(h:jU n e=some (flat (dJ e)))(ab:(flat (dJ e)).length≤100000000):rJ (n+1) e (k:Int)=some (flat (iS e.Op (dJ e) k)):=by
 rw [aar];unfold Au iS;rw [Q4,h];simp only [aP,aeZ];by_cases hk:eT e.Op<k
 ·simp only [hk,aeQ,aeS,ae5];rw [jE (by simp;omega),jE (by simp;omega)]
  simp only [bK,flat,o_,spell,fH];simp
 ·simp only [hk,aeR,aeT,ae6]
def aas:∀(h:Nat) (e:Expr) (n:Nat),iw e≤h→g' e→2*h+200≤n→dI e≤1000000→jU n e=some (flat (dJ e)):=by
 intro h;induction h with
 |zero=>intro e n he;rw [B_]at he;omega
 |succ h a'=>
  intro e n he eR hn aeg;obtain⟨n,rfl⟩:∃j,n=j+1:=⟨n-1,by omega⟩
  obtain⟨n,rfl⟩:∃j,n=j+1:=⟨n-1,by omega⟩
  have sr:=(IJ e).1 eR;have IE:=uG e;rw [aaq];unfold At;rw [Q4];simp only [aP];rcases Q2 e eR with⟨Z,ax⟩|⟨Z,ax⟩|⟨Z,ax⟩|⟨ai,ax⟩|⟨a,ax,ha,bf,iH⟩|⟨a,b,ax,ha,hb,bf,iH⟩
  ·have e2:flat (dJ e)=Lib.decDigits e.N.toNat++[]:=by rw [ax];rfl
   rw [Q6 _ e.N (sr.2.1 Z).1 (sr.2.1 Z).2,e2,List.append_nil];simp only [Z,aeQ,aeS,aP]
  ·have e2:flat (dJ e)=quo e.S++[]:=by rw [ax];rfl
   rw [aan e.S (sr.2.2.2.2.1 Z) (by omega),e2,List.append_nil]
   simp only [Z,show¬ (2:Int)=1 by omega,aeQ,aeR,aeS,aeT,aP]
  ·have e2:flat (dJ e)=e.S++[]:=by rw [ax];rfl
   rw [e2,List.append_nil];simp only [Z,show¬ (3:Int)=1 by omega,show¬ (3:Int)=2 by omega,aeQ,aeR,aeS,aeT]
  ·have hw:=Ca e.Op;have aat:=Q5 (n+1) e.Op (by omega)
   have lb:eT e.Op=9:=by
    have:e.Op=25∨e.Op=26∨e.Op=27:=by omega
    rcases this with h|h|h<;>rw [h]<;>decide
   have eJ:e.aw=[]:=by rw [ax]
   have e2:flat (dJ e)=spell (jD e.Op)++([40]++([41]++[])):=by
    generalize e.Op=op at ai ax
    rw [ax];simp only [dJ,so,uI];rw [if_neg (by omega),if_neg (by omega),if_neg (by omega)];rfl
   rw [aat,e2];simp only [aP];rw [jE (show(spell (jD e.Op)).length+([40,41]:ae7).length≤1000000000000 by simp;omega)]
   simp only [lb,eJ,show¬ e.Op=1 by omega,show¬ e.Op=2 by omega,show¬ e.Op=3 by omega,show¬ e.Op=18 by omega,show¬ e.Op=9 by omega,aeR,aeT,aeX,l',aeQ,aeS,bK]
   simp
  ·have IP:dI e=30+(dI a+1):=by rw [ax];simp [dI,lC]
   have x6:=a' a n (by omega) ha (by omega) (by omega)
   have aau:=a' a (n+1) (by omega) ha (by omega) (by omega)
   have IN:=qS (iw a) a (Nat.le_refl _) ha;have eJ:e.aw=[a]:=by rw [ax]
   have al:=qm a.Op (dJ a) 3;have dO:=qm a.Op (dJ a) 8
   have e2:dJ e=if e.Op=18 then some (kX [110,111,116])::none::iS a.Op (dJ a) 3 else if e.Op=9 then some (fH [45])::iS a.Op (dJ a) 8 else some (jD e.Op)::some (fH [40])::(dJ a++[some (fH [41])]):=by
    generalize e.Op=op at iH ax
    rw [ax];simp only [dJ,so,uI];rw [if_neg (by omega),if_neg (by omega),if_neg (by omega)]
   rw [e2,eJ];simp only [aeW,aeX,uF (show 0<0+1 by omega),bK,List.getD_cons_zero,show¬ e.Op=1 by omega,show¬ e.Op=2 by omega,show¬ e.Op=3 by omega,aeR,aeT]
   by_cases IQ:e.Op=18
   ·have:=x5 (k:=3) x6 (by omega)
    rw [IQ];simp only [aeQ,aeS,ae5,show eT 18=3 from rfl]
    rw [this];simp only [aP];rw [jE (by simp;omega)]
    rfl
   ·by_cases gX:e.Op=9
    ·have:=x5 (k:=8) x6 (by omega)
     rw [gX];simp only [show¬ (9:Int)=18 by omega,aeQ,aeR,aeS,aeT,ae5,ae6,show eT 9=8 from rfl]
     rw [this];simp only [aP];rw [jE (by simp;omega)]
     rfl
    ·have aeh:20≤e.Op∧e.Op≤24:=by omega
     have lb:eT e.Op=9:=by
      have:e.Op=20∨e.Op=21∨e.Op=22∨e.Op=23∨e.Op=24:=by omega
      rcases this with h|h|h|h|h<;>rw [h]<;>decide
     have hw:=Ca e.Op;rw [Q5 (n+1) e.Op (by omega),aau,if_neg IQ,if_neg gX]
     have e3:flat (some (jD e.Op)::some (fH [40])::(dJ a++[some (fH [41])]))=spell (jD e.Op)++([40]++(flat (dJ a)++([41]++[]))):=by
      simp only [flat,o_];rfl
     rw [e3];generalize spell (jD e.Op)=W at hw
     simp only [IQ,gX,lb,aeR,aeQ,aeT,aeS,aP];rw [jE (show W.length+(0+1)≤1000000000000 by omega),jE (show(W++([40]:ae7)).length+(flat (dJ a)).length≤1000000000000 by simp;omega),jE (show((W++([40]:ae7))++flat (dJ a)).length+(0+1)≤1000000000000 by simp;omega)]
     simp only [show((0+1:Nat):Int)=1 from rfl,show¬ (1:Int)=0 by omega,show((9:Nat):Int)=9 from rfl,aeQ,aeR,aeS,aeT,bK]
     simp
  ·have IP:dI e=30+(dI a+1+(dI b+1)):=by rw [ax];simp [dI,lC]
   have x6:=a' a n (by omega) ha (by omega) (by omega)
   have aav:=a' b n (by omega) hb (by omega) (by omega)
   have IN:=qS (iw a) a (Nat.le_refl _) ha;have aap:=qS (iw b) b (Nat.le_refl _) hb;have eJ:e.aw=[a,b]:=by rw [ax]
   have lb:=aag iH;have aei:=Q8 e.Op
   have e2:dJ e=iS a.Op (dJ a) (if eT e.Op=4 then 5 else eT e.Op)++none::some (sn e.Op)::none::iS b.Op (dJ b) (eT e.Op+1):=by
    generalize e.Op=op at iH ax
    rw [ax,Q3 iH]
   have al:=qm a.Op (dJ a) (if eT e.Op=4 then 5 else eT e.Op)
   have dO:=qm b.Op (dJ b) (eT e.Op+1);have IR:=x5 (k:=eT e.Op+1) aav (by omega)
   rw [e2,eJ,aah (n+1) e.Op iH];simp only [aeW,aeX,uF (show 0<0+1+1 by omega),bK,List.getD_cons_zero,List.getD_cons_succ,show¬ e.Op=1 by omega,show¬ e.Op=2 by omega,show¬ e.Op=3 by omega,show¬ e.Op=18 by omega,show¬ e.Op=9 by omega,aeR,aeT,l',show¬ eT e.Op=9 by omega,show a_ 1 (0+1+1)=true from rfl]
   by_cases aH:eT e.Op=4
   ·have vi:=x5 (k:=5) x6 (by omega)
    rw [aH]at IR ⊢;rw [if_pos rfl];rw [if_pos aH]at al;simp only [aeQ,aeS];rw [show rJ (n+1) a 5=_ from vi,show rJ (n+1) b 5=_ from IR]
    simp only [aP];rw [aH]at dO;rw [jE (by simp;omega),jE (by simp;omega),jE (by simp;omega),jE (by simp only [ae0,aeW,aeX];omega)]
    simp only [bK,o_,flat];simp
   ·have vi:=x5 (k:=eT e.Op) x6 (by omega)
    rw [if_neg aH]at al ⊢;simp only [aH,aeR,aeT];rw [vi,df (by omega),IR]
    simp only [aP];rw [jE (by simp;omega),jE (by simp;omega),jE (by simp;omega),jE (by simp only [ae0,aeW,aeX];omega)]
    simp only [bK,o_,flat];simp
open Go Go.Ab Go.Proofs
mutual
def ky:Expr→Prop
 |⟨Op,N,S,aw⟩=>N≤9223372036854775807∧S.length≤9223372036854775807∧aw.length≤9223372036854775807∧uJ aw
def uJ:List Expr→Prop
 |[]=>True
 |x::l=>ky x∧uJ l
end
def Cb(e:Expr):ky e↔e.N≤9223372036854775807∧e.S.length≤9223372036854775807∧e.aw.length≤9223372036854775807∧uJ e.aw:=by cases e;rfl
def Q9:∀(l:List Expr) (i:Nat),i<l.length→uJ l→ky (l.getD i default)
 |[],i,h,_=>by simp at h
 |x::l,0,h,ab=>ab.1
 |x::l,i+1,h,ab=>by simp only [List.getD_cons_succ];exact Q9 l i (by simpa using h) ab.2
mutual
def oe:Expr→Nat
 |⟨_,_,S,aw⟩=>1+S.length / 64+ss aw
def ss:List Expr→Nat
 |[]=>0
 |x::l=>oe x+ss l
end
def aaw(e:Expr):oe e=1+e.S.length / 64+ss e.aw:=by cases e;rfl
mutual
def IS:∀e:Expr,dI e+1≤95*oe e
 |⟨Op,N,S,aw⟩=>by
  have:=Q' aw
  simp only [dI,oe];omega
def Q':∀l:List Expr,lC l≤95*ss l
 |[]=>Nat.le_refl _
 |x::l=>by
  have Z:=IS x;have ad:=Q' l;simp only [lC,ss];omega
end
def IT(k:Nat):Int.tdiv ((k:Nat):Int) 64=((k / 64:Nat):Int):=by
 rw [Int.tdiv_eq_ediv_of_nonneg (by omega)];rfl
def aax:∀(n:Nat) (e:Expr) (m:Nat),m≤1000→m+3≤n→ky e→
 ∃r:Nat,n8 n e (m:Int)=some (r:Int)∧1≤r∧r≤m+144115188075855873∧(r≤m→r=oe e):=by
 intro n;induction n with
 |zero=>intro e m h ad;omega
 |succ n a'=>
  intro e m hm hn he;obtain⟨Z,ad,al,aH⟩:=(Cb e).1 he;simp only [n8,Br];rw [IT];rw [show ae9 ((e.S.length / 64:Nat):Int)=((e.S.length / 64:Nat):Int)by rw [wr]<;>omega]
  rw [show ae9 (1+((e.S.length / 64:Nat):Int))=((1+e.S.length / 64:Nat):Int)by rw [wr]<;>omega]
  have jX:∀k i v,m+2≤v+k→i≤e.aw.length→i≤v→1≤v→v≤m+144115188075855873→1≤k→
   ∃r:Nat,uk n (n8 n) (m:Int) e k (v:Int) (i:Int)=some (r:Int)∧v≤r∧r≤m+144115188075855873∧(r≤m→r=v+ss (e.aw.drop i)):=by
   intro k;induction k with
   |zero=>intro i v Z ad h0 al aH a6;omega
   |succ k uK=>
    intro i v g1 g2 g0 g3 g4 g5;simp only [uk,Bq,Bp,gx,aeZ,Int.ofNat_le];by_cases hi:i<e.aw.length
    ·by_cases ar:v≤m
     ·obtain⟨ah,e1,e2,e3,oS⟩:=a' (e.aw.getD i default) (m-v) (by omega) (by omega) (Q9 _ _ hi aH)
      (rw [show ae9 ((m:Int)-(v:Int))=((m-v:Nat):Int)by rw [wr]<;>omega,df (by omega)];simp only [aeY];rw [e1])
      simp only [hi,ar,aeQ,Bool.and_self,aeS,cX hi,bK,aP];rw [show ae9 ((v:Int)+(ah:Int))=((v+ah:Nat):Int)by rw [wr]<;>omega]
      obtain⟨r,f1,f2,f3,f4⟩:=uK (i+1) (v+ah) (by omega) (by omega) (by omega) (by omega) (by omega) (by omega)
      refine⟨r,f1,by omega,f3,λai=>?_⟩
      have:=f4 ai
      have hy:=oS (by omega)
      rw [iP e.aw i default hi];simp only [ss];omega
     ·simp only [hi,ar,aeQ,aeR,Bool.and_false,aeT];exact⟨v,rfl,Nat.le_refl _,g4,λh=>absurd h ar⟩
    ·rw [kv e.aw i hi];simp only [hi,aeR,Bool.false_and,aeT];exact⟨v,rfl,Nat.le_refl _,g4,λh=>rfl⟩
  obtain⟨r,f1,f2,f3,f4⟩:=jX n 0 (1+e.S.length / 64) (by omega) (by omega) (by omega) (by omega) (by omega) (by omega)
  exact⟨r,f1,by omega,f3,λai=>by rw [f4 ai,aaw,List.drop_zero]⟩
def aay:∀(h:Nat) (e:Expr) (d:Nat),iw e≤h→ky e→iv e (d:Int)=0→d≤1000→g' e∧d+iw e≤13:=by
 intro h;induction h with
 |zero=>intro e d he;rw [B_]at he;omega
 |succ h a'=>
  intro e d he hi ar hd;obtain⟨i1,i2,i3,i4⟩:=(Cb e).1 hi;rw [QP]at ar
  have lS:mF e (d:Int)=0:=by
   by_cases h0:mF e (d:Int)=0
   ·exact h0
   ·rw [if_neg h0]at ar;exact absurd ar h0
  rw [if_pos lS]at ar;unfold mF at lS;split at lS
  ·omega
  rename_i g1;split at lS
  ·omega
  rename_i g2;split at lS
  ·omega
  rename_i g3;split at lS
  ·omega
  rename_i g4;simp only [not_or,not_and,Bool.not_eq_false]at g1 g2 g3;obtain⟨aR,a2,a3⟩:=g1;obtain⟨cH,iD,IU⟩:=g3
  have iH:1≤e.Op∧e.Op≤27:=by
   unfold hW at aR;by_cases Z:e.Op<1
   ·simp [Z]at aR
   ·by_cases ad:27<e.Op
    ·simp [ad]at aR
    ·omega
  rw [show ae9 ((d:Int)+1)=((d+1:Nat):Int)by rw [wr]<;>omega]at ar
  have ab:∀l:List Expr,nr l≤h→uJ l→o8 l ((d+1:Nat):Int)=0→B' l∧(d+1+nr l≤13∨l=[]):=by
   intro l;induction l with
   |nil=>intro _ _ _;exact⟨trivial,Or.inr rfl⟩
   |cons x l aaz=>
    intro bf hin q7;simp only [nr]at bf;simp only [o8]at q7
    have hx:iv x ((d+1:Nat):Int)=0:=by
     by_cases h0:iv x ((d+1:Nat):Int)=0
     ·exact h0
     ·rw [if_neg h0]at q7;exact absurd q7 h0
    rw [if_pos hx]at q7;obtain⟨fg,fD⟩:=a' x (d+1) (by omega) hin.1 hx (by omega)
    obtain⟨aO,bj⟩:=aaz (by omega) hin.2 q7
    refine⟨⟨fg,aO⟩,Or.inl ?_⟩
    simp only [nr];rcases bj with bj|rfl
    ·omega
    ·simp only [nr];omega
  have Q_:=B_ e;obtain⟨cq,aq⟩:=ab e.aw (by omega) i4 ar
  refine⟨(IJ e).2 ⟨⟨iH,?_⟩,λZ=>⟨by omega,i1⟩,λZ=>?_,λZ=>?_,λZ=>?_,λZ=>?_,cq⟩,?_⟩
  ·by_cases hc:(e.aw.length:Int)=hW e.Op
   ·exact hc
   ·exact absurd hc IU
  ·by_cases hc:e.N=0
   ·exact hc
   ·exact absurd hc (a2 Z)
  ·by_cases hc:e.S=[]
   ·exact hc
   ·exact absurd hc (a3 Z.1 Z.2)
  ·exact iD Z
  ·exact g2 Z
  ·rcases aq with aq|aq
   ·omega
   ·rw [aq]at Q_;simp only [nr]at Q_;omega
open Go Go.Ab Go.Proofs
mutual
def og:Stmt→Prop
 |⟨_,Name,Max,A,B,Body,bR⟩=>(-9223372036854775808≤Max∧Max≤9223372036854775807)∧Name.length≤9223372036854775807∧ky A∧ky B∧oh Body∧oh bR
def oh:List Stmt→Prop
 |[]=>True
 |x::l=>og x∧oh l
end
def IV(s:Stmt):og s↔(-9223372036854775808≤s.Max∧s.Max≤9223372036854775807)∧s.Name.length≤9223372036854775807∧ky s.A∧ky s.B∧oh s.Body∧oh s.bR:=by cases s;rfl
def Ra:∀(l:List Stmt) (i:Nat),i<l.length→oh l→og (l.getD i default)
 |[],i,h,_=>by simp at h
 |x::l,0,h,ab=>ab.1
 |x::l,i+1,h,ab=>by simp only [List.getD_cons_succ];exact Ra l i (by simpa using h) ab.2
mutual
def Cc:Stmt→Nat
 |⟨_,Name,_,A,B,Body,bR⟩=>1+Name.length / 64+oe A+oe B+nt Body+nt bR
def nt:List Stmt→Nat
 |[]=>0
 |x::l=>Cc x+nt l
end
def aaA(s:Stmt):Cc s=1+s.Name.length / 64+oe s.A+oe s.B+nt s.Body+nt s.bR:=by cases s;rfl
mutual
def aaB:∀s:Stmt,fst s+1≤150*Cc s
 |⟨Op,Name,Max,A,B,Body,bR⟩=>by
  have Z:=IS A;have ad:=IS B;have al:=Cd Body;have aH:=Cd bR;simp only [fst,Cc];omega
def Cd:∀l:List Stmt,eS l≤150*nt l
 |[]=>Nat.zero_le _
 |x::l=>by
  have Z:=aaB x;have ad:=Cd l;simp only [eS,nt];omega
end
def aaC(n:Nat)(e:Expr)(m:Int)(hm:m<0)(hn:2≤n)(he:ky e):n8 n e m=some ((1+e.S.length / 64:Nat):Int):=by
 obtain⟨n,rfl⟩:∃k,n=k+2:=⟨n-2,by omega⟩
 obtain⟨Z,ad,al,aH⟩:=(Cb e).1 he;simp only [n8,Br];rw [IT];rw [show ae9 ((e.S.length / 64:Nat):Int)=((e.S.length / 64:Nat):Int)by rw [wr]<;>omega]
 rw [show ae9 (1+((e.S.length / 64:Nat):Int))=((1+e.S.length / 64:Nat):Int)by rw [wr]<;>omega]
 simp only [uk,Bq,Bp,gx];rw [show decide (((1+e.S.length / 64:Nat):Int)≤m)=false from decide_eq_false (by omega)]
 simp
def Rb(n:Nat)(e:Expr)(m:Int)(hm:m≤1000)(hn:m+3≤n)(IF:3≤n)(he:ky e):
 ∃r:Nat,n8 n e m=some (r:Int)∧1≤r∧(r:Int)≤(if m<0 then 0 else m)+144115188075855873∧((r:Int)≤m→r=oe e):=by
 by_cases h:m<0
 ·have ad:=((Cb e).1 he).2.1;exact⟨_,aaC n e m h (by omega) he,by omega,by rw [if_pos h];omega,λai=>by omega⟩
 ·obtain⟨k,rfl⟩:=Int.eq_ofNat_of_zero_le (show 0≤m by omega)
  obtain⟨r,Z,ad,al,aH⟩:=aax n e k (by omega) (by omega) he
  exact⟨r,Z,ad,by rw [if_neg h];omega,λai=>aH (by omega)⟩
def aaD:∀(n:Nat) (l:List Stmt) (m:Int),-4611686018427387904≤m→m≤1000→m+6≤n→5≤n→oh l→
 ∃r:Nat,ul n l m=some (r:Int)∧(r:Int)≤(if m<0 then 0 else m+576460752303423500)∧((r:Int)≤m→r=nt l):=by
 intro n;induction n with
 |zero=>intro l m _ _ _ h;omega
 |succ n a'=>
  intro l m aej hm hn IF ab;simp only [ul,HU]
  have jX:∀(k i v:Nat),m+2≤v+k→1≤k→i≤v→(v:Int)≤(if m<0 then 0 else m+576460752303423500)→
   ∃r:Nat,xu n (ul n) l m k (v:Int) (i:Int)=some (r:Int)∧v≤r∧(r:Int)≤(if m<0 then 0 else m+576460752303423500)∧((r:Int)≤m→r=v+nt (l.drop i)):=by
   intro k;induction k with
   |zero=>intro i v _ h;omega
   |succ k uK=>
    intro i v g1 g2 g3 g4;simp only [xu,HT,HS,gx,aeZ];by_cases hi:i<l.length
    ·by_cases ar:(v:Int)≤m
     ·have Rc:¬ m<0:=by omega
      rw [if_neg Rc];simp only [if_neg Rc]at uK g4;obtain⟨aR,a2,a3,a4,a5,nu⟩:=(IV _).1 (Ra l i hi ab)
      (simp only [aeY])
      generalize hs:l.getD i default=s at aR a2 a3 a4 a5 nu
      simp only [hi,ar,aeQ,Bool.and_self,aeS,cX hi,bK];rw [IT];rw [show ae9 ((s.Name.length / 64:Nat):Int)=((s.Name.length / 64:Nat):Int)by rw [wr]<;>omega]
      rw [show ae9 ((v:Int)+1)=((v+1:Nat):Int)by rw [wr]<;>omega]
      rw [show ae9 (((v+1:Nat):Int)+((s.Name.length / 64:Nat):Int))=((v+1+s.Name.length / 64:Nat):Int)by rw [wr]<;>omega]
      rw [show ae9 (m-((v+1+s.Name.length / 64:Nat):Int))=m-((v+1+s.Name.length / 64:Nat):Int)by rw [wr]<;>omega]
      obtain⟨ah,e1,cH,c1,d1⟩:=Rb n s.A (m-((v+1+s.Name.length / 64:Nat):Int)) (by omega) (by omega) (by omega) a3
      rw [e1];simp only [aP];have JT:(v+1+s.Name.length / 64+ah:Nat)≤m+288230376151711750:=by split at c1<;>omega
      rw [show ae9 (((v+1+s.Name.length / 64:Nat):Int)+(ah:Int))=((v+1+s.Name.length / 64+ah:Nat):Int)by rw [wr]<;>omega]
      rw [show ae9 (m-((v+1+s.Name.length / 64+ah:Nat):Int))=m-((v+1+s.Name.length / 64+ah:Nat):Int)by rw [wr]<;>omega]
      obtain⟨ak,e2,iD,c2,d2⟩:=Rb n s.B (m-((v+1+s.Name.length / 64+ah:Nat):Int)) (by omega) (by omega) (by omega) a4
      rw [e2];simp only [aP];have JU:(v+1+s.Name.length / 64+ah+ak:Nat)≤m+432345564227567625:=by split at c2<;>omega
      rw [show ae9 (((v+1+s.Name.length / 64+ah:Nat):Int)+(ak:Int))=((v+1+s.Name.length / 64+ah+ak:Nat):Int)by rw [wr]<;>omega]
      rw [show ae9 (m-((v+1+s.Name.length / 64+ah+ak:Nat):Int))=m-((v+1+s.Name.length / 64+ah+ak:Nat):Int)by rw [wr]<;>omega]
      obtain⟨aE,e3,c3,d3⟩:=a' s.Body (m-((v+1+s.Name.length / 64+ah+ak:Nat):Int)) (by omega) (by omega) (by omega) (by omega) a5
      rw [e3];simp only [aP];have aek:(v+1+s.Name.length / 64+ah+ak+aE:Nat)≤m+576460752303423500:=by split at c3<;>omega
      rw [show ae9 (((v+1+s.Name.length / 64+ah+ak:Nat):Int)+(aE:Int))=((v+1+s.Name.length / 64+ah+ak+aE:Nat):Int)by rw [wr]<;>omega]
      rw [show ae9 (m-((v+1+s.Name.length / 64+ah+ak+aE:Nat):Int))=m-((v+1+s.Name.length / 64+ah+ak+aE:Nat):Int)by rw [wr]<;>omega]
      obtain⟨bn,oS,c4,d4⟩:=a' s.bR (m-((v+1+s.Name.length / 64+ah+ak+aE:Nat):Int)) (by omega) (by omega) (by omega) (by omega) nu
      rw [oS];simp only [aP];have ael:(v+1+s.Name.length / 64+ah+ak+aE+bn:Nat)≤m+576460752303423500:=by split at c4<;>omega
      rw [show ae9 (((v+1+s.Name.length / 64+ah+ak+aE:Nat):Int)+(bn:Int))=((v+1+s.Name.length / 64+ah+ak+aE+bn:Nat):Int)by rw [wr]<;>omega]
      rw [df (by omega)]
      obtain⟨r,f1,f2,f3,f4⟩:=uK (i+1) (v+1+s.Name.length / 64+ah+ak+aE+bn) (by omega) (by omega) (by omega) (by omega)
      refine⟨r,f1,by omega,f3,λai=>?_⟩
      have h0:=f4 ai;have Z:=d1 (by omega)
      have ad:=d2 (by omega)
      have al:=d3 (by omega)
      have aH:=d4 (by omega)
      rw [iP l i default hi,hs];have:=aaA s
      simp only [nt];omega
     ·simp only [hi,ar,aeQ,aeR,Bool.and_false,aeT];exact⟨v,rfl,Nat.le_refl _,g4,λh=>absurd h ar⟩
    ·rw [kv l i hi];simp only [hi,aeR,Bool.false_and,aeT];exact⟨v,rfl,Nat.le_refl _,g4,λh=>rfl⟩
  obtain⟨r,f1,f2,f3,f4⟩:=jX n 0 0 (by omega) (by omega) (by omega) (by split<;>omega)
  exact⟨r,f1,f3,λai=>by rw [f4 ai,List.drop_zero];omega⟩
def pc(p:bb):Prop:=p.Name.length≤9223372036854775807∧p.Params.length≤9223372036854775807∧(∀i,i<p.Params.length→(p.Params.getD i default).Name.length≤9223372036854775807)∧oh p.Body
def Rd:∀l:List Param,(∀i,i<l.length→(l.getD i default).Name.length≤200)→iu l≤400*l.length
 |[],_=>Nat.le_refl _
 |x::l,h=>by
  have h0:=h 0 (by simp)
  have Z:=Rd l λi hi=>by have:=h (i+1) (by simpa using hi);simpa using this
  simp only [List.getD_cons_zero]at h0;simp only [iu,aeW];omega
def Ce(p:bb)(m:Nat):Prop:=p.Name.length≤200∧p.Params.length≤40∧iu p.Params≤16000∧nt p.Body≤m
def aaE{n:Nat}(p:bb)(m:Nat)(hm:m≤1000)(hn:1100≤n)(hp:pc p):∃b,xw n p (m:Int)=some b∧(b=true→Ce p m):=by
 obtain⟨Z,ad,al,aH⟩:=hp;simp only [xw,fE];by_cases hc:40<p.Params.length∨200<p.Name.length
 ·rw [show(decide (40<((p.Params.length:Nat):Int))||decide (200<((p.Name.length:Nat):Int)))=true by
   rcases hc with h|h
   ·rw [decide_eq_true (show 40<((p.Params.length:Nat):Int)by omega)];rfl
   ·rw [decide_eq_true (show 200<((p.Name.length:Nat):Int)by omega),ae4]]
  exact⟨false,rfl,λh=>by cases h⟩
 ·rw [show(
   decide (40<((p.Params.length:Nat):Int))||decide (200<((p.Name.length:Nat):Int)))=false by
   rw [decide_eq_false (show¬ 40<((p.Params.length:Nat):Int)by omega),decide_eq_false (show¬ 200<((p.Name.length:Nat):Int)by omega)];rfl]
  simp only [aeT]
  have jX:∀k i,p.Params.length<i+k→i≤p.Params.length→(∀j,j<i→(p.Params.getD j default).Name.length≤200)→∃b,xv n (m:Int) p k (i:Int)=some b∧(b=true→Ce p m):=by
   intro k;induction k with
   |zero=>intro i g1 g2;omega
   |succ k uK=>
    intro i g1 g2 g3;simp only [xv,HW,HV,aeZ,aeY];by_cases hi:i<p.Params.length
    ·simp only [hi,aeQ,aeS,cX hi,bK];by_cases hx:200<(p.Params.getD i default).Name.length
     ·rw [decide_eq_true (show 200<(((p.Params.getD i default).Name.length:Nat):Int)by omega)]
      exact⟨false,rfl,λh=>by cases h⟩
     ·rw [decide_eq_false (show¬ 200<(((p.Params.getD i default).Name.length:Nat):Int)by omega),df (by omega)]
      exact uK (i+1) (by omega) (by omega) λj hj=>by
       by_cases h:j<i
       ·exact g3 j h
       ·obtain rfl:j=i:=by omega
        omega
    ·simp only [hi,aeR,aeT];obtain⟨r,f1,f2,f3⟩:=aaD n p.Body (m:Int) (by omega) (by omega) (by omega) (by omega) aH
     rw [f1];refine⟨_,rfl,λhb=>?_⟩
     have hb:=of_decide_eq_true hb;have:=f3 hb
     have a7:=Rd p.Params λj hj=>g3 j (by omega)
     exact⟨by omega,by omega,by omega,by omega⟩
  exact jX n 0 (by omega) (by omega) λj hj=>by omega
open Go Go.Ab Go.Proofs
abbrev hY:Expr:=⟨0,0,[],[]⟩
def mb(e:Expr):Prop:=g' e∧iw e≤12
def Cf(s:Stmt):Prop:=
 ((s.Op=1∨s.Op=2)∧s=⟨s.Op,s.Name,0,s.A,hY,[],[]⟩∧gy s.Name=true∧mb s.A)∨
 (s=⟨3,[],0,s.A,s.B,[],[]⟩∧mb s.A∧mb s.B)∨
 ((s.Op=4∨s.Op=7)∧s=⟨s.Op,[],0,s.A,hY,[],[]⟩∧mb s.A)∨
 (s=⟨5,[],0,s.A,hY,s.Body,s.bR⟩∧mb s.A)∨
 (s=⟨6,s.Name,s.Max,s.A,s.B,s.Body,[]⟩∧gy s.Name=true∧(1≤s.Max∧s.Max≤16)∧mb s.A∧mb s.B)∨
 (s=⟨8,[],s.Max,hY,hY,[],[]⟩∧0≤s.Max∧s.Max≤999)
mutual
def x7:Stmt→Nat→Prop
 |⟨Op,Name,Max,A,B,Body,bR⟩,d=>d≤12∧Cf ⟨Op,Name,Max,A,B,Body,bR⟩∧kz Body (d+1)∧kz bR (d+1)
def kz:List Stmt→Nat→Prop
 |[],_=>True
 |s::l,d=>x7 s d∧kz l d
end
def Re(s:Stmt)(d:Nat):x7 s d↔d≤12∧Cf s∧kz s.Body (d+1)∧kz s.bR (d+1):=by cases s;rfl
def su{e:Expr}(h:od e=true):e=hY:=by
 obtain⟨a,b,c,l⟩:=e;unfold od at h;simp only [Bool.and_eq_true,decide_eq_true_eq]at h;obtain⟨⟨⟨rfl,rfl⟩,rfl⟩,h⟩:=h;rw [List.length_eq_zero_iff]at h;subst h;rfl
def pd{e:Expr}(hi:ky e)(h:iv e 1=0):mb e:=by
 obtain⟨Z,ad⟩:=aay (iw e) e 1 (Nat.le_refl _) hi h (by omega)
 exact⟨Z,by omega⟩
def aaF{s:Stmt}{d:Int}(hi:og s)(h:ma s d=0):d≤12∧Cf s:=by
 obtain⟨i1,i2,i3,i4,i5,i6⟩:=(IV s).1 hi;unfold ma at h;split at h
 ·omega
 rename_i g1;split at h
 ·omega
 rename_i g2;split at h
 ·rename_i g;exact absurd h g.2
 rename_i g3;split at h
 ·rename_i g;exact absurd h g.2
 rename_i g4;split at h
 ·omega
 rename_i g5;refine⟨by omega,?_⟩
 simp only [not_or,not_and,Bool.not_eq_false,Bool.not_eq_true,Decidable.not_not]at g1 g2 g3 g4;obtain⟨aR,a2,a3⟩:=g1
 have iH:1≤s.Op∧s.Op≤8:=by
  by_cases bf:1≤s.Op∧s.Op≤8
  ·exact bf
  ·rw [show mG s.Op=(⟨false,false,false,false,false,false⟩,false) by
    unfold mG;rw [if_neg (by omega),if_neg (by omega),if_neg (by omega),if_neg (by omega),if_neg (by omega),if_neg (by omega)]]at aR
   cases aR
 obtain⟨Op,Name,Max,A,B,Body,bR⟩:=s;simp only at *
 obtain rfl|rfl|rfl|rfl|rfl|rfl|rfl|rfl:Op=1∨Op=2∨Op=3∨Op=4∨Op=5∨Op=6∨Op=7∨Op=8:=by omega
 all_goals
  simp only [xZ,sl,mG]at a2 a3 g2 g3 g4;simp [-List.length_eq_zero_iff]at a2 a3 g2 g3 g4
 all_goals unfold Cf;simp only []
 ·obtain⟨⟨⟨dg,rfl⟩,Z⟩,ad⟩:=a2;obtain rfl:=su dg;obtain rfl:=List.eq_nil_of_length_eq_zero Z;obtain rfl:=List.eq_nil_of_length_eq_zero ad;exact Or.inl ⟨Or.inl trivial,rfl,g2,pd i3 g3⟩
 ·obtain⟨⟨⟨dg,rfl⟩,Z⟩,ad⟩:=a2;obtain rfl:=su dg;obtain rfl:=List.eq_nil_of_length_eq_zero Z;obtain rfl:=List.eq_nil_of_length_eq_zero ad;exact Or.inl ⟨Or.inr trivial,rfl,g2,pd i3 g3⟩
 ·obtain⟨⟨⟨rfl,rfl⟩,Z⟩,ad⟩:=a2;obtain rfl:=List.eq_nil_of_length_eq_zero Z;obtain rfl:=List.eq_nil_of_length_eq_zero ad;exact Or.inr (Or.inl ⟨rfl,pd i3 g3,pd i4 g4⟩)
 ·obtain⟨⟨⟨⟨rfl,dg⟩,rfl⟩,Z⟩,ad⟩:=a2;obtain rfl:=su dg;obtain rfl:=List.eq_nil_of_length_eq_zero Z;obtain rfl:=List.eq_nil_of_length_eq_zero ad;exact Or.inr (Or.inr (Or.inl ⟨Or.inl trivial,rfl,pd i3 g3⟩))
 ·obtain⟨⟨rfl,dg⟩,rfl⟩:=a2;obtain rfl:=su dg;exact Or.inr (Or.inr (Or.inr (Or.inl ⟨rfl,pd i3 g3⟩)))
 ·obtain rfl:=List.eq_nil_of_length_eq_zero a2;exact Or.inr (Or.inr (Or.inr (Or.inr (Or.inl ⟨rfl,g2,a3,pd i3 g3,pd i4 g4⟩))))
 ·obtain⟨⟨⟨⟨rfl,dg⟩,rfl⟩,Z⟩,ad⟩:=a2;obtain rfl:=su dg;obtain rfl:=List.eq_nil_of_length_eq_zero Z;obtain rfl:=List.eq_nil_of_length_eq_zero ad;exact Or.inr (Or.inr (Or.inl ⟨Or.inr trivial,rfl,pd i3 g3⟩))
 ·obtain⟨⟨⟨⟨rfl,ei⟩,dg⟩,Z⟩,ad⟩:=a2;obtain rfl:=su ei;obtain rfl:=su dg;obtain rfl:=List.eq_nil_of_length_eq_zero Z;obtain rfl:=List.eq_nil_of_length_eq_zero ad;exact Or.inr (Or.inr (Or.inr (Or.inr (Or.inr ⟨rfl,a3⟩))))
mutual
def Rf:∀(s:Stmt) (d:Int) (r:Nat×Int),(np s d r).2=0→r.2=0∧ma s d=0
 |⟨Op,Name,Max,A,B,Body,bR⟩,d,r,h=>by
  simp only [np]at h;have Z:=x8 Body _ _ (x8 bR _ _ h);simp only at Z
  by_cases h0:r.2=0
  ·rw [if_pos h0]at Z;exact⟨h0,Z⟩
  ·rw [if_neg h0]at Z;exact absurd Z h0
def x8:∀(l:List Stmt) (d:Int) (r:Nat×Int),(hr l d r).2=0→r.2=0
 |[],d,r,h=>h
 |s::l,d,r,h=>by
  simp only [hr]at h;split at h
  ·exact h
  ·exact(Rf s d r (x8 l d _ h)).1
end
mutual
def aaG:∀(s:Stmt) (d:Nat) (r:Nat×Int),og s→(np s (d:Int) r).1≠0→(np s (d:Int) r).2=0→x7 s d
 |⟨Op,Name,Max,A,B,Body,bR⟩,d,r,hi,Z,ad=>by
  have hs:=aaF hi (Rf _ _ _ ad).2;obtain⟨i1,i2,i3,i4,i5,i6⟩:=(IV _).1 hi;have hd:ae9 ((d:Int)+1)=((d+1:Nat):Int):=by rw [wr]<;>omega
  simp only [np,hd]at Z ad;have cq:=x8 _ _ _ ad;have aq:=ql bR ((d+1:Nat):Int) (hr Body ((d+1:Nat):Int) (iR B (iR A (r.1-1)),if r.2=0 then ma ⟨Op,Name,Max,A,B,Body,bR⟩ d else r.2))
  exact⟨by omega,hs.2,Cg Body (d+1) _ i5 (by omega) cq,Cg bR (d+1) _ i6 Z ad⟩
def Cg:∀(l:List Stmt) (d:Nat) (r:Nat×Int),oh l→(hr l (d:Int) r).1≠0→(hr l (d:Int) r).2=0→kz l d
 |[],d,r,_,_,_=>trivial
 |s::l,d,r,hi,Z,ad=>by
  simp only [hr]at Z ad;split at Z
  ·rename_i h;exact absurd h Z
  ·rename_i h;rw [if_neg h]at ad;have k:=ql l (d:Int) (np s (d:Int) r);exact⟨aaG s d r hi.1 (by omega) (x8 _ _ _ ad),Cg l d _ hi.2 Z ad⟩
end
def Rg(p:bb):Prop:=gy p.Name=true∧qj p.Params=0∧kz p.Body 1
def Rh{p:bb}(hi:pc p)(h:o9 p=0):Rg p:=by
 unfold o9 at h;split at h
 ·omega
 rename_i g1;split at h
 ·rename_i g;exact absurd h g
 rename_i g2;split at h
 ·omega
 rename_i g3;simp only [Bool.not_eq_false,Decidable.not_not]at g1 g2;exact⟨g1,g2,Cg p.Body 1 (401,0) hi.2.2.2 (λe=>g3 ⟨h,e⟩) h⟩
open Go Go.Ab Go.Proofs
def ind:Nat→ae7
 | 0=>[]
 |d+1=>32::32::32::32::ind d
def cat:List ae7→ae7
 |[]=>[]
 |x::l=>x++cat l
def ej(d:Nat)(l:List ae7):ae7:=ind d++(cat l++[10])
abbrev fI(e:Expr):ae7:=flat (dJ e)
abbrev Ri(e:Expr):List Token:=kx (dJ e)
mutual
def fi:Stmt→Nat→ae7
 |⟨Op,Name,Max,A,B,Body,bR⟩,d=>
  if Op=1 then ej d [[108,101,116,32],Name,[32,61,32],fI A,[59]]
  else if Op=2 then ej d [Name,[32,61,32],fI A,[59]]
  else if Op=3 then ej d [[112,117,116,32],fI A,[32,61,32],fI B,[59]]
  else if Op=4 then ej d [[100,101,108,101,116,101,32],fI A,[59]]
  else if Op=5 then ej d [[105,102,32],fI A,[32,123]]++(fU Body (d+1)++((if bR.length=0 then[]else ej d [[125,32,101,108,115,101,32,123]]++fU bR (d+1))++ej d [[125]]))
  else if Op=6 then ej d [[102,111,114,32],Name,[32,61,32],fI A,[32,116,111,32],fI B,[32,109,97,120,32],Lib.decDigits Max.toNat,[32,123]]++(fU Body (d+1)++ej d [[125]])
  else if Op=7 then ej d [[101,109,105,116,32],fI A,[59]]
  else ej d [[97,98,111,114,116,32],Lib.decDigits Max.toNat,[59]]
def fU:List Stmt→Nat→ae7
 |[],_=>[]
 |s::l,d=>fi s d++fU l d
end
open Go Go.Ab Go.Proofs
def Rj(n:Nat)(s b:ae7)(x:Int)(h:b.length+s.length≤1000000000):wQ n s (e4 b) x=some (((s.length:Nat):Int),e4 (b++s)):=by
 unfold wQ tQ;rw [show(e4 b).length+s.length=b.length+s.length by simp [e4],IM (by omega)]
 simp [e4,aP,bK]
def aaH(n:Nat)(b:ae7)(x:Int)(h:b.length≤1000000000):An n 10 (e4 b) x=some (e4 (b++[10])):=by
 unfold An tQ;rw [show(e4 b).length+([10]:List Int).length=b.length+1 by simp [e4],IM (by omega)]
 simp [e4,aP,bK]
def IW:∀l m:List ae7,cat (l++m)=cat l++cat m
 |[],m=>rfl
 |x::l,m=>by simp only [List.cons_append,cat,IW l m,List.append_assoc]
def Rk:∀d,ind (d+1)=ind d++[32,32,32,32]
 | 0=>rfl
 |d+1=>by
  show 32::32::32::32::ind (d+1)=(32::32::32::32::ind d)++[32,32,32,32]
  rw [Rk d];rfl
def IX:∀d,(ind d).length=4*d
 | 0=>rfl
 |d+1=>by simp only [ind,aeW,IX d];omega
def aaI(n:Nat)(parts:List ae7)(d:Nat)(b:ae7)(ab:b.length+(cat parts).length≤1000000000)(hp:parts.length≤1000):∀m i,parts.length<i+m→i≤parts.length→
 wR n parts (d:Int) m (e4 (b++cat (parts.take i))) (i:Int)=some (e4 (b++(cat parts++[10]))):=by
 intro m;induction m with
 |zero=>intro i Z ad;omega
 |succ m a'=>
  intro i Z ad;have hc:cat parts=cat (parts.take i)++cat (parts.drop i):=by rw [←IW,List.take_append_drop]
  have gr:(cat parts).length=(cat (parts.take i)).length+(cat (parts.drop i)).length:=by rw [hc,ae0]
  simp only [wR,FB,FA,aeZ,aeY];by_cases hi:i<parts.length
  ·rw [iP parts i default hi]at gr;simp only [cat,ae0]at gr;simp only [hi,aeQ,aeS,cX hi,bK];rw [Rj n _ _ _ (by rw [ae0];omega),df (by omega)]
   simp only [aP];have:=a' (i+1) (by omega) (by omega)
   rw [B8 parts i hi,IW]at this;simp only [cat,List.append_nil]at this;rw [List.append_assoc];exact this
  ·simp only [hi,aeR,aeT];obtain rfl:i=parts.length:=by omega
   rw [List.take_length,aaH n _ _ (by rw [ae0];omega)]
   simp only [aP,List.append_assoc]
def lD{n:Nat}(parts:List ae7)(d:Nat)(b:ae7)(ab:b.length+(cat parts).length≤900000000)(hp:parts.length≤10)(hd:d≤100)(hn:200≤n):
 ko n parts (e4 b) (d:Int)=some (e4 (b++ej d parts)):=by
 have jX:∀m i,d<i+m→i≤d→wS n parts (d:Int) m (e4 (b++ind i)) (i:Int)=some (e4 (b++ej d parts)):=by
  intro m;induction m with
  |zero=>intro i Z ad;omega
  |succ m a'=>
   intro i Z ad;have C_:=IX i;simp only [wS,FD,FC,aeZ];by_cases hi:i<d
   ·simp only [hi,aeQ,aeS];rw [Rj n _ _ _ (by simp only [ae0,aeW,aeX];omega),df (by omega)]
    simp only [aP];have:=a' (i+1) (by omega) (by omega)
    rw [Rk]at this;rw [List.append_assoc];exact this
   ·simp only [hi,aeR,aeT];obtain rfl:i=d:=by omega
    have:=aaI n parts i (b++ind i) (by rw [ae0];omega) (by omega) n 0 (by omega) (by omega)
    simp only [List.take_zero,cat,List.append_nil]at this;rw [show((0:Nat):Int)=0 from rfl]at this
    rw [this,ej,List.append_assoc]
 have:=jX n 0 (by omega) (by omega)
 simp only [ind,List.append_nil]at this;exact this
def jF(d:Nat)(l:List ae7):(ej d l).length=4*d+(cat l).length+1:=by
 unfold ej;simp only [ae0,IX,aeW,aeX];omega
def lE{e:Expr}(h:mb e):(fI e).length≤4*dI e:=qS (iw e) e (Nat.le_refl _) h.1
mutual
def aaJ:∀(s:Stmt) (d:Nat),x7 s d→(fi s d).length≤4*fst s
 |⟨Op,Name,Max,A,B,Body,bR⟩,d,h=>by
  obtain⟨hd,hs,cK,fl⟩:=(Re _ _).1 h;have aem:=pe Body (d+1) cK;have aen:=pe bR (d+1) fl;rcases hs with⟨am,ax,hn,ei⟩|⟨ax,ei,dg⟩|⟨am,ax,ei⟩|⟨ax,ei⟩|⟨ax,hn,hm,ei,dg⟩|⟨ax,hm⟩
  ·simp only [Stmt.mk.injEq,true_and,and_true]at ax am;obtain⟨rfl,rfl,rfl,rfl⟩:=ax;have Z:=lE ei;have ad:=pb hn;simp only at Z ad
   rcases am with rfl|rfl
   ·rw [show fi ⟨1,Name,0,A,hY,[],[]⟩ d=ej d [[108,101,116,32],Name,[32,61,32],fI A,[59]]by simp [fi],jF]
    simp only [cat,fst,ae0,aeW,aeX];omega
   ·rw [show fi ⟨2,Name,0,A,hY,[],[]⟩ d=ej d [Name,[32,61,32],fI A,[59]]by simp [fi],jF]
    simp only [cat,fst,ae0,aeW,aeX];omega
  ·simp only [Stmt.mk.injEq,true_and,and_true]at ax;obtain⟨rfl,rfl,rfl,rfl,rfl⟩:=ax;have Z:=lE ei;have ad:=lE dg;simp only at Z ad
   rw [show fi ⟨3,[],0,A,B,[],[]⟩ d=ej d [[112,117,116,32],fI A,[32,61,32],fI B,[59]]by simp [fi],jF]
   simp only [cat,fst,ae0,aeW,aeX];omega
  ·simp only [Stmt.mk.injEq,true_and,and_true]at ax am;obtain⟨rfl,rfl,rfl,rfl,rfl⟩:=ax;have Z:=lE ei;simp only at Z
   rcases am with rfl|rfl
   ·rw [show fi ⟨4,[],0,A,hY,[],[]⟩ d=ej d [[100,101,108,101,116,101,32],fI A,[59]]by simp [fi],jF]
    simp only [cat,fst,ae0,aeW,aeX];omega
   ·rw [show fi ⟨7,[],0,A,hY,[],[]⟩ d=ej d [[101,109,105,116,32],fI A,[59]]by simp [fi],jF]
    simp only [cat,fst,ae0,aeW,aeX];omega
  ·simp only [Stmt.mk.injEq,true_and,and_true]at ax;obtain⟨rfl,rfl,rfl,rfl⟩:=ax;have Z:=lE ei;simp only at Z
   have ad:(fi ⟨5,[],0,A,hY,Body,bR⟩ d).length≤(ej d [[105,102,32],fI A,[32,123]]).length+((fU Body (d+1)).length+(((ej d [[125,32,101,108,115,101,32,123]]).length+(fU bR (d+1)).length)+(ej d [[125]]).length)):=by
    by_cases ab:bR.length=0
    ·simp [fi,ab]
    ·simp [fi,ab];omega
   simp only [jF,cat,ae0,aeW,aeX]at ad;simp only [fst];omega
  ·simp only [Stmt.mk.injEq,true_and,and_true]at ax;obtain⟨rfl,rfl⟩:=ax;have hm:1≤Max∧Max≤16:=hm;have Z:=lE ei;have ad:=lE dg;have al:=pb hn;have aH:=x2 Max (by omega) (by omega)
   simp only at Z ad al
   have a6:fi ⟨6,Name,Max,A,B,Body,[]⟩ d=ej d [[102,111,114,32],Name,[32,61,32],fI A,[32,116,111,32],fI B,[32,109,97,120,32],Lib.decDigits Max.toNat,[32,123]]++(fU Body (d+1)++ej d [[125]]):=by simp [fi]
   rw [a6];simp only [jF,cat,fst,ae0,aeW,aeX];omega
  ·simp only [Stmt.mk.injEq,true_and,and_true]at ax;obtain⟨rfl,rfl,rfl,rfl,rfl,rfl⟩:=ax;have hm:0≤Max∧Max≤999:=hm;have aH:=x2 Max (by omega) (by omega)
   rw [show fi ⟨8,[],Max,hY,hY,[],[]⟩ d=ej d [[97,98,111,114,116,32],Lib.decDigits Max.toNat,[59]]by simp [fi],jF]
   simp only [cat,fst,ae0,aeW,aeX];omega
def pe:∀(l:List Stmt) (d:Nat),kz l d→(fU l d).length≤4*eS l
 |[],d,h=>Nat.le_refl _
 |s::l,d,h=>by
  have Z:=aaJ s d h.1;have ad:=pe l d h.2;simp only [fU,eS,ae0];omega
end
def Rl(n:Nat)(i:Int)(h0:0≤i)(Z:i≤9223372036854775807):rI n i=some (Lib.decDigits i.toNat):=Q6 n i h0 Z
open Go Go.Ab Go.Proofs
def aaK(n:Nat):n5 (n+1)=Av n (n5 n) (rK n) (rL n):=rfl
def aaL(n:Nat):rK (n+1)=Ax n (n5 n) (rK n) (rL n):=rfl
def aaM(n:Nat):rL (n+1)=Ay n (n5 n) (rK n) (rL n):=rfl
def pf{n:Nat}{e:Expr}(h:mb e)(hn:300≤n)(a7:dI e≤1000000):jU n e=some (fI e):=aas (iw e) e n (Nat.le_refl _) h.1 (by have:=h.2;omega) a7
def pg(n:Nat)(l:List Stmt)(d:Nat)(b:ae7):Prop:=n5 n l (e4 b) (d:Int)=some (e4 (b++fU l (d+1)),(d:Int))
def aaN{n d:Nat}{b:ae7}{A:Expr}{Body bR:List Stmt}(ei:mb A)(a7:dI A≤300000)(hd:d≤12)(hn:400≤n)(hb:b.length≤10000000)(eM:(fU Body (d+1)).length≤10000000)(d9:(fU bR (d+1)).length≤10000000)
 (dg:∀bl:ae7,bl.length≤b.length+4*dI A+100→pg n Body d bl) (b7:∀bl:ae7,bl.length≤b.length+4*dI A+200+(fU Body (d+1)).length→pg n bR d bl):
 rK (n+1) ⟨5,[],0,A,hY,Body,bR⟩ (e4 b) (d:Int)=some (e4 (b++fi ⟨5,[],0,A,hY,Body,bR⟩ d),(d:Int)):=by
 have Z:=lE ei;rw [aaL];simp only [Ax,Aw,l_];rw [pf ei (by omega) (by omega)]
 simp only [aP];rw [lD _ d b (by simp only [cat,ae0,aeW,aeX];omega) (by simp) (by omega) (by omega)]
 simp only [aP];have e1:=dg (b++ej d [[105,102,32],fI A,[32,123]]) (by simp only [ae0,jF,cat,aeW,aeX];omega)
 unfold pg at e1;rw [e1];simp only [aP];by_cases ab:bR.length=0
 ·rw [show decide (0<((bR.length:Nat):Int))=false from decide_eq_false (by omega)]
  simp only [aeT];rw [lD _ d _ (by simp only [ae0,jF,cat,aeW,aeX];omega) (by simp) (by omega) (by omega)]
  simp only [aP];have:fi ⟨5,[],0,A,hY,Body,bR⟩ d=ej d [[105,102,32],fI A,[32,123]]++(fU Body (d+1)++ej d [[125]]):=by simp [fi,ab]
  rw [this];simp only [List.append_assoc]
 ·rw [show decide (0<((bR.length:Nat):Int))=true from decide_eq_true (by omega)]
  simp only [aeS];rw [lD _ d _ (by simp only [ae0,jF,cat,aeW,aeX];omega) (by simp) (by omega) (by omega)]
  simp only [aP];have e2:=b7 (b++ej d [[105,102,32],fI A,[32,123]]++fU Body (d+1)++ej d [[125,32,101,108,115,101,32,123]]) (by simp only [ae0,jF,cat,aeW,aeX];omega)
  unfold pg at e2;rw [e2];simp only [aP];rw [lD _ d _ (by simp only [ae0,jF,cat,aeW,aeX];omega) (by simp) (by omega) (by omega)]
  simp only [aP];have:fi ⟨5,[],0,A,hY,Body,bR⟩ d=ej d [[105,102,32],fI A,[32,123]]++(fU Body (d+1)++((ej d [[125,32,101,108,115,101,32,123]]++fU bR (d+1))++ej d [[125]])):=by simp [fi,ab]
  rw [this];simp only [List.append_assoc]
def aaO{n d:Nat}{b:ae7}{Name:ae7}{Max:Int}{A B:Expr}{Body:List Stmt}(ei:mb A)(Rm:mb B)(a7:dI A≤300000)(vj:dI B≤300000)(bA:gy Name=true)(hm:1≤Max∧Max≤16)(hd:d≤12)(hn:400≤n)(hb:b.length≤10000000)(eM:(fU Body (d+1)).length≤10000000)
 (dg:∀bl:ae7,bl.length≤b.length+4*dI A+4*dI B+120→pg n Body d bl):
 rL (n+1) ⟨6,Name,Max,A,B,Body,[]⟩ (e4 b) (d:Int)=some (e4 (b++fi ⟨6,Name,Max,A,B,Body,[]⟩ d),(d:Int)):=by
 have Z:=lE ei;have ad:=lE Rm;have al:=pb bA;have aH:=x2 Max (by omega) (by omega)
 rw [aaM];simp only [Ay,l_];rw [pf ei (by omega) (by omega),pf Rm (by omega) (by omega),Rl n Max (by omega) (by omega)]
 simp only [aP];rw [lD _ d b (by simp only [cat,ae0,aeW,aeX];omega) (by simp) (by omega) (by omega)]
 simp only [aP];have e1:=dg (b++ej d [[102,111,114,32],Name,[32,61,32],fI A,[32,116,111,32],fI B,[32,109,97,120,32],Lib.decDigits Max.toNat,[32,123]]) (by simp only [ae0,jF,cat,aeW,aeX];omega)
 unfold pg at e1;rw [e1];simp only [aP];rw [lD _ d _ (by simp only [ae0,jF,cat,aeW,aeX];omega) (by simp) (by omega) (by omega)]
 simp only [aP];have:fi ⟨6,Name,Max,A,B,Body,[]⟩ d=ej d [[102,111,114,32],Name,[32,61,32],fI A,[32,116,111,32],fI B,[32,109,97,120,32],Lib.decDigits Max.toNat,[32,123]]++(fU Body (d+1)++ej d [[125]]):=by simp [fi]
 rw [this];simp only [List.append_assoc]
def Rn:∀(l:List Stmt) (i d:Nat),i<l.length→kz l d→x7 (l.getD i default) d
 |[],i,d,h,_=>by simp at h
 |x::l,0,d,h,ab=>ab.1
 |x::l,i+1,d,h,ab=>by simp only [List.getD_cons_succ];exact Rn l i d (by simpa using h) ab.2
def Ro:∀(l m:List Stmt) (d:Nat),kz (l++m) d↔kz l d∧kz m d
 |[],m,d=>by simp [kz]
 |x::l,m,d=>by simp only [List.cons_append,kz,Ro l m d,and_assoc]
def Rp:∀(l m:List Stmt) (d:Nat),fU (l++m) d=fU l d++fU m d
 |[],m,d=>rfl
 |x::l,m,d=>by simp only [List.cons_append,fU,Rp l m d,List.append_assoc]
def aaP:∀(n:Nat) (l:List Stmt) (d:Nat) (b:ae7),kz l (d+1)→d≤12→eS l≤300000→2*eS l+500≤n→b.length+4*eS l≤9000000→pg n l d b:=by
 intro n;induction n using Nat.strongRecOn with
 |_ n a'=>
  intro l d b eR hd a7 hn hb;obtain⟨n,rfl⟩:∃k,n=k+2:=⟨n-2,by omega⟩
  have hlen:=IC l;unfold pg;rw [aaK];unfold Av;rw [df (by omega)]
  have jX:∀m i,l.length<i+m→i≤l.length→wY (n+1) (n5 (n+1)) (rK (n+1)) (rL (n+1)) l m (e4 (b++fU (l.take i) (d+1))) ((d+1:Nat):Int) (i:Int)=some (e4 (b++fU l (d+1)),(d:Int)):=by
   intro m;induction m with
   |zero=>intro i Z ad;omega
   |succ m sk=>
    intro i Z ad;simp only [wY,FSb,FR,aeZ,aeY,l_,B6];by_cases hi:i<l.length
    ·simp only [hi,aeQ,aeS,cX hi,bK];have eh:=Rn l i (d+1) hi eR;have aaQ:kz (l.take i) (d+1):=((Ro (l.take i) (l.drop i) (d+1)).1 (by rw [List.take_append_drop];exact eR)).1
     have nP:=pe _ _ aaQ
     have Ex:eS l=eS (l.take i)+(fst (l.getD i default)+1+eS (l.drop (i+1))):=by
      have:eS l=eS (l.take i++l.drop i):=by rw [List.take_append_drop]
      rw [QO,iP l i default hi]at this;simpa only [eS]using this
     have gH:=sk (i+1) (by omega) (by omega)
     rw [B8 l i hi,Rp,←List.append_assoc]at gH;simp only [fU,List.append_nil]at gH;have k6:(b++fU (l.take i) (d+1)).length≤b.length+4*eS (l.take i):=by rw [ae0];omega
     generalize b++fU (l.take i) (d+1)=uL at gH k6
     rw [df (by omega)]
     generalize l.getD i default=s at eh Ex gH
     have nH:=fst_eq s;obtain⟨iB,hs,cK,fl⟩:=(Re _ _).1 eh;obtain⟨Op,Name,Max,A,B,Body,bR⟩:=s;simp only at nH cK fl
     rcases hs with⟨am,ax,bA,ei⟩|⟨ax,ei,dg⟩|⟨am,ax,ei⟩|⟨ax,ei⟩|⟨ax,bA,hm,ei,dg⟩|⟨ax,hm⟩
     ·simp only [Stmt.mk.injEq,true_and,and_true]at ax am;obtain⟨rfl,rfl,rfl,rfl⟩:=ax;have al:=lE ei;have aH:=pb bA;simp only at al aH
      rcases am with rfl|rfl
      ·simp only [show n2 (n+1) 1=some (.inl ())from rfl,aP,gB.on,FN,l_]
       rw [pf ei (by omega) (by show dI A≤_;omega)]
       simp only [aP];rw [lD _ (d+1) uL (by simp only [cat,ae0,aeW,aeX];omega) (by simp) (by omega) (by omega)]
       simp only [aP];rw [show fi ⟨1,Name,0,A,hY,[],[]⟩ (d+1)=ej (d+1) [[108,101,116,32],Name,[32,61,32],fI A,[59]]by simp [fi]]at gH
       exact gH
      ·simp only [show n2 (n+1) 2=some (.inr (.inl ()))from rfl,aP,gB.on,FM,l_]
       rw [pf ei (by omega) (by show dI A≤_;omega)]
       simp only [aP];rw [lD _ (d+1) uL (by simp only [cat,ae0,aeW,aeX];omega) (by simp) (by omega) (by omega)]
       simp only [aP];rw [show fi ⟨2,Name,0,A,hY,[],[]⟩ (d+1)=ej (d+1) [Name,[32,61,32],fI A,[59]]by simp [fi]]at gH
       exact gH
     ·simp only [Stmt.mk.injEq,true_and,and_true]at ax;obtain⟨rfl,rfl,rfl,rfl,rfl⟩:=ax;have al:=lE ei;have aH:=lE dg;simp only at al aH
      simp only [show n2 (n+1) 3=some (.inr (.inr (.inl ())))from rfl,aP,gB.on,FP,l_]
      rw [pf ei (by omega) (by show dI A≤_;omega),pf dg (by omega) (by show dI B≤_;omega)]
      simp only [aP];rw [lD _ (d+1) uL (by simp only [cat,ae0,aeW,aeX];omega) (by simp) (by omega) (by omega)]
      simp only [aP];rw [show fi ⟨3,[],0,A,B,[],[]⟩ (d+1)=ej (d+1) [[112,117,116,32],fI A,[32,61,32],fI B,[59]]by simp [fi]]at gH
      exact gH
     ·simp only [Stmt.mk.injEq,true_and,and_true]at ax am;obtain⟨rfl,rfl,rfl,rfl,rfl⟩:=ax;have al:=lE ei;simp only at al
      rcases am with rfl|rfl
      ·simp only [show n2 (n+1) 4=some (.inr (.inr (.inr (.inl ()))))from rfl,aP,gB.on,FQ,l_]
       rw [pf ei (by omega) (by show dI A≤_;omega)]
       simp only [aP];rw [lD _ (d+1) uL (by simp only [cat,ae0,aeW,aeX];omega) (by simp) (by omega) (by omega)]
       simp only [aP];rw [show fi ⟨4,[],0,A,hY,[],[]⟩ (d+1)=ej (d+1) [[100,101,108,101,116,101,32],fI A,[59]]by simp [fi]]at gH
       exact gH
      ·simp only [show n2 (n+1) 7=some (.inr (.inr (.inr (.inr (.inr (.inr (.inl ())))))))from rfl,aP,gB.on,FO,l_]
       rw [pf ei (by omega) (by show dI A≤_;omega)]
       simp only [aP];rw [lD _ (d+1) uL (by simp only [cat,ae0,aeW,aeX];omega) (by simp) (by omega) (by omega)]
       simp only [aP];rw [show fi ⟨7,[],0,A,hY,[],[]⟩ (d+1)=ej (d+1) [[101,109,105,116,32],fI A,[59]]by simp [fi]]at gH
       exact gH
     ·simp only [Stmt.mk.injEq,true_and,and_true]at ax;obtain⟨rfl,rfl,rfl,rfl⟩:=ax;have eM:=pe _ _ cK;have d9:=pe _ _ fl;simp only [show n2 (n+1) 5=some (.inr (.inr (.inr (.inr (.inl ())))))from rfl,aP,gB.on]
      rw [aaN (A:=A) ei (by show dI A≤_;omega) (by omega) (by omega) (by omega) (by omega) (by omega)
       (λbl bw=>a' n (by omega) Body (d+1) bl cK (by omega) (by omega) (by omega) (by omega)) (λbl bw=>a' n (by omega) bR (d+1) bl fl (by omega) (by omega) (by omega) (by omega))]
      exact gH
     ·simp only [Stmt.mk.injEq,true_and,and_true]at ax;obtain⟨rfl,rfl⟩:=ax;have eM:=pe _ _ cK;simp only [show n2 (n+1) 6=some (.inr (.inr (.inr (.inr (.inr (.inl ()))))))from rfl,aP,gB.on]
      rw [aaO (A:=A) (B:=B) ei dg (by show dI A≤_;omega) (by show dI B≤_;omega) bA hm (by omega) (by omega) (by omega) (by omega)
       (λbl bw=>a' n (by omega) Body (d+1) bl cK (by omega) (by omega) (by omega) (by omega))]
      exact gH
     ·simp only [Stmt.mk.injEq,true_and,and_true]at ax;obtain⟨rfl,rfl,rfl,rfl,rfl,rfl⟩:=ax;have hm:0≤Max∧Max≤999:=hm;have aH:=x2 Max (by omega) (by omega)
      simp only [show n2 (n+1) 8=some (.inr (.inr (.inr (.inr (.inr (.inr (.inr ())))))))from rfl,aP,gB.on,FE,l_]
      rw [Rl _ Max (by omega) (by omega)]
      simp only [aP];rw [lD _ (d+1) uL (by simp only [cat,ae0,aeW,aeX];omega) (by simp) (by omega) (by omega)]
      simp only [aP];rw [show fi ⟨8,[],Max,hY,hY,[],[]⟩ (d+1)=ej (d+1) [[97,98,111,114,116,32],Lib.decDigits Max.toNat,[59]]by simp [fi]]at gH
      exact gH
    ·simp only [hi,aeR,aeT];obtain rfl:i=l.length:=by omega
     rw [List.take_length,show ae9 (((d+1:Nat):Int)-1)=(d:Int)by rw [wr]<;>omega]
  have:=jX (n+1) 0 (by omega) (by omega)
  simp only [List.take_zero,fU,List.append_nil]at this;exact this
open Go Go.Ab Go.Proofs
section
variable {l:List Token}
end
open Go Go.Ab Go.Proofs
section
variable {l:List Token}
end
open Go Go.Ab Go.Proofs
def uM(t:Int):ae7:=if t=1 then[105,110,116]else if t=2 then[115,116,114] else[98,111,111,108]
def ph(x:Param):ae7:=(x.Name++[58,32])++uM x.gc
def x9(x:Param):Prop:=gy x.Name=true∧1≤x.gc∧x.gc≤3
def Rq:∀(l b:List Param),uH b l=0→∀x,x∈l→x9 x
 |[],b,h,x,hx=>by cases hx
 |y::l,b,h,x,hx=>by
  unfold uH at h;split at h
  ·omega
  rename_i g1;split at h
  ·omega
  rename_i g2;split at h
  ·omega
  rename_i g3;rcases List.mem_cons.1 hx with rfl|hx
  ·exact⟨by simpa using g1,by omega,by omega⟩
  ·exact Rq l _ h x hx
def Rr{l:List Param}(h:qj l=0):l.length≤6∧∀x,x∈l→x9 x:=by
 unfold qj at h;split at h
 ·omega
 ·exact⟨by omega,Rq l [] h⟩
def qn(l:List Param):ae7:=Lib.join (l.map ph) [44,32]
def oi(p:bb):ae7:=ej 0 [[112,114,111,99,32],p.Name,[40],qn p.Params,[41,32,123]]++(fU p.Body 1++ej 0 [[125]])
def Rs(t:Int):(uM t).length≤4:=by
 unfold uM;split
 ·simp
 ·split<;>simp
def aaR(n:Nat)(t:Int):Am n t=some (uM t):=by
 unfold Am uM;by_cases Z:t=1
 ·simp [Z]
 ·by_cases ad:t=2
  ·simp [ad]
  ·simp [Z,ad]
def aaS(x:ae7)(l:List ae7):Lib.joinTail [44,32] (x::l)=44::32::(x++Lib.joinTail [44,32] l):=by simp [Lib.joinTail]
def Rt{x:Param}(h:x9 x):(ph x).length≤22:=by
 have:=pb h.1
 have:=Rs x.gc
 unfold ph;simp only [ae0,aeW,aeX];omega
def Ru:∀l:List Param,(∀x,x∈l→x9 x)→(Lib.joinTail [44,32] (l.map ph)).length≤24*l.length
 |[],_=>Nat.le_refl _
 |x::l,h=>by
  have Z:=Ru l λy bX=>h y (by simp [bX])
  have ad:=Rt (h x (by simp))
  rw [List.map_cons,aaS];simp only [ae0,aeW];omega
def Rv{l:List Param}(ab:∀x,x∈l→x9 x):(qn l).length≤24*l.length:=by
 unfold qn;cases l with
 |nil=>exact Nat.le_refl _
 |cons x l=>
  have Z:=Ru l λy bX=>ab y (by simp [bX])
  have ad:=Rt (ab x (by simp))
  rw [List.map_cons,Lib.join_cons];simp only [ae0,aeW];omega
def Rw{p:bb}(hp:Rg p):(oi p).length≤4*eS p.Body+300:=by
 obtain⟨Z,ad,al⟩:=hp;obtain⟨aH,a6⟩:=Rr ad;have bT:=Rv a6;have cI:=pb Z;have dO:=pe p.Body 1 al;unfold oi;simp only [ae0,jF,cat,aeW,aeX];omega
def aaT{n:Nat}(p:bb)(hi:pc p)(ar:o9 p=0)(hn:3000000≤n)(a7:iu p.Params≤300000)(dg:eS p.Body≤300000):p1 n p=some (oi p):=by
 have hp:=Rh hi ar;have tf:=hp;obtain⟨Z,ad,al⟩:=hp;obtain⟨aH,a6⟩:=Rr ad;have bT:=Rv a6;have cI:=pb Z;have dO:=pe p.Body 1 al;have gX:(fU p.Body (0+1)).length≤4*eS p.Body:=dO;unfold p1;rw [QY p (by omega) (by omega) (by omega) (by omega) (by omega),ar]
 simp only [aP,aeQ,aeU,aeT]
 have jX:∀m i,p.Params.length<i+m→i≤p.Params.length→wZ n p m (i:Int) ((p.Params.take i).map ph)=some (oi p):=by
  intro m;induction m with
  |zero=>intro i g1 g2;omega
  |succ m a'=>
   intro i g1 g2;simp only [wZ,FU,aeZ,aeY];by_cases hi:i<p.Params.length
   ·have hx:=a6 (p.Params.getD i default) (by rw [List.getD_eq_getElem?_getD,List.getElem?_eq_getElem hi];exact List.getElem_mem hi)
    have hnx:=pb hx.1;have aeo:=Rs (p.Params.getD i default).gc;have:=a' (i+1) (by omega) (by omega)
    rw [B8 p.Params i hi,List.map_append]at this;simp only [List.map_cons,List.map_nil]at this;simp only [hi,aeQ,aeS,cX hi,bK];rw [jE (by simp only [aeW,aeX];omega),aaR]
    simp only [bK,aP];rw [jE (by simp only [ae0,aeW,aeX];omega)]
    simp only [bK]
    rw [show room ((List.map ph (p.Params.take i)).length+([(p.Params.getD i default).Name++[58,32]++uM (p.Params.getD i default).gc]:List ae7).length) 16=true by
     simp [room];omega]
    simp only [bK];rw [df (by omega)]
    exact this
   ·simp only [hi,aeR,aeT];obtain rfl:i=p.Params.length:=by omega
    unfold FT;rw [List.take_length];unfold zN;rw [show decide ((p.Params.map ph).length≤140737488355328∧(Lib.join (p.Params.map ph) [44,32]).length≤140737488355328)=true from decide_eq_true ⟨by rw [List.length_map];omega,by show(qn p.Params).length≤_;omega⟩]
    simp only [bK,aP];have ab:=lD (n:=n) [[112,114,111,99,32],p.Name,[40],qn p.Params,[41,32,123]] 0 [] (by simp only [cat,ae0,aeW,aeX];omega) (by simp) (by omega) (by omega)
    have ab:ko n [[112,114,111,99,32],p.Name,[40],Lib.join (p.Params.map ph) [44,32],[41,32,123]] [] 0=_:=ab;rw [ab];simp only [aP,List.nil_append];have hb:=aaP n p.Body 0 (ej 0 [[112,114,111,99,32],p.Name,[40],qn p.Params,[41,32,123]]) al (by omega) (by omega) (by omega) (by simp only [jF,cat,ae0,aeW,aeX];omega)
    unfold pg at hb;rw [show n5 n p.Body (e4 (ej 0 [[112,114,111,99,32],p.Name,[40],qn p.Params,[41,32,123]])) 0=_ from hb]
    simp only [aP];rw [lD _ 0 _ (by simp only [cat,ae0,jF,aeW,aeX];omega) (by simp) (by omega) (by omega)]
    simp only [aP];unfold Az;rw [QF,QE];have hlen:=Rw tf;have aaU:ej 0 [[112,114,111,99,32],p.Name,[40],qn p.Params,[41,32,123]]++fU p.Body (0+1)++ej 0 [[125]]=oi p:=by unfold oi;rw [List.append_assoc]
    rw [aaU];rw [show decide ((e4 (oi p)).length≤9223372036854775807)=true from decide_eq_true (by rw [show(e4 (oi p)).length=(oi p).length by simp [e4]];omega)]
    rfl
 exact jX n 0 (by omega) (by omega)
open Go Go.Ab Go.Proofs
section
variable {l:List Token}
end
open Go Go.Ab Go.Proofs
def fM(s:ae7):List Int:=s.map λb=>(b.toNat:Int)
def Rx(s:ae7):jv (fM s)=s:=by
 simp only [jv,fM,List.map_map]
 conv=>rhs;rw [←List.map_id s]
 apply List.map_congr_left;intro b _;simp
def Ry(s:ae7):mv (fM s)=true:=by
 simp only [mv,fM,List.all_eq_true,List.mem_map,forall_exists_index,and_imp,forall_apply_eq_imp_iff₂];intro b _;have:=b.toNat_lt
 simp;omega
def IY(s t:ae7):fM (s++t)=fM s++fM t:=List.map_append
def Ch(s:ae7):(fM s).length=s.length:=List.length_map _
def IZ:([]:List Int)=fM []:=rfl
def fV(u:Nat):ae7:=if u<128 then[UInt8.ofNat u]else UInt8.ofNat (u % 128+128)::fV (u / 128)
termination_by u
decreasing_by omega
def Rz:∀(k u:Nat),u<128 ^ k→0<k→(fV u).length≤k
 | 0,u,_,h=>by omega
 |k+1,u,hu,_=>by
  rw [fV];split
  ·simp
  ·have hk:0<k:=by
    rcases Nat.eq_zero_or_pos k with rfl|h
    ·simp at hu;omega
    ·exact h
   have:=Rz k (u / 128) (by rw [Nat.pow_succ]at hu;omega) hk
   simp;omega
def kY{u:Nat}(h:u<18446744073709551616):(fV u).length≤10:=Rz 10 u (by omega) (by omega)
def aaV:∀x:Nat,x<256→qC .u8 (x:Int) 128=((x % 128+128:Nat):Int):=by decide +kernel
def RA(u:Nat):IntKind.u8.wrap (u:Int)=((u % 256:Nat):Int):=by rw [IntKind.wrap_u8];omega
def Ci{u:Nat}(h:u<18446744073709551616):IntKind.u64.wrap (u:Int)=(u:Int):=by rw [IntKind.wrap_u64];omega
def RB(u:Nat)(h:u<256):([(u:Int)]:List Int)=fM [UInt8.ofNat u]:=by
 simp only [fM,List.map_cons,List.map_nil,UInt8.toNat_ofNat',Nat.mod_eq_of_lt (show u<2 ^ 8 from h)]
def aaW(u:Nat):mP .u64 (u:Int) 7=((u / 128:Nat):Int):=by
 unfold mP;rw [show min (7:Int).toNat (IntKind.bits .u64)=7 by decide,Int.fdiv_eq_ediv_of_nonneg _ (by omega)]
 omega
def I0{n:Nat}(h:n≤140737488355328):room n 1=true:=by simp [room];omega
def kA{n:Nat}(h:n≤9223372036854775807):ew n=true:=by simp [ew];omega
def aaX(n:Nat):∀m u (acc:ae7),u<18446744073709551616→(fV u).length≤m→acc.length+(fV u).length≤1000→wB n m (u:Int) (fM acc)=some (acc++fV u):=by
 intro m;induction m with
 |zero=>intro u acc _ h _;rw [fV]at h;split at h<;>simp at h
 |succ m a'=>
  intro u acc hu hm ab;simp only [wB,E7,E6,zT];rw [fV]at hm ab ⊢;by_cases h:u<128
  ·rw [if_pos h]at hm ab ⊢;simp only [ae1]at ab;have:¬ (128:Int)≤(u:Int):=by omega
   rw [RA,Nat.mod_eq_of_lt (by omega),RB u (by omega),←IY]
   simp only [this,aeR,aeT,ae1,Ch,I0 (show acc.length+1≤140737488355328 by omega),bK,aP,Ry,Rx]
  ·rw [if_neg h]at hm ab ⊢;simp only [aeW]at hm ab;have:(128:Int)≤(u:Int):=by omega
   rw [RA,aaV _ (by omega),show u % 256 % 128=u % 128 by omega,RB _ (by omega),←IY,aaW]
   simp only [this,aeQ,aeS,ae1,Ch,I0 (show acc.length+1≤140737488355328 by omega),bK,aP]
   rw [a' (u / 128) _ (by omega) (by omega) (by simp;omega)]
   simp
def qo{n u:Nat}(hn:10≤n)(hu:u<18446744073709551616):gk n (u:Int)=some (fV u):=by
 have:=kY hu
 exact aaX n n u [] hu (by omega) (by simp;omega)
def fold(n:Int):Nat:=if n<0 then(2*(-(n+1))+1).toNat else(2*n).toNat
def e5(x:Int):Prop := -9223372036854775808≤x∧x≤9223372036854775807
def RC{n:Int}(h:e5 n):fold n<18446744073709551616:=by
 unfold e5 at h;unfold fold;split<;>omega
def mH(n:Int):ae7:=fV (fold n)
def oj{n:Int}(h:e5 n):(mH n).length≤10:=kY (RC h)
def xor_zero{a:Nat}(h:a<18446744073709551616):nB .u64 (a:Int) 0=(a:Int):=by
 unfold nB;rw [show BitVec.ofInt (IntKind.bits .u64) 0=0#_ from rfl,BitVec.xor_zero]
 rw [show((BitVec.ofInt (IntKind.bits .u64) (a:Int)).toNat:Int)=(a:Int) by
  rw [BitVec.toNat_ofInt];simp only [IntKind.bits];omega]
 exact Ci h
def aaY{a:Nat}(h:a<18446744073709551616):nB .u64 (a:Int) 18446744073709551615=((18446744073709551615-a:Nat):Int):=by
 unfold nB;rw [show BitVec.ofInt (IntKind.bits .u64) 18446744073709551615=BitVec.allOnes _ by decide,BitVec.xor_allOnes]
 rw [show((~~~ BitVec.ofInt (IntKind.bits .u64) (a:Int)).toNat:Int)=((18446744073709551615-a:Nat):Int) by
  rw [BitVec.toNat_not,BitVec.toNat_ofInt];simp only [IntKind.bits];omega]
 exact Ci (by omega)
def aaZ{x:Int}(h:e5 x):nB .u64 (oD .u64 (IntKind.u64.wrap x) 1) (IntKind.u64.wrap (mP .i64 x 63))=(fold x:Int):=by
 unfold e5 at h
 have e1:mP .i64 x 63=if x<0 then -1 else 0:=by
  unfold mP;rw [show min (63:Int).toNat (IntKind.bits .i64)=63 by decide,Int.fdiv_eq_ediv_of_nonneg _ (by omega)]
  split<;>omega
 have e2:oD .u64 (IntKind.u64.wrap x) 1=(((2*x) % 18446744073709551616).toNat:Int):=by
  unfold oD;rw [show min (1:Int).toNat (IntKind.bits .u64)=1 by decide,IntKind.wrap_u64,IntKind.wrap_u64]
  omega
 rw [e1,e2];unfold fold;by_cases hx:x<0
 ·rw [if_pos hx,if_pos hx,show IntKind.u64.wrap (-1)=18446744073709551615 by decide,aaY (by omega)]
  omega
 ·rw [if_neg hx,if_neg hx,show IntKind.u64.wrap 0=0 by decide,xor_zero (by omega)]
  omega
def sv{n:Nat}{x:Int}(hn:10≤n)(h:e5 x):n1 n x=some (mH x):=by
 unfold n1;rw [aaZ h,qo hn (RC h)];rfl
def ht(s:ae7):ae7:=fV s.length++s
def qp{n:Nat}{s:ae7}(hn:10≤n)(h:s.length≤4611686018427387904):ng n s=some (ht s):=by
 unfold ng;have:=kY (u:=s.length) (by omega)
 rw [Ci (by omega),qo hn (by omega)]
 simp only [aP,kA (show(fV s.length).length+s.length≤9223372036854775807 by omega),bK];rfl
def Cj{s:ae7}(h:s.length≤4611686018427387904):(ht s).length≤s.length+10:=by
 have:=kY (u:=s.length) (by omega)
 simp [ht];omega
open Go Go.Ab Go.Proofs
open Go Go.Ab Go.Proofs
open Go Go.Ab Go.Proofs
open Go Go.Ab Go.Proofs
open Go Go.Ab Go.Proofs
open Go Go.Ab Go.Proofs
def aa0{β:Type}{L:Nat→Int→Option β}{len:Nat}{chk:Nat→Bool}{no yes:β}
 (step:∀m i,i<len→L (m+1) (i:Int)=if chk i then L m ((i+1:Nat):Int)else some no) (stop:∀m,L (m+1) (len:Int)=some yes):
 ∀m i,len<i+m→i≤len→L m (i:Int)=some (if(List.range' i (len-i)).all chk then yes else no):=by
 intro m;induction m with
 |zero=>intro i h ad;omega
 |succ m a'=>
  intro i h ad;by_cases hi:i<len
  ·rw [step m i hi,a' (i+1) (by omega) (by omega),show len-i=(len-(i+1))+1 by omega,List.range'_succ,List.all_cons]
   cases chk i
   ·rfl
   ·rw [if_pos rfl,Bool.true_and]
  ·obtain rfl:i=len:=by omega
   rw [stop m];simp
def RD{β:Type}{L:Nat→Int→Option β}{len:Nat}{chk:Nat→Bool}{no yes:β}{m:Nat}(hm:len<m)
 (step:∀m i,i<len→L (m+1) (i:Int)=if chk i then L m ((i+1:Nat):Int)else some no) (stop:∀m,L (m+1) (len:Int)=some yes):
 L m 0=some (if(List.range len).all chk then yes else no):=by
 have:=aa0 step stop m 0 (by omega) (by omega)
 rwa [Nat.sub_zero,←List.range_eq_range']at this
def sw(c:UInt8):Bool:=decide (97≤c.toNat∧c.toNat≤122)||decide (48≤c.toNat∧c.toNat≤57)||decide (c.toNat=47)||decide (c.toNat=46)||decide (c.toNat=95)||decide (c.toNat=45)
def mI(k:ae7):Bool:=decide (1≤k.length)&&decide (k.length≤24)&&(List.range k.length).all λi=>sw (k.getD i 0)
def aa1{n:Nat}{s:ae7}(h:24<n):zQ n s=some (decide (s.length≤24)&&(List.range s.length).all λi=>sw (s.getD i 0)):=by
 unfold zQ;by_cases ab:s.length≤24
 ·simp only [f',show¬ 24<s.length by omega,aeR,aeT,ab,aeQ,Bool.true_and]
  rw [RD (L:=tz n s) (len:=s.length) (chk:=λi=>sw (s.getD i 0)) (no:=false) (yes:=true) (by omega)]
  ·cases (List.range s.length).all λi=>sw (s.getD i 0)<;>rfl
  ·intro m i hi;simp only [tz,zP,EX,aeZ,hi,aeQ,aeS,cX hi,bK,aP,aeY,df (show i≤4611686018427387904 by omega),sj,kW,l',fE,gx]
   have:(((((decide (97≤(s.getD i 0).toNat)&&decide ((s.getD i 0).toNat≤122)||(decide (48≤(s.getD i 0).toNat)&&decide ((s.getD i 0).toNat≤57)))||decide ((s.getD i 0).toNat=47))||decide ((s.getD i 0).toNat=46))||decide ((s.getD i 0).toNat=95))||decide ((s.getD i 0).toNat=45))=sw (s.getD i 0):=by
    simp [sw,Bool.decide_and]
   rw [this];cases sw (s.getD i 0)<;>rfl
  ·intro m;simp only [tz,zP,EY,ae3,aeR,aeT]
 ·simp only [f',show 24<s.length by omega,aeQ,aeS,ab,aeR,Bool.false_and]
def I1{n:Nat}{k:ae7}(h:24<n):rF n k=some (mI k):=by
 unfold rF mI;rw [aa1 h];cases k with
 |nil=>rfl
 |cons c l=>simp [aP]
open Go Go.Ab Go.Proofs
def RE(n:Nat)(s:ae7):∀m,wz n s m=tM n s m
 | 0=>rfl
 |m+1=>by
  show E1 n s (wz n s m)=_
  rw [RE n s m];rfl
def aa2{n:Nat}{s:ae7}(h:s.length<n)(hs:s.length≤4611686018427387904):wA n s=some (kw s):=by
 unfold wA;rw [RE];exact QB h hs
def lF(v:bv):Bool:=if v.Kind=0 then decide (v.N=0)&&decide (v.S=[])else if v.Kind=1 then decide (v.S=[])else decide (v.Kind=2)&&decide (v.N=0)&&kw v.S
def I2{n:Nat}{v:bv}(h:v.S.length<n)(hs:v.S.length≤4611686018427387904):pY n v=some (lF v):=by
 unfold pY lF;by_cases h0:v.Kind=0
 ·simp [h0]
 ·by_cases Z:v.Kind=1
  ·simp [Z]
  ·by_cases ad:v.Kind=2
   ·by_cases al:v.N=0
    ·simp [ad,al,aa2 h hs]
    ·simp [ad,al]
   ·simp [h0,Z,ad]
def cu(v:bv):ae7:=if v.Kind=1 then fV 1++mH v.N else if v.Kind=2 then fV 2++ht v.S else fV 0
def I3{n:Nat}{v:bv}(hn:10≤n)(bA:e5 v.N)(hs:v.S.length≤4611686018427387904):rG n v=some (cu v):=by
 have Z:=oj bA;have ad:=Cj hs;have ga:=kY (u:=1) (by omega)
 have ii:=kY (u:=2) (by omega)
 have bW:gk n 0=some (fV 0):=qo (u:=0) hn (by omega)
 have e1:gk n 1=some (fV 1):=qo (u:=1) hn (by omega)
 have e2:gk n 2=some (fV 2):=qo (u:=2) hn (by omega)
 unfold rG cu;by_cases cq:v.Kind=1
 ·simp (disch:=omega) only [cq,decide_true,cond_true,e1,aP,sv hn bA,kA,bK,if_true]
 ·by_cases aq:v.Kind=2
  ·simp (disch:=omega) only [aq,show¬ (2:Int)=1 by omega,decide_true,decide_false,cond_true,cond_false,e2,aP,qp hn hs,kA,bK,if_true,if_false]
  ·simp only [cq,aq,aeR,aeT,bW,aP,ae6]
def RF{v:bv}(bA:e5 v.N)(hs:v.S.length≤4611686018427387904):(cu v).length≤v.S.length+20:=by
 have Z:=oj bA;have ad:=Cj hs;have l0:=kY (u:=0) (by omega)
 have ga:=kY (u:=1) (by omega)
 have ii:=kY (u:=2) (by omega)
 unfold cu;split
 ·simp;omega
 ·split
  ·simp;omega
  ·omega
open Go Go.Ab Go.Proofs
open Go Go.Ab Go.Proofs
def je:List Token→Nat
 |[]=>0
 |t::l=>(spell t).length+je l
def RG:∀l m:List Token,je (l++m)=je l+je m
 |[],m=>by simp [je]
 |t::l,m=>by simp only [List.cons_append,je,RG l m];omega
def b9(l:List Token)(i:Nat):Nat:=je (l.take i)
def gV{α β:Type}(Q:α→β→Prop)(p:Option (aA α β)):Prop:=∀a z,p=some (.ret a z)→Q a z
def gV.ret{α β:Type}{Q:α→β→Prop}{a:α}{z:β}(h:Q a z):gV Q (some (.ret a z)):=λdj RH e=>by cases e;exact h
def gV.aW{α β:Type}{Q:α→β→Prop}{x:V}{z:β}:gV Q (some (.aW x z)):=λdj RH e=>by cases e
def gV.none{α β:Type}{Q:α→β→Prop}:gV Q none:=λdj RH e=>by cases e
def gV.bind{α β c6 f7:Type}{Q:α→β→Prop}{R:c6→f7→Prop}{p:Option (aA α β)}{f:α→β→Option (aA c6 f7)}{h:V→β→Option (aA c6 f7)}(hp:gV Q p)(a7:∀a z,Q a z→gV R (f a z))(bf:∀x z,gV R (h x z)):
 gV R (Option.bind p λr=>aA.on r f h):=by
 match p,hp with
 |.none,_=>exact .none
 |some (.ret a z),hp=>exact a7 a z (hp a z rfl)
 |some (.aW x z),_=>exact bf x z
def gV.bif{c6 f7:Type}{R:c6→f7→Prop}{c:Bool}{p q:Option (aA c6 f7)}(Z:c=true→gV R p)(ad:c=false→gV R q):gV R (bif c then p else q):=by cases c;exact ad rfl;exact Z rfl
def gV.aI{c6 f7:Type}{R:c6→f7→Prop}{c:Bool}{p:Option (aA c6 f7)}(Z:gV R p):gV R (Go.Ab.aI c p):=by cases c;exact .none;exact Z
section
variable {l:List Token}
theorem RI(e:Expr)(k:Nat):je (x1 e k)=je (Ri e)+if eT e.Op<k then 2 else 0:=by
 unfold x1 iS;split
 ·have Z:(spell (fH [40])).length=1:=rfl;have ad:(spell (fH [41])).length=1:=rfl;have al:je (Ri e)=je (kx (dJ e)):=rfl;simp only [kx,II,je,RG,Z,ad,al];omega
 ·rfl
theorem aa3(e:Expr){j k:Nat}(h:j≤k):je (x1 e j)≤je (x1 e k):=by
 rw [RI,RI];split<;>split<;>omega
def I4(l:List Token)(i ns:Nat)(e:Expr)(z:Int):Prop:=∃k:Nat,z=(k:Int)∧i≤k∧k≤l.length∧ky e∧b9 l i+je (x1 e ns)≤b9 l k
theorem I4.mono{i j ns RJ:Nat}{e:Expr}{z:Int}(h:I4 l j ns e z)(hi:i≤j)(hp:b9 l i≤b9 l j)(lb:RJ≤ns):I4 l i RJ e z:=by
 obtain⟨k,Z,ad,al,aH,a6⟩:=h;have:=aa3 e lb
 exact⟨k,Z,by omega,al,aH,by omega⟩
end
open Go Go.Ab Go.Proofs
section
variable {l:List Token}
end
open Go Go.Ab Go.Proofs
section
variable {l:List Token}
end
open Go Go.Ab Go.Proofs
section
variable {l:List Token}
end
open Go Go.Ab Go.Proofs
section
variable {l:List Token}
end
open Go Go.Ab Go.Proofs
abbrev kB(α:Type):=ae7→Except Int (α×ae7)
structure jf{α:Type}(D:kB α)(E:α→ae7)(ok:α→Prop):Prop where
 rt:∀v t,ok v→D (E v++t) = .ok (v,t)
 kZ:∀x v t,D x = .ok (v,t)→x=E v++t∧ok v
 hK:∀x e,D x = .error e→e≠0
def Ck{α β:Type}(D:kB α)(k:α→kB β):kB (α×β):=λx=>match D x with
 |.ok (v,t)=>match k v t with
  |.ok (w,u)=>.ok ((v,w),u)
  |.error e=>.error e
 |.error e=>.error e
def jf.dep{α β:Type}{D:kB α}{E:α→ae7}{ok:α→Prop}{k:α→kB β}{en:α→β→ae7}{RK:α→β→Prop}(h:jf D E ok)(ad:∀a,ok a→jf (k a) (en a) (RK a)):
 jf (Ck D k) (λp=>E p.1++en p.1 p.2) (λp=>ok p.1∧RK p.1 p.2) where
 rt:=fun⟨v,w⟩ t ⟨al,aH⟩=>by simp only [Ck,List.append_assoc,h.rt v _ al,(ad v al).rt w t aH]
 kZ:=
  λx ⟨v,w⟩ t hx=>by
  unfold Ck at hx;split at hx
  ·rename_i v0 t0 hd;obtain⟨al,aH⟩:=h.kZ _ _ _ hd;split at hx
   ·rename_i x' Kw hk;obtain⟨a6,bT⟩:=(ad v0 aH).kZ _ _ _ hk;cases hx;exact⟨by rw [al,a6,List.append_assoc],aH,bT⟩
   ·cases hx
  ·cases hx
 hK:=
  λx e hx=>by
  unfold Ck at hx;split at hx
  ·rename_i v0 t0 hd;split at hx
   ·cases hx
   ·rename_i bW hk;cases hx;exact(ad v0 (h.kZ _ _ _ hd).2).hK _ _ hk
  ·rename_i bW hd;cases hx;exact h.hK _ _ hd
def Cl{α β:Type}(f:α→β)(D:kB α):kB β:=λx=>match D x with
 |.ok (v,t)=>.ok (f v,t)
 |.error e=>.error e
def jf.map{α β:Type}{D:kB α}{E:α→ae7}{ok:α→Prop}(h:jf D E ok)(f:α→β)(g:β→α)(uN:β→Prop)(cx:β→ae7)(Z:∀b,uN b→f (g b)=b∧ok (g b)∧cx b=E (g b))(ad:∀a,ok a→g (f a)=a∧uN (f a)):
 jf (Cl f D) cx uN where
 rt:=λv t ar=>by
  obtain⟨al,aH,a6⟩:=Z v ar;simp only [Cl,a6,h.rt _ t aH,al]
 kZ:=λx v t hx=>by
  unfold Cl at hx;split at hx
  ·rename_i v0 t0 hd;cases hx;obtain⟨al,aH⟩:=h.kZ _ _ _ hd;obtain⟨a6,bT⟩:=ad _ aH;obtain⟨_,_,cI⟩:=Z _ bT;exact⟨by rw [cI,a6,al],bT⟩
  ·cases hx
 hK:=λx e hx=>by
  unfold Cl at hx;split at hx
  ·cases hx
  ·rename_i bW hd;cases hx;exact h.hK _ _ hd
def Cm{α:Type}(p:α→Bool)(e:Int)(D:kB α):kB α:=λx=>match D x with
 |.ok (v,t)=>if p v then .ok (v,t)else .error e
 |.error f=>.error f
def jf.chk{α:Type}{D:kB α}{E:α→ae7}{ok:α→Prop}(h:jf D E ok)(p:α→Bool)(e:Int)(he:e≠0):jf (Cm p e D) E (λv=>ok v∧p v=true) where
 rt:=λv t ⟨Z,ad⟩=>by simp only [Cm,h.rt v t Z,ad,ae5]
 kZ:=
  λx v t hx=>by
  unfold Cm at hx;split at hx
  ·rename_i v0 t0 hd;split at hx
   ·rename_i hp;cases hx;exact⟨(h.kZ _ _ _ hd).1,(h.kZ _ _ _ hd).2,hp⟩
   ·cases hx
  ·cases hx
 hK:=λx f hx=>by
  unfold Cm at hx;split at hx
  ·split at hx
   ·cases hx
   ·cases hx;exact he
  ·rename_i bW hd;cases hx;exact h.hK _ _ hd
def gR{α:Type}(E:α→ae7)(l:List α):ae7:=(l.map E).flatten
def uO{α:Type}(E:α→ae7)(v:α)(l:List α):gR E (v::l)=E v++gR E l:=rfl
def aa4{α:Type}(E:α→ae7):gR E []=[]:=rfl
def x_{α:Type}(D:kB α):Nat→kB (List α)
 | 0,x=>.ok ([],x)
 |n+1,x=>match D x with
  |.ok (v,t)=>match x_ D n t with
   |.ok (l,u)=>.ok (v::l,u)
   |.error e=>.error e
  |.error e=>.error e
def jf.rep{α:Type}{D:kB α}{E:α→ae7}{ok:α→Prop}(h:jf D E ok):∀n,jf (x_ D n) (gR E) (λl=>l.length=n∧∀v∈l,ok v)
 | 0=>{
  rt:=λv t ⟨Z,_⟩=>by
   obtain rfl:=List.eq_nil_of_length_eq_zero Z;rfl
  kZ:=λx v t hx=>by cases hx;exact⟨rfl,rfl,λv ar=>by cases ar⟩
  hK:=λx e hx=>by cases hx}
 |n+1=>{
  rt:=λv t ⟨Z,ad⟩=>by
   cases v with
   |nil=>simp at Z
   |cons a l=>
    have al:=h.rt a (gR E l++t) (ad a (by simp))
    have aH:=(jf.rep h n).rt l t ⟨by simpa using Z,λv ar=>ad v (by simp [ar])⟩
    simp only [x_,uO,List.append_assoc,al,aH]
  kZ:=
   λx v t hx=>by
   unfold x_ at hx;split at hx
   ·rename_i v0 t0 hd;split at hx
    ·rename_i l0 Kw hk;cases hx;obtain⟨al,aH⟩:=h.kZ _ _ _ hd;obtain⟨a6,bT,cI⟩:=(jf.rep h n).kZ _ _ _ hk;refine⟨by rw [al,a6,uO,List.append_assoc],by simp [bT],λv ar=>?_⟩
     rcases List.mem_cons.1 ar with rfl|ar
     ·exact aH
     ·exact cI v ar
    ·cases hx
   ·cases hx
  hK:=λx e hx=>by
   unfold x_ at hx;split at hx
   ·split at hx
    ·cases hx
    ·rename_i bW hk;cases hx;exact(jf.rep h n).hK _ _ hk
   ·rename_i bW hd;cases hx;exact h.hK _ _ hd}
def jY(z:Int):Prop:=0≤z∧z<18446744073709551616
def k0(z:Int):ae7:=fV z.toNat
def ef{α:Type}(E:α→ae7)(l:List α):ae7:=fV l.length++gR E l
def I5{α:Type}{E:α→ae7}:∀{l:List α},(∀v∈l,E v≠[])→l.length≤(gR E l).length
 |[],_=>by simp
 |v::l,h=>by
  have Z:(E v).length≠0:=by simpa using h v (by simp)
  have ad:=I5 (E:=E) (l:=l) λw hw=>h w (by simp [hw])
  simp only [uO,ae0,aeW];omega
def ya(b:Bool):ae7:=if b then[1] else[0]
def RL(u:Nat):fV u≠[]:=by rw [fV];split<;>simp
open Go Go.Ab Go.Proofs
def jf.as{α:Type}{D:kB α}{E:α→ae7}{ok:α→Prop}(h:jf D E ok)(cx:α→ae7)(uN:α→Prop)(Z:∀v,uN v↔ok v)(ad:∀v,ok v→cx v=E v):jf D cx uN where
 rt:=λv t ar=>by rw [ad v ((Z v).1 ar)];exact h.rt v t ((Z v).1 ar)
 kZ:=λx v t hx=>by
  obtain⟨al,aH⟩:=h.kZ x v t hx;exact⟨by rw [ad v aH];exact al,(Z v).2 aH⟩
 hK:=h.hK
def sx(v:bv):Prop:=lF v=true∧e5 v.N
def aa5{s:ae7}(h:kw s=true):s.length≤64:=by
 unfold kw at h;simp only [Bool.and_eq_true,decide_eq_true_eq]at h;exact h.2
def aa6{v:bv}(h:lF v=true):v=⟨0,0,[]⟩∨(v.Kind=1∧v.S=[])∨(v.Kind=2∧v.N=0∧kw v.S=true):=by
 obtain⟨k,n,s⟩:=v;unfold lF at h;simp only at h ⊢
 split at h
 ·rename_i h0;simp only [Bool.and_eq_true,decide_eq_true_eq]at h;obtain⟨rfl,rfl⟩:=h;exact .inl (by rw [h0])
 ·split at h
  ·rename_i Z;exact .inr (.inl ⟨Z,by simpa using h⟩)
  ·simp only [Bool.and_eq_true,decide_eq_true_eq]at h;exact .inr (.inr ⟨h.1.1,h.1.2,h.2⟩)
open Go Go.Ab Go.Proofs
def res{α:Type}(z:α)(s:ae7):Except Int (α×ae7)→α×Int×Int
 |.ok (v,t)=>(v,((s.length-t.length:Nat):Int),0)
 |.error e=>(z,0,e)
def RM{i:Nat}(h:i≤9223372036854775807):ae9 (i:Int)=(i:Int):=by rw [wr]<;>omega
open Go Go.Ab Go.Proofs
open Go Go.Ab Go.Proofs
def yb:∀a b:ae7,(!Op.bytesLess a b)=(Op.bytesLess b a||decide (b=a))
 |[],[]=>rfl
 |[],b::y=>rfl
 |a::x,[]=>rfl
 |a::x,b::y=>by
  simp only [Op.bytesLess,yb x y,Bool.not_or,Bool.not_and];rcases Nat.lt_trichotomy a.toNat b.toNat with h|h|h
  ·have Z:a<b:=h;have ad:¬ b<a:=by show¬ b.toNat<a.toNat;omega
   have al:a≠b:=by intro e;subst e;omega
   simp [Z,ad,Ne.symm al]
  ·obtain rfl:a=b:=UInt8.toNat_inj.1 h;simp
  ·have Z:b<a:=h;have ad:¬ a<b:=by show¬ a.toNat<b.toNat;omega
   have al:a≠b:=by intro e;subst e;omega
   simp [Z,ad,al]
def RN:∀a b c:ae7,Op.bytesLess a b=true→Op.bytesLess b c=true→Op.bytesLess a c=true
 |_,[],_,h,_=>by simp [Op.bytesLess]at h
 |_,b::y,[],_,h=>by simp [Op.bytesLess]at h
 |[],b::y,c::z,_,_=>rfl
 |a::x,b::y,c::z,Z,ad=>by
  simp only [Op.bytesLess,Bool.or_eq_true,Bool.and_eq_true,decide_eq_true_eq,beq_iff_eq]at Z ad ⊢;rcases Z with Z|⟨rfl,Z⟩
  ·rcases ad with ad|⟨rfl,ad⟩
   ·left;show a.toNat<c.toNat;have al:a.toNat<b.toNat:=Z;have aH:b.toNat<c.toNat:=ad;omega
   ·exact .inl Z
  ·rcases ad with ad|⟨rfl,ad⟩
   ·exact .inl ad
   ·exact .inr ⟨rfl,RN x y z Z ad⟩
open Go Go.Ab Go.Proofs
def nv{β:Type}{c k:Bool}{x y:β}(h:c = !k):(bif c then x else y)=if k then y else x:=by subst h;cases k<;>rfl
def qq{i len:Nat}{b:Bool}(hi:i<len)(ab:len≤1000000000):(b||(!(decide (0<(i:Int)))||a_ (ae9 ((i:Int)-1)) len))=true:=by
 cases i with
 |zero=>simp
 |succ i=>
  rw [show((i+1:Nat):Int)-1=(i:Int)by omega,RM (by omega),cX (by omega)];simp
def allI(len:Nat)(chk:Nat→Bool):Bool:=(List.range len).all chk
def iT{len:Nat}{chk:Nat→Bool}:allI len chk=true↔∀i,i<len→chk i=true:=by
 unfold allI;simp
def sy(b:Bool):(if b then true else false)=b:=by cases b<;>rfl
def Cn(b c:Bool):(if b then c else false)=(b&&c):=by cases b<;>rfl
def mJ{β:Type}{L:Nat→Int→Option β}{len:Nat}{chk:Nat→Bool}{no yes:β}{m:Nat}(hm:len<m)
 (step:∀m i,i<len→L (m+1) (i:Int)=if chk i then L m ((i+1:Nat):Int)else some no) (stop:∀m,L (m+1) (len:Int)=some yes):
 L m 0=some (if allI len chk then yes else no):=RD hm step stop
abbrev pv(i:Nat):Nat:=(ae9 ((i:Int)-1)).toNat
def RO(i:Nat)(h:i≤1000000000):pv (i+1)=i:=by
 unfold pv;(rw [show((i+1:Nat):Int)-1=(i:Int)by omega,RM (by omega)];simp only [aeY])
def aa7{L:Nat→Int→afa}{len:Nat}{p:Nat→Bool}
 (step:∀m i,i<len→L (m+1) (i:Int)=if p i then some (i:Int)else L m ((i+1:Nat):Int)) (stop:∀m,L (m+1) (len:Int)=some (-1)):
 ∀m i,len<i+m→i≤len→∃r,L m (i:Int)=some r∧decide (0≤r)=(List.range' i (len-i)).any p:=by
 intro m;induction m with
 |zero=>intro i h ad;omega
 |succ m a'=>
  intro i h ad;by_cases hi:i<len
  ·rw [step m i hi,show len-i=(len-(i+1))+1 by omega,List.range'_succ,List.any_cons]
   cases hp:p i
   ·obtain⟨r,al,aH⟩:=a' (i+1) (by omega) (by omega)
    exact⟨r,by rw [if_neg (by simp)];exact al,by rw [aH];simp⟩
   ·exact⟨(i:Int),by simp,by simp⟩
  ·obtain rfl:i=len:=by omega
   exact⟨-1,stop m,by simp⟩
def RP{L:Nat→Int→afa}{len:Nat}{p:Nat→Bool}{m:Nat}(hm:len<m)
 (step:∀m i,i<len→L (m+1) (i:Int)=if p i then some (i:Int)else L m ((i+1:Nat):Int)) (stop:∀m,L (m+1) (len:Int)=some (-1)):
 ∃r,L m 0=some r∧decide (0≤r) = !allI len λi=>!p i:=by
 obtain⟨r,Z,ad⟩:=aa7 step stop m 0 (by omega) (by omega)
 refine⟨r,Z,?_⟩
 rw [ad,Nat.sub_zero,←List.range_eq_range'];unfold allI;rw [List.not_all_eq_any_not];simp
section
variable {n:Nat} (hn:2000≤n) (bA:n≤1000000000)
include hn bA
def RQ(l:List bS):Bool:=allI l.length λi=>mI (l.getD i default).Key&&lF (l.getD i default).cj&&(!decide (0<(i:Int))||Op.bytesLess (l.getD (pv i) default).Key (l.getD i default).Key)
def I6(l:List bS):Bool:=RQ l&&allI l.length λi=>!decide ((l.getD i default).cj.Kind=0)
def sz(l:List be):Bool:=(allI l.length λi=>mI (l.getD i default).Key && !decide ((l.getD i default).Count<1) && !decide (1099511627776<(l.getD i default).Count)&&(!decide (0<(i:Int))||Op.bytesLess (l.getD (pv i) default).Key (l.getD i default).Key))&&decide (((l.length:Nat):Int)≤32)
theorem aa8{l:List be}(ab:l.length<n):AS n l=some (sz l):=by
 unfold AS sz;rw [mJ (L:=t' n l) (no:=false) (yes:=decide (((l.length:Nat):Int)≤32)) ab,Cn]
 ·intro m i hi;simp only [t',AR,aeZ,hi,aeQ,aeS,cX hi,bK,aP,aeY,df (show i≤4611686018427387904 by omega),I1 (show 24<n by omega),qq hi (show l.length≤1000000000 by omega)]
  exact nv (by simp only [fE,gx,Bool.not_and,Bool.not_or,Bool.not_not])
 ·intro m;simp only [t',AR,F5,ae3,aeR,aeT]
def sA(l:List ae7):Bool:=(allI l.length λi=>mI (l.getD i default)&&(!decide (0<(i:Int))||Op.bytesLess (l.getD (pv i) default) (l.getD i default)))
theorem RR{l:List ae7}(ab:l.length<n):wv n l=some (sA l&&decide (((l.length:Nat):Int)≤64)):=by
 unfold wv sA;rw [mJ (L:=tA n l) (no:=false) (yes:=decide (((l.length:Nat):Int)≤64)) ab,Cn]
 ·intro m i hi;simp only [tA,zR,aeZ,hi,aeQ,aeS,cX hi,bK,aP,aeY,df (show i≤4611686018427387904 by omega),I1 (show 24<n by omega),qq hi (show l.length≤1000000000 by omega)]
  exact nv (by simp only [fE,gx,Bool.not_and,Bool.not_or,Bool.not_not,←yb])
 ·intro m;simp only [tA,zR,EZ,ae3,aeR,aeT]
def uP(f:eK):Bool:=bif f.ee then decide (f.Reads.length=0)&&decide (f.cz.length=0) else(sA f.Reads&&decide (f.Reads.length≤64))&&(sA f.cz&&decide (f.cz.length≤64))
theorem aa9{f:eK}(Z:f.Reads.length<n)(ad:f.cz.length<n):ww n f=some (uP f):=by
 unfold ww uP;rw [RR hn bA Z,RR hn bA ad];simp only [aP,l',kW,gx];cases f.ee
 ·simp only [aeT];cases sA f.Reads&&decide (f.Reads.length≤64)<;>rfl
 ·rfl
end
end Go.Ab.Y

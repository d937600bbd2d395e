/- The plain law: what the functions compute answers as the statement says. -/
import Derived.Test.YtcjbfnojhpfchaaGreatDoorCtrB
set_option linter.all false
namespace Go.Ab.Y
open Go Go.Ab Go.Proofs
def arH{h:Decidable True}:@decide True h=true:=_root_.decide_true h
def arI{h:Decidable False}:@decide False h=false:=_root_.decide_false h
def arP:(∀n:Nat,(n:Int).toNat=n)∧∀(α:Type)(_:Inhabited α)(l:List α)(n:Nat),ar1 l n=l.getD n default:=⟨λ_=>rfl,λ_ _ _ _=>rfl⟩
def arJ{α:Type}{a b:α}:cond true a b=a:=rfl
def arK{α:Type}{a b:α}:cond false a b=b:=rfl
def arL:(!true)=false:=rfl
def arM:(!false)=true:=rfl
def arN{α:Type}{a:α}{l:List α}:(a::l).length=l.length+1:=rfl
def arO{α:Type}:([]:List α).length=0:=rfl
def arQ{a b:Nat}:((a:Int)<b)↔a<b:=_root_.Int.ofNat_lt
def arR{α:Type}{a b:List α}:(a++b).length=a.length+b.length:=_root_.List.length_append
def arS{α:Type}{a:α}:[a].length=1:=rfl
def arT{α:Type}{b:Bool}{x y:α}:cond b x y=if b then x else y:=_root_.Bool.cond_eq_ite b x y
def arU(a:Int):¬a<a:=_root_.Int.lt_irrefl a
def arV(a:Bool):(a||true)=true:=_root_.Bool.or_true a
def arW{α:Type}{a b:α}{h:Decidable True}:@ite α True h a b=a:=_root_.if_true a b
def arX{α:Type}{a b:α}{h:Decidable False}:@ite α False h a b=b:=_root_.if_false a b
def wr{x:Int}(Z : -9223372036854775808≤x)(ab:x≤9223372036854775807):ar0 x=x:=by(try unfold ar0);rw [IntKind.wrap_i64];omega
def bx{i:Nat}(h:i≤4611686018427387904):ar0 ((i:Int)+1)=((i+1:Nat):Int):=by rw [wr]<;>omega
def cm{i n:Nat}(h:i<n):aM (i:Int) n=true:=by simp [aM];omega
def ml{n:Nat}(h:0<n):aM 0 n=true:=by simp [aM];omega
def AX{i n:Nat}(h:i≤n):hv (i:Int) n=true:=by simp [hv];omega
def FB{i j n:Nat}(h:i≤j)(ab:j≤n):lG (i:Int) (j:Int) n=true:=by simp [lG];omega
@[simp] def a6 {α : Type} (x : Option α) : av true x = x := rfl
def fz{α:Type}(l:List α)(i:Nat)(d:α)(h:i<l.length):l.drop i=l.getD i d::l.drop (i+1):=by
 rw [List.drop_eq_getElem_cons h];simp [List.getD,h]
def g'{α:Type}(l:List α)(i:Nat)(h:¬ i<l.length):l.drop i=[]:=List.drop_of_length_le (by omega)
def pr(a k:Nat):((a:Int)<(no_index (OfNat.ofNat k):Int))↔a<k:=Int.ofNat_lt
def lA(a k:Nat):((a:Int)≤(no_index (OfNat.ofNat k):Int))↔a≤k:=Int.ofNat_le
def fF(a k:Nat):((no_index (OfNat.ofNat k):Int)<(a:Int))↔k<a:=Int.ofNat_lt
def s6(a k:Nat):((no_index (OfNat.ofNat k):Int)≤(a:Int))↔k≤a:=Int.ofNat_le
def fA(a k:Nat):((a:Int)=(no_index (OfNat.ofNat k):Int))↔a=k:=Int.ofNat_inj
def dJ(a b:Bool):(bif a then true else b)=(a||b):=by cases a<;>rfl
def dV(a b:Bool):(bif a then b else false)=(a&&b):=by cases a<;>rfl
def an{α β:Type}(a:α)(f:α→Option β):Option.bind (some a) f=f a:=rfl
def okB(c:UInt8):Bool:=decide (32≤c.toNat)&&decide (c.toNat≤126)
def i7(s:arY):Bool:=s.all okB&&decide (s.length≤64)
def AY(c:UInt8):(decide (c.toNat<32)||decide (126<c.toNat)) = !okB c:=by
 unfold okB;by_cases h:c.toNat<32
 ·simp [h]
 ·by_cases ab:c.toNat≤126
  ·simp [ab,show 32≤c.toNat by omega,h]
  ·simp [ab];omega
def ak2(n:Nat)(s:arY)(hs:s.length≤4611686018427387904):∀m i,s.length<i+m→i≤s.length→y7 n s m (i:Int)=some ((s.drop i).all okB&&decide (s.length≤64)):=by
 intro m;induction m with
 |zero=>intro i h ab;omega
 |succ m aR=>
  intro i hm hi;simp only [y7,PF,PE];by_cases h:i<s.length
  ·rw [fz s i 0 h,bx (by omega),aR (i+1) (by omega) (by omega)]
   simp only [h,cm h,arP,arQ,arH,arJ,a6,arV,List.all_cons,pr,fF,dJ,AY];cases okB (s.getD i 0)<;>simp
  ·rw [g' s i h];simp [h,lA]
def aaR{n:Nat}{s:arY}(h:s.length<n)(hs:s.length≤4611686018427387904):PG n s=some (i7 s):=ak2 n s hs n 0 (by omega) (by omega)
def ak3(n:Nat)(s:arY)(hs:s.length≤4611686018427387904):∀m i,s.length<i+m→i≤s.length→Ei n s m (i:Int)=some ((s.drop i).all okB):=by
 intro m;induction m with
 |zero=>intro i h ab;omega
 |succ m aR=>
  intro i hm hi;simp only [Ei,R7,R6];by_cases h:i<s.length
  ·rw [fz s i 0 h,bx (by omega),aR (i+1) (by omega) (by omega)]
   simp only [h,cm h,arP,arQ,arH,arJ,a6,arV,List.all_cons,pr,fF,dJ,AY];cases okB (s.getD i 0)<;>simp
  ·rw [g' s i h];simp [h,lA]
def ak4{n:Nat}{s:arY}(h:s.length<n)(hs:s.length≤4611686018427387904):Kd n s=some (i7 s):=by
 unfold Kd;rw [show(0:Int)=((0:Nat):Int)from rfl,ak3 n s hs n 0 (by omega) (by omega)]
 unfold i7;simp only [List.drop_zero,fF];by_cases h:64<s.length
 ·simp [h]
 ·simp [h];omega
def uW:List arY:=[[112,114,111,99],[108,101,116],[112,117,116],[100,101,108,101,116,101],[105,102],[101,108,115,101],[102,111,114],[116,111],[109,97,120],[101,109,105,116],[97,98,111,114,116],[110,111,116],[97,110,100],[111,114],[105,110,116],[115,116,114],[98,111,111,108],[116,101,120,116],[108,101,110],[103,101,116,105,110,116],[103,101,116,115,116,114],[104,97,115],[110,111,119],[114,97,110,100,111,109],[110,111,100,101]]
def uX(s:arY):Bool:=decide (s∈uW)
def aaS(n:Nat)(s:arY):CQ n s=some (uX s):=by
 unfold uX;by_cases h:s∈uW
 ·simp only [h,arH];simp only [uW,List.mem_cons,List.not_mem_nil,or_false]at h;rcases h with rfl|rfl|rfl|rfl|rfl|rfl|rfl|rfl|rfl|rfl|rfl|rfl|rfl|rfl|rfl|rfl|rfl|rfl|rfl|rfl|rfl|rfl|rfl|rfl|rfl<;>rfl
 ·simp only [h,arI];simp only [uW,List.mem_cons,List.not_mem_nil,or_false,not_or]at h;simp only [CQ,iy,Pf,h,arI,arK]
def ak5(n:Nat)(l:List arY)(s:arY)(hs:l.length≤4611686018427387904):∀m i,l.length<i+m→i≤l.length→Ec n l s m (i:Int)=some (decide (s∈l.drop i)):=by
 intro m;induction m with
 |zero=>intro i h ab;omega
 |succ m aR=>
  intro i hm hi;simp only [Ec,RO,RN];by_cases h:i<l.length
  ·rw [fz l i default h,bx (by omega),aR (i+1) (by omega) (by omega)]
   simp only [h,cm h,arP,arQ,arH,arJ,a6,List.mem_cons];by_cases he:l.getD i default=s
   ·simp only [he,arH,arJ,true_or]
   ·simp only [he,arI,arK,show¬ s=l.getD i default from λx=>he x.symm,false_or]
  ·rw [g' l i h];simp [h]
def ak6(n:Nat):RM n=some uW:=rfl
def ak7{n:Nat}(l:List arY)(s:arY)(h:l.length<n)(hs:l.length≤4611686018427387904):RP n l s=some (decide (s∈l)):=ak5 n l s hs n 0 (by omega) (by omega)
def aaT{n:Nat}(s:arY)(h:25<n):Ed n s=some (uX s):=by
 unfold Ed;simp only [ak6,an];rw [ak7 uW s (by show 25<_;omega) (by decide)]
 rfl
def oF(c:UInt8):Bool:=decide (97≤c.toNat)&&decide (c.toNat≤122)
def TJ(n:Nat)(c:UInt8):Aa n ((c.toNat:Nat):Int)=some (oF c):=by
 simp only [Aa,dV,s6,lA,oF]
def ak8{x:Nat}(h:x<256):IntKind.i32.wrap (x:Int)=x:=by rw [IntKind.wrap_i32];omega
def aaU(n:Nat)(c:UInt8):CR n (IntKind.i32.wrap ((c.toNat:Nat):Int))=some (oF c):=by
 rw [ak8 c.toNat_lt];simp only [CR,dV,s6,lA,oF]
def aaV(n:Nat)(c:UInt8):Ee n ((c.toNat:Nat):Int)=some (ih c):=by
 simp only [Ee,TJ,an,RQ,dV,dJ,s6,lA,fA];unfold ih oF;by_cases h:97≤c.toNat∧c.toNat≤122
 ·simp [h.1,h.2]
 ·have:(decide (97≤c.toNat)&&decide (c.toNat≤122))=false:=by simpa using h
  rw [this];simp only [arM,arJ,an,Bool.false_or,h,false_or,Bool.decide_or,Bool.decide_and]
def LU(s:arY):gN s≤s.length:=by unfold gN;exact(List.takeWhile_prefix _).length_le
def AZ(c:UInt8)(s:arY):gN (c::s)=bif ih c then gN s+1 else 0:=by
 unfold gN;cases h:ih c<;>simp [List.takeWhile,h]
def ak9(n:Nat)(s:arY)(hs:s.length≤4611686018427387904):∀m i,s.length<i+m→i≤s.length→Ef n s m (i:Int)=some (((i+gN (s.drop i):Nat):Int)):=by
 intro m;induction m with
 |zero=>intro i h ab;omega
 |succ m aR=>
  intro i hm hi;simp only [Ef,RS,RR];by_cases h:i<s.length
  ·rw [fz s i 0 h,bx (by omega),aR (i+1) (by omega) (by omega)]
   simp only [h,cm h,arP,arQ,arH,arJ,a6,arV,aaV,an,AZ];cases ih (s.getD i 0)
   ·rfl
   ·simp only [arJ,Option.some.injEq];omega
  ·rw [g' s i h];simp [h,gN]
def aaW{n:Nat}{s:arY}(i:Nat)(h:s.length<n)(hi:i≤s.length)(hs:s.length≤4611686018427387904):J_ n s (i:Int)=some (((i+gN (s.drop i):Nat):Int)):=ak9 n s hs n i (by omega) hi
def g_(s:arY):Bool:=
 match s with
 |[]=>false
 |c::l=>decide (l.length≤15)&&oF c&&decide (gN (c::l)=l.length+1) && !uX (c::l)
def A0{n:Nat}(s:arY)(h:s.length<n)(ab:25<n)(hs:s.length≤4611686018427387904):sO n s=some (g_ s):=by
 unfold sO;cases s with
 |nil=>rfl
 |cons c l=>
  simp only [aaT _ ab,dV,s6,lA,arN,show 1≤l.length+1 by omega,arH,Bool.true_and,ml (show 0<l.length+1 by omega),arV,a6,List.getD_cons_zero,TJ]
  rw [show(0:Int)=((0:Nat):Int)from rfl,aaW 0 h (by omega) hs]
  simp only [List.drop_zero,Nat.zero_add,g_,Int.ofNat_inj,show(l.length+1≤16)=(l.length≤15)by rw [eq_iff_iff];omega]
  cases decide (l.length≤15)<;>simp only [Bool.false_and,arK,an,Bool.true_and,arJ]
  cases oF c<;>simp only [Bool.false_and,arK,an,Bool.true_and,arJ,Int.ofNat_inj]
  cases decide (gN (c::l)=l.length+1)<;>simp only [Bool.false_and,arK,an,Bool.true_and,arJ]
def aaX(n:Nat)(s:arY)(h:s.length≤140737488351232):yX n s=some ((gN s:Nat):Int):=by
 unfold yX;simp only [h,arH,a6]
def A1(n:Nat)(s:arY)(h:s.length≤140737488351232):so n s=some (g_ s):=by
 unfold so;cases s with
 |nil=>rfl
 |cons c l=>
  simp only [aaS,dV,s6,lA,arN,reduceCtorEq,arI,arM,Bool.true_and,ml (show 0<l.length+1 by omega),arV,a6,List.getD_cons_zero,aaU,aaX _ _ h]
  simp only [g_,Int.ofNat_inj,show(l.length+1≤16)=(l.length≤15)by rw [eq_iff_iff];omega]
  cases decide (l.length≤15)<;>simp only [Bool.false_and,arK,an,Bool.true_and,arJ]
  cases oF c<;>simp only [Bool.false_and,arK,an,Bool.true_and,arJ,Int.ofNat_inj]
  cases decide (gN (c::l)=l.length+1)<;>simp only [Bool.false_and,arK,an,Bool.true_and,arJ]
def jN(op:Int):Int:=bif decide (op<1)||decide (27<op)then -1 else bif decide (op≤3)||decide (25≤op)then 0 else bif decide (op=9)||decide (op=18)||decide (20≤op)then 1 else 2
def ak'(n:Nat)(op:Int):H9 n op=some (jN op):=by
 simp only [H9,jN,dJ];cases decide (op<1)||decide (27<op)<;>simp only [arJ,arK]
 cases decide (op≤3)||decide (25≤op)<;>simp only [arJ,arK]
 cases decide (op=9)||decide (op=18)||decide (20≤op)<;>rfl
def ak_(n:Nat)(op:Int):Eh n op=some (jN op):=by
 by_cases h:1≤op∧op≤27
 ·obtain rfl|rfl|rfl|rfl|rfl|rfl|rfl|rfl|rfl|rfl|rfl|rfl|rfl|rfl|rfl|rfl|rfl|rfl|rfl|rfl|rfl|rfl|rfl|rfl|rfl|rfl|rfl:op=1∨op=2∨op=3∨op=4∨op=5∨op=6∨op=7∨op=8∨op=9∨op=10∨op=11∨op=12∨op=13∨op=14∨op=15∨op=16∨op=17∨op=18∨op=19∨op=20∨op=21∨op=22∨op=23∨op=24∨op=25∨op=26∨op=27:=by omega
  all_goals rfl
 ·have ha:jN op = -1:=by
   unfold jN;by_cases Z:op<1
   ·simp [Z]
   ·simp [show 27<op by omega]
  have hb:(decide (4≤op)&&decide (op≤19))=false:=by
   by_cases Z:4≤op
   ·simp [Z];omega
   ·simp [Z]
  simp only [Eh,uF,sR,R5,dV,hb,ha,show¬ op=1 by omega,show¬ op=2 by omega,show¬ op=3 by omega,show¬ op=25 by omega,show¬ op=26 by omega,show¬ op=27 by omega,show¬ op=9 by omega,show¬ op=18 by omega,show¬ op=20 by omega,show¬ op=21 by omega,show¬ op=22 by omega,show¬ op=23 by omega,show¬ op=24 by omega,arI,arK]
def ps(e:Expr)(depth:Int):Int:=
 if jN e.Op<0∨(e.Op≠1∧e.N≠0)∨(e.Op≠2∧e.Op≠3∧e.S≠[])then 1
 else if e.Op=3∧g_ e.S=false then 7
 else if e.N<0∨(e.Op=2∧i7 e.S=false)∨(e.au.length:Int)≠jN e.Op then 1
 else if 12<depth then 2 else 0
def ala{n:Nat}(e:Expr)(depth:Int)(h:e.S.length<n)(hs:e.S.length≤140737488351232):H' n e depth=some (ps e depth):=by
 obtain⟨Op,N,S,au⟩:=e;simp only at h hs
 simp only [H',ak',an,A1 _ _ hs,aaR h (by omega),ps]
 by_cases Z:jN Op<0
 ·simp [Z]
 by_cases ab:Op=1
 ·subst ab;by_cases bn:S=[]
  ·by_cases cd:N<0
   ·simp [Z,bn,cd]
   ·by_cases ep:(au.length:Int)=jN 1
    ·by_cases ek:12<depth<;>simp [Z,bn,cd,ep,ek]
    ·simp [Z,bn,cd,ep]
  ·simp [Z,bn]
 ·by_cases aq:N=0
  ·by_cases aN:Op=3
   ·subst aN;cases hn:g_ S
    ·simp [Z,aq,hn]
    ·by_cases ep:(au.length:Int)=jN 3
     ·by_cases ek:12<depth<;>simp [Z,aq,hn,ep,ek]
     ·simp [Z,aq,hn,ep]
   ·by_cases bn:Op=2
    ·subst bn;cases hn:i7 S
     ·simp [Z,aq,hn]
     ·by_cases ep:(au.length:Int)=jN 2
      ·by_cases ek:12<depth<;>simp [Z,aq,hn,ep,ek]
      ·simp [Z,aq,hn,ep]
    ·by_cases cd:S=[]
     ·by_cases ep:(au.length:Int)=jN Op
      ·by_cases ek:12<depth<;>simp [Z,ab,aq,aN,bn,cd,ep,ek]
      ·simp [Z,ab,aq,aN,bn,cd,ep]
     ·simp [Z,ab,aq,aN,bn,cd]
  ·simp [Z,ab,aq]
def alb{n:Nat}(e:Expr)(depth:Int)(h:e.S.length<n)(ab:25<n)(hs:e.S.length≤140737488351232):Ke n e depth=some (ps e depth):=by
 obtain⟨Op,N,S,au⟩:=e;simp only at h hs
 simp only [Ke,ak_,an,A0 S h ab (by omega),ak4 h (by omega),ps]
 clear ab;by_cases Z:jN Op<0
 ·simp [Z]
 by_cases ab:Op=1
 ·subst ab;by_cases bn:S=[]
  ·by_cases cd:N<0
   ·simp [Z,bn,cd]
   ·by_cases ep:(au.length:Int)=jN 1
    ·by_cases ek:12<depth<;>simp [Z,bn,cd,ep,ek]
    ·simp [Z,bn,cd,ep]
  ·simp [Z,bn]
 ·by_cases aq:N=0
  ·by_cases aN:Op=3
   ·subst aN;cases hn:g_ S
    ·simp [Z,aq,hn]
    ·by_cases ep:(au.length:Int)=jN 3
     ·by_cases ek:12<depth<;>simp [Z,aq,hn,ep,ek]
     ·simp [Z,aq,hn,ep]
   ·by_cases bn:Op=2
    ·subst bn;cases hn:i7 S
     ·simp [Z,aq,hn]
     ·by_cases ep:(au.length:Int)=jN 2
      ·by_cases ek:12<depth<;>simp [Z,aq,hn,ep,ek]
      ·simp [Z,aq,hn,ep]
    ·by_cases cd:S=[]
     ·by_cases ep:(au.length:Int)=jN Op
      ·by_cases ek:12<depth<;>simp [Z,ab,aq,aN,bn,cd,ep,ek]
      ·simp [Z,ab,aq,aN,bn,cd,ep]
     ·simp [Z,ab,aq,aN,bn,cd]
  ·simp [Z,ab,aq]
mutual
def cJ:Expr→Nat
 |⟨_,_,S,au⟩=>30+S.length+kl au
def kl:List Expr→Nat
 |[]=>0
 |x::l=>cJ x+1+kl l
end
def qr(e:Expr):cJ e=30+e.S.length+kl e.au:=by cases e;rfl
def FC:∀l:List Expr,l.length≤kl l
 |[]=>Nat.le_refl _
 |x::l=>by have:=FC l;simp only [kl,arN];omega
def FD:∀(l:List Expr) (i:Nat),i<l.length→cJ (l.getD i default)<kl l
 |[],i,h=>by simp at h
 |x::l,0,h=>by simp only [kl,List.getD_cons_zero];omega
 |x::l,i+1,h=>by have:=FD l i (by simpa using h);simp only [kl,List.getD_cons_succ];omega
def aaY:∀(n:Nat) (e:Expr),cJ e≤n→cJ e≤140737488351232→w4 n e e=some true:=by
 intro n;induction n with
 |zero=>intro e h;rw [qr]at h;omega
 |succ n aR=>
  intro e h ae;have uY:=qr e;have uZ:=FC e.au;simp only [w4,Rg,arH,arL,arK]
  have hr:∀m i,e.au.length<i+m→i≤e.au.length→D1 n (w4 n) e e m (i:Int)=some true:=by
   intro m;induction m with
   |zero=>intro i Z ab;omega
   |succ m jO=>
    intro i Z ab;simp only [D1,Rf,Re];by_cases hi:i<e.au.length
    ·have hg:=FD e.au i hi;simp only [hi,cm hi,arP,arQ,arH,arJ,a6,aR (e.au.getD i default) (by omega) (by omega),an,bx (show i≤4611686018427387904 by omega),arL,arK]
     exact jO (i+1) (by omega) (by omega)
    ·simp only [hi,arQ,arI,arK]
  exact hr n 0 (by omega) (by omega)
open Go Go.Ab Go.Proofs
def jA(c:UInt8):Bool:=decide (48≤c.toNat)&&decide (c.toNat≤57)
def val(u:Nat)(l:arY):Nat:=l.foldl (λu c=>u*10+(c.toNat-48)) u
def LV(u:Nat):val u []=u:=rfl
def LW(u:Nat)(c:UInt8)(l:arY):val u (c::l)=val (u*10+(c.toNat-48)) l:=by unfold val;rw [List.foldl_cons]
def aaZ(l:arY):∀(u:Nat),u≤val u l:=by
 induction l with
 |nil=>intro u;simp only [LV,Nat.le_refl]
 |cons c l aR=>
  intro u;rw [LW];have Z:u≤u*10+(c.toNat-48):=by omega
  exact Nat.le_trans Z (aR _)
def u0(c:UInt8):jA c=true↔48≤c.toNat∧c.toNat≤57:=by simp [jA]
def alc(l:arY):∀u,l.all jA=true→Lib.parseUintM 18446744073709551615 u l=(if val u l≤18446744073709551615 then .ok (val u l)else .range)∨18446744073709551615<u:=by
 induction l with
 |nil=>
  intro u _;by_cases h:u≤18446744073709551615
  ·left;rw [LV,if_pos h];rfl
  ·right;omega
 |cons c l aR=>
  intro u h;simp only [List.all_cons,Bool.and_eq_true,u0]at h;left
  rw [LW];simp only [Lib.parseUintM,h.1,and_self,arW];have hg:=aaZ l (u*10+(c.toNat-48));have na:=aR (u*10+(c.toNat-48)) h.2;generalize val (u*10+(c.toNat-48)) l=w at hg na ⊢
  by_cases Z:1844674407370955162≤u
  ·rw [if_pos Z,if_neg (by omega)]
  ·rw [if_neg Z];by_cases ab:18446744073709551615<u*10+(c.toNat-48)
   ·rw [if_pos ab,if_neg (by omega)]
   ·rw [if_neg ab];rcases na with aq|aq
    ·exact aq
    ·exact absurd aq ab
def pt(w:arY):Int×Int:=
 if w.all jA=true∧(w.head? ≠ some 48∨w.length=1) then
  if val 0 w≤9223372036854775807 then(((val 0 w:Nat):Int),0) else(0,3)
 else(0,5)
def aa0(c:UInt8)(l:arY)(h:(c::l).all jA=true):CN (c::l)=if val 0 (c::l)≤9223372036854775807 then .inl (val 0 (c::l):Nat)else .inr 9223372036854775807:=by
 have hc:48≤c.toNat∧c.toNat≤57:=by
  simp only [List.all_cons,Bool.and_eq_true,u0]at h;exact h.1
 have Z:Lib.parseIntB 64 (c::l)=_:=Lib.parseIntB_plain 64 c l (by omega) (by omega)
 have ab:Lib.parseUintB 64 (c::l)=(if val 0 (c::l)≤18446744073709551615 then .ok (val 0 (c::l))else .range):=by
  unfold Lib.parseUintB;rw [if_neg (by simp)]
  rcases alc (c::l) 0 h with aq|aq
  ·exact aq
  ·omega
 have aN:Lib.intSat 64 (c::l)=9223372036854775807:=by rw [Lib.intSat_other 64 c l (by omega)];rfl
 rw [ab]at Z;unfold CN;rw [Z,aN];by_cases bn:val 0 (c::l)≤18446744073709551615
 ·rw [if_pos bn];by_cases cd:val 0 (c::l)≤9223372036854775807
  ·rw [if_pos cd];simp only [Lib.signlessC];rw [if_neg (by omega)]
  ·rw [if_neg cd];simp only [Lib.signlessC];rw [if_pos (by omega)]
 ·rw [if_neg bn,if_neg (by omega)];rfl
def ald{c:UInt8}(h:48≤c.toNat∧c.toNat≤57):IntKind.u8.wrap (((c.toNat:Nat):Int)-48)=((c.toNat-48:Nat):Int):=by rw [IntKind.wrap_u8];omega
def aa1{x:Nat}(h:x≤18446744073709551615):IntKind.u64.wrap (x:Int)=x:=by rw [IntKind.wrap_u64];omega
def ale{x:Nat}(h:x≤9223372036854775807):ar0 (x:Int)=x:=by(try unfold ar0);rw [IntKind.wrap_i64];omega
def alf(n:Nat)(s:arY)(hs:s.length≤4611686018427387904)(hd:s.all jA=true)(h0:s.head? ≠ some 45):
 ∀(m i u:Nat),s.length<i+m→i≤s.length→u≤9223372036854775807→EJ n s s 9223372036854775807 m (u:Int) (i:Int)=some (if val u (s.drop i)≤9223372036854775807 then(((val u (s.drop i):Nat):Int),(0:Int)) else(0,3)):=by
 intro m;induction m with
 |zero=>intro i u h ab;omega
 |succ m aR=>
  intro i u hm hi hu;simp only [EJ,SS];by_cases h:i<s.length
  ·have hc:48≤(s.getD i 0).toNat∧(s.getD i 0).toNat≤57:=by
    rw [←u0];have:=List.all_eq_true.1 hd s[i] (List.getElem_mem h)
    simpa [List.getD,h]using this
   have ao:=aaZ (s.drop (i+1)) (u*10+((s.getD i 0).toNat-48));rw [fz s i 0 h,bx (by omega),LW]
   simp only [h,cm h,arP,arQ,arH,arJ,a6,ald hc];rw [aa1 (show(s.getD i 0).toNat-48≤18446744073709551615 by omega)]
   have e1:IntKind.u64.wrap (9223372036854775807-(((s.getD i 0).toNat-48:Nat):Int))=((9223372036854775807-((s.getD i 0).toNat-48):Nat):Int):=by rw [IntKind.wrap_u64];omega
   have e2:IntKind.u64.wrap (Int.tdiv ((9223372036854775807-((s.getD i 0).toNat-48):Nat):Int) 10)=(((9223372036854775807-((s.getD i 0).toNat-48)) / 10:Nat):Int):=by
    rw [show(Int.tdiv ((9223372036854775807-((s.getD i 0).toNat-48):Nat):Int) 10)=(((9223372036854775807-((s.getD i 0).toNat-48)) / 10:Nat):Int)from rfl]
    exact aa1 (by omega)
   rw [e1,e2];simp only [arQ];by_cases aq:(9223372036854775807-((s.getD i 0).toNat-48)) / 10<u
   ·simp only [aq,arH,arJ];rw [if_neg (by omega)]
   ·simp only [aq,arI,arK]
    have e3:IntKind.u64.wrap (IntKind.u64.wrap ((u:Int)*10)+(((s.getD i 0).toNat-48:Nat):Int))=((u*10+((s.getD i 0).toNat-48):Nat):Int):=by
     rw [IntKind.wrap_u64,IntKind.wrap_u64];omega
    rw [e3];exact aR (i+1) _ (by omega) (by omega) (by omega)
  ·rw [g' s i h,LV];simp only [h,arQ,arI,arK,hu,arW,SR]
   have:(bif (decide (0<((s.length:Nat):Int))) then(decide ((((s.getD 0 0).toNat:Nat):Int)=45))else false)=false:=by
    cases s with
    |nil=>rfl
    |cons c l=>
     simp only [List.head?_cons,ne_eq,Option.some.injEq]at h0;simp only [List.getD_cons_zero,fA];have:¬ c.toNat=45:=λe=>h0 (UInt8.toNat_inj.1 e)
     simp [this]
   rw [this];simp only [arK,ale hu]
def alg(n:Nat)(s:arY)(hs:s.length≤4611686018427387904):∀m i,s.length<i+m→i≤s.length→Az n s m (i:Int)=some ((s.drop i).all jA&&decide (0<s.length)&&(!decide (s.head? = some 48)||decide (s.length=1))):=by
 intro m;induction m with
 |zero=>intro i h ab;omega
 |succ m aR=>
  intro i hm hi;simp only [Az,SP,SO];by_cases h:i<s.length
  ·rw [fz s i 0 h,bx (by omega),aR (i+1) (by omega) (by omega)]
   simp only [h,cm h,arP,arQ,arH,arJ,a6,arV,List.all_cons,pr,fF,dJ];cases hd:jA (s.getD i 0)
   ·have:(decide ((s.getD i 0).toNat<48)||decide (57<(s.getD i 0).toNat))=true:=by
     have:¬ (48≤(s.getD i 0).toNat∧(s.getD i 0).toNat≤57):=λx=>by rw [(u0 _).2 x]at hd;cases hd
     by_cases Z:(s.getD i 0).toNat<48
     ·simp only [Z,arH,Bool.true_or]
     ·simp only [show 57<(s.getD i 0).toNat by omega,arH,arV]
    rw [this];rfl
   ·have Z:=(u0 _).1 hd
    have:(decide ((s.getD i 0).toNat<48)||decide (57<(s.getD i 0).toNat))=false:=by
     simp only [show¬ (s.getD i 0).toNat<48 by omega,show¬ 57<(s.getD i 0).toNat by omega,arI,Bool.or_self]
    rw [this];simp only [arK,Bool.true_and]
  ·rw [g' s i h];cases s with
   |nil=>
    simp only [arO,arQ,Nat.not_lt_zero,arI,arK];rfl
   |cons c l=>
    rw [arN]at h;simp only [h,arI,arK,arQ,arN,fF,show 0<l.length+1 by omega,arH,arL,Bool.false_or,ml (show 0<l.length+1 by omega),a6,arJ,List.getD_cons_zero,fA,List.all_nil,Bool.true_and,List.head?_cons,Option.some.injEq,dJ]
    have:decide (c.toNat=48)=decide (c=48):=by
     rw [decide_eq_decide];exact⟨λe=>UInt8.toNat_inj.1 e,λe=>by subst e;rfl⟩
    rw [this]
def alh{n:Nat}(c:UInt8)(l:arY)(h:l.length+1<n)(hs:l.length+1≤4611686018427387904)(hc:c.toNat≠45):K7 n (c::l)=some (pt (c::l)):=by
 unfold K7 K6 SQ;have hd:=alg n (c::l) hs n 0 (by simp only [arN];omega) (by omega)
 have TK:(bif (decide (0<(((c::l).length:Nat):Int))) then(decide (((((c::l).getD 0 0).toNat:Nat):Int)=45))else false)=false:=by
  simp only [List.getD_cons_zero,fA,hc,arI];cases decide (0<(((c::l).length:Nat):Int))<;>rfl
 have hd:Az n (c::l) n 0=_:=hd;have hin:(!(decide ((0:Int)<(((c::l).length:Nat):Int)))||aM 0 (c::l).length)=true:=by rw [ml (show 0<(c::l).length by simp)];simp only [arV]
 rw [TK,hd,hin];simp only [arM,arN,ml (show 0<l.length+1 by omega),arV,a6,arK,an,List.drop_zero,show(0<l.length+1)=True by simp,arH,Bool.and_true]
 unfold pt;by_cases Z:(c::l).all jA=true∧((c::l).head? ≠ some 48∨(c::l).length=1)
 ·rw [if_pos Z]
  have:((c::l).all jA&&(!decide ((c::l).head? = some 48)||decide (l.length+1=1)))=true:=by
   rw [Z.1];rcases Z.2 with ab|ab
   ·simp only [ab,arI,arM,Bool.true_or,Bool.and_self]
   ·simp only [show l.length+1=1 from ab,arH,arV,Bool.and_self]
  rw [this]
  have bJ:(c::l).head? ≠ some 45:=by
   intro e;simp only [List.head?_cons,Option.some.injEq]at e;subst e;exact hc rfl
  have:=alf n (c::l) hs Z.1 bJ n 0 0 (by simp only [arN];omega) (by omega) (by omega)
  simpa using this
 ·rw [if_neg Z]
  have:((c::l).all jA&&(!decide ((c::l).head? = some 48)||decide (l.length+1=1)))=false:=by
   cases ab:(c::l).all jA
   ·rfl
   ·by_cases aq:(c::l).head? = some 48
    ·by_cases aN:l.length+1=1
     ·exact absurd ⟨ab,Or.inr aN⟩ Z
     ·simp only [aq,aN,arH,arI,arL,Bool.or_self,Bool.and_false]
    ·exact absurd ⟨ab,Or.inl aq⟩ Z
  rw [this];rfl
open Go Go.Ab Go.Proofs
def dl(l:arY):Nat:=(l.takeWhile jA).length
def TL(c:UInt8)(l:arY):dl (c::l)=bif jA c then dl l+1 else 0:=by
 unfold dl;cases h:jA c<;>simp [List.takeWhile,h]
def ali(l:arY):dl l≤l.length:=by unfold dl;exact(List.takeWhile_prefix _).length_le
def aa2(l:arY):dl l=l.length↔l.all jA=true:=by
 induction l with
 |nil=>simp [dl]
 |cons c l aR=>
  rw [TL];cases h:jA c
  ·simp [h]
  ·simp [h,aR]
def alj(n:Nat)(s:arY)(b:Bool)(hs:s.length≤4611686018427387904):∀m i,s.length<i+m→i≤s.length→zE n s s b m (i:Int)=DA n s s b ((i+dl (s.drop i):Nat):Int):=by
 intro m;induction m with
 |zero=>intro i h ab;omega
 |succ m aR=>
  intro i hm hi;simp only [zE,QK];by_cases h:i<s.length
  ·rw [fz s i 0 h,bx (by omega),aR (i+1) (by omega) (by omega),TL]
   simp only [h,cm h,arP,arQ,arH,arJ,a6,s6,lA,dV];rw [show(decide (48≤(s.getD i 0).toNat)&&decide ((s.getD i 0).toNat≤57))=jA (s.getD i 0)from rfl]
   cases jA (s.getD i 0)
   ·rfl
   ·simp only [arJ];rw [show i+1+dl (s.drop (i+1))=i+(dl (s.drop (i+1))+1)by omega]
  ·rw [g' s i h];simp only [h,arQ,arI,arK];rfl
def alk{n:Nat}{s:arY}(h:s.length≤281474976710656):yY n s 10 64=some (CN s):=by
 unfold yY;rw [decide_eq_true (show(10:Int)=10∧(64:Int)=64∧s.length≤281474976710656 from⟨rfl,rfl,h⟩)]
 rfl
def alm{n:Nat}(c:UInt8)(l:arY)(h:l.length+1<n)(hs:l.length+1≤140737488351232)(hc:jA c=true):I_ n (c::l)=some (pt (c::l)):=by
 have l7:=(u0 c).1 hc;have dQ:¬ c.toNat=45:=by omega
 unfold I_ I'
 have TK:(bif (decide (0<(((c::l).length:Nat):Int))) then(decide (((((c::l).getD 0 0).toNat:Nat):Int)=45))else false)=false:=by
  simp only [List.getD_cons_zero,fA,dQ,arI];cases decide (0<(((c::l).length:Nat):Int))<;>rfl
 have hin:(!(decide ((0:Int)<(((c::l).length:Nat):Int)))||aM 0 (c::l).length)=true:=by rw [ml (show 0<(c::l).length by simp)];simp only [arV]
 have hr:=alj n (c::l) false (by simp only [arN];omega) n 0 (by simp only [arN];omega) (by omega)
 have hr:zE n (c::l) (c::l) false n 0=_:=hr;rw [TK,hin,hr];simp only [a6,arK,List.drop_zero,Nat.zero_add];have Z:1≤dl (c::l):=by rw [TL,hc];simp
 have hlen:(c::l).length=l.length+1:=rfl;have hle:=ali (c::l);unfold DA;simp only [ml (show 0<(c::l).length by simp),arV,a6,fA,show¬ dl (c::l)=0 by omega,arI,arK,arQ,List.getD_cons_zero,fF,dJ]
 unfold pt;by_cases ha:(c::l).all jA=true
 ·have hd:=(aa2 _).2 ha;simp only [hd,Nat.lt_irrefl,arI,Bool.false_or,ha,true_and];by_cases TM:c=48
  ·subst TM;by_cases fc:l=[]
   ·subst fc;simp only [List.head?_cons,arN,arO];rw [if_pos (by simp)]
    simp only [yY,aa0 _ _ ha];rw [if_pos (by decide)]
    rfl
   ·have:1<((48::l:arY)).length:=by
     cases l with
     |nil=>exact absurd rfl fc
     |cons _ _=>simp
    simp only [this,arH,arJ];rw [if_neg (by simp [fc])]
    rfl
  ·have aln:¬ c.toNat=48:=λe=>TM (UInt8.toNat_inj.1 e)
   simp only [aln,arI,arK];rw [if_pos (show(c::l).head? ≠ some 48∨(c::l).length=1 from Or.inl (by simpa using TM))]
   rw [alk (by simp only [arN];omega),aa0 _ _ ha]
   by_cases ax:val 0 (c::l)≤9223372036854775807
   ·rw [if_pos ax,if_pos ax];rfl
   ·rw [if_neg ax,if_neg ax];rfl
 ·have hd:dl (c::l)<(c::l).length:=by
   have:¬ dl (c::l)=(c::l).length:=λe=>ha ((aa2 _).1 e)
   omega
  simp only [hd,arH,Bool.true_or,arJ];rw [if_neg (λx=>ha x.1)]
def pu(w:arY):Token×Int:=
 match w with
 |[]=>(⟨0,[],0,0⟩,0)
 |c::_=>
  if oF c=true then
   if uX w=true then(⟨2,w,0,0⟩,0)else if g_ w=true then(⟨1,w,0,0⟩,0) else(⟨0,[],0,0⟩,2)
  else if(pt w).2=0 then(⟨3,[],(pt w).1,0⟩,0) else(⟨0,[],0,0⟩,(pt w).2)
def alo{n:Nat}(c:UInt8)(l:arY)(h:l.length+1<n)(hs:l.length+1≤140737488351232)(hw:ih c=true):Ja n (c::l)=some (pu (c::l)):=by
 unfold Ja pu;simp only [ml (show 0<(c::l).length by simp),a6,List.getD_cons_zero,fA,aaU,an,aaS,A1 _ _ (show(c::l).length≤140737488351232 from hs)]
 by_cases Z:c.toNat=95
 ·have e:c=95:=UInt8.toNat_inj.1 Z;subst e
  have alp:pt (95::l)=(0,5):=by
   unfold pt;rw [if_neg (by simp [show jA 95=false from rfl])]
  simp only [Z,arH,arJ];rw [if_neg (by decide),alp]
  rfl
 ·simp only [Z,arI,arK];cases ae:oF c
  ·have hd:jA c=true:=by
    unfold ih at hw;have hw:=of_decide_eq_true hw;unfold oF at ae;rw [u0];simp only [Bool.and_eq_false_iff,decide_eq_false_iff_not]at ae;omega
   simp only [arK,alm c l h hs hd,an,Bool.false_eq_true,arX];by_cases bn:(pt (c::l)).2=0
   ·simp only [bn,arH,arL,arK,arW]
   ·simp only [bn,arI,arM,arJ,arX]
  ·simp only [arJ,arW];cases uX (c::l)
   ·cases g_ (c::l)<;>rfl
   ·rfl
def alq{n:Nat}(c:UInt8)(l:arY)(h:l.length+1<n)(ab:25<n)(hs:l.length+1≤140737488351232)(hw:ih c=true):K8 n (c::l)=some (pu (c::l)):=by
 unfold K8 pu
 have hc:c.toNat≠45:=by
  unfold ih at hw;have hw:=of_decide_eq_true hw;omega
 simp only [ml (show 0<(c::l).length by simp),a6,List.getD_cons_zero,fA,TJ,an,aaT _ ab,A0 (c::l) h ab (show(c::l).length≤4611686018427387904 by simp only [arN];omega),alh c l h (by omega) hc]
 cases ae:oF c
 ·simp only [arK,an,Bool.false_eq_true,arX];by_cases bn:(pt (c::l)).2=0
  ·simp only [bn,arH,arL,arK,arW]
  ·simp only [bn,arI,arM,arJ,arX]
 ·simp only [arJ,arW];cases uX (c::l)
  ·cases g_ (c::l)<;>rfl
  ·rfl
open Go Go.Ab Go.Proofs
def up(k:Nat):Int ⊕ (arY×Nat)→Int ⊕ (arY×Nat)
 |.inl e=>.inl e
 |.inr p=>.inr (p.1,p.2+k)
def fQ:arY→arY→Int ⊕ (arY×Nat)
 |[],acc=>.inl 6
 |[c],acc=>if c.toNat=34 then .inr (acc,1)else if c.toNat=92 then .inl 6 else if okB c=false then .inl 5 else if acc.length=64 then .inl 2 else .inl 6
 |c::d::l,acc=>
  if c.toNat=34 then .inr (acc,1)
  else if c.toNat=92 then
   if d.toNat≠34∧d.toNat≠92 then .inl 5 else if acc.length=64 then .inl 2 else up 2 (fQ l (acc++[d]))
  else if okB c=false then .inl 5
  else if acc.length=64 then .inl 2
  else up 1 (fQ (d::l) (acc++[c]))
def fU(l:arY):List Int:=l.map λc=>((c.toNat:Nat):Int)
def TN(l:arY):kd (fU l)=l:=by
 unfold kd fU;rw [List.map_map]
 conv=>rhs;rw [←List.map_id l]
 refine List.map_congr_left λc _=>?_
 simp
def TO(l:arY):ns (fU l)=true:=by
 unfold ns fU;rw [List.all_eq_true];intro x hx;obtain⟨c,_,rfl⟩:=List.mem_map.1 hx;have:=c.toNat_lt
 simp only [Bool.and_eq_true,decide_eq_true_eq];omega
def LX(l:arY):(fU l).length=l.length:=by simp [fU]
def TP(l:arY)(c:UInt8):fU l++[((c.toNat:Nat):Int)]=fU (l++[c]):=by simp [fU]
def xB(z:Int)(i:Nat):Int ⊕ (arY×Nat)→arY×Int×Int
 |.inl e=>([],z,e)
 |.inr p=>(p.1,((i+p.2:Nat):Int),0)
def LY(z:Int)(i k:Nat)(r:Int ⊕ (arY×Nat)):xB z i (up k r)=xB z (i+k) r:=by
 cases r with
 |inl e=>rfl
 |inr p=>simp only [up,xB];rw [show i+(p.2+k)=i+k+p.2 by omega]
def aa3{k:Nat}(h:k≤65):room k 1=true:=by simp [room];omega
def LZ(c:UInt8)(l acc:arY)(h:c.toNat≠92):fQ (c::l) acc=if c.toNat=34 then .inr (acc,1)else if okB c=false then .inl 5 else if acc.length=64 then .inl 2 else up 1 (fQ l (acc++[c])):=by
 cases l with
 |nil=>
  simp only [fQ];by_cases Z:c.toNat=34
  ·simp only [Z,arW]
  ·simp only [Z,h,arX,up]
 |cons d l =>
  simp only [fQ];by_cases Z:c.toNat=34
  ·simp only [Z,arW]
  ·simp only [Z,h,arX]
def alr{d:UInt8}(h:¬ (d.toNat≠34∧d.toNat≠92)):okB d=true:=by
 unfold okB;simp only [Bool.and_eq_true,decide_eq_true_eq];omega
def aa4(p:Prop)[Decidable p]:(!decide p)=decide (¬ p):=by by_cases h:p<;>simp [h]
def als(n:Nat)(s:arY)(hs:s.length≤4611686018427387904):∀(m i:Nat) (acc:arY),s.length<i+m→i≤s.length→acc.length≤64→
 zD n s m (fU acc) (i:Int)=some (xB 0 i (fQ (s.drop i) acc)):=by
 intro m;induction m with
 |zero=>intro i acc h ab;omega
 |succ m aR=>
  intro i acc hm hi ha;simp only [zD,QH,I8,QG,I7];by_cases h:i<s.length
  ·rw [fz s i 0 h,bx (by omega)]
   simp only [h,cm h,arP,arQ,Int.ofNat_inj,arH,arJ,a6,pr,fF,fA,dJ,AY,LX];generalize hc:s.getD i 0=c
   by_cases gD:c.toNat=34
   ·simp only [gD,arH,arJ,TO,a6,TN];rw [LZ c _ _ (by omega),if_pos gD]
    rfl
   ·by_cases mH:c.toNat=92
    ·simp only [mH,arH,arJ,show¬ (92=34)by omega,arI,arK]
     by_cases FE:i+1=s.length
     ·simp only [FE,arH,arJ];rw [g' s s.length (by omega)]
      simp only [fQ,gD,arX,mH,arW];rfl
     ·have cN:i+1<s.length:=by omega
      rw [fz s (i+1) 0 cN,bx (by omega)]
      simp only [FE,arI,arK,cm cN,a6];generalize s.getD (i+1) 0=d
      simp only [fQ,gD,arX,mH,arW,dV,aa4,show¬ (92=34)by omega]
      by_cases hd:d.toNat≠34∧d.toNat≠92
      ·rw [if_pos hd];simp only [hd.1,hd.2,arH,not_false_eq_true,Bool.and_self,arJ];rfl
      ·rw [if_neg hd];have:(decide (¬ d.toNat=34)&&decide (¬ d.toNat=92))=false:=by rw [←Bool.decide_and];exact decide_eq_false hd
       simp only [this,arK,alr hd,arL];by_cases oG:acc.length=64
       ·simp only [oG,arH,arJ,arW];rfl
       ·simp only [oG,arI,arK,arX,arN,arO,aa3 (show acc.length+(0+1)≤65 by omega),a6,TP]
        rw [aR (i+1+1) (acc++[d]) (by omega) (by omega) (by simp only [arR,arN,arO];omega),LY]
    ·simp only [gD,mH,arI,arK];rw [LZ c _ _ mH,if_neg gD];cases ef:okB c
     ·simp only [arM,arJ,arW];rfl
     ·simp only [arL,arK,arX,Bool.true_eq_false];by_cases oG:acc.length=64
      ·simp only [oG,arH,arJ,arW];rfl
      ·simp only [oG,arI,arK,arX,arN,arO,aa3 (show acc.length+(0+1)≤65 by omega),a6,TP]
       rw [aR (i+1) (acc++[c]) (by omega) (by omega) (by simp only [arR,arN,arO];omega),LY]
  ·rw [g' s i h];simp only [h,arQ,arI,arK];rfl
def TQ{k:Nat}(h:k≤9223372036854775807):b' k=true:=by simp [b'];omega
def aa5(s:arY)(i:Nat)(h:i<s.length):(s.take (i+1)).drop i=[s.getD i 0]:=by
 rw [fz (s.take (i+1)) i 0 (by simp;omega),g' _ _ (by simp;omega)]
 simp [List.getD,h]
def alt(n:Nat)(s:arY)(hs:s.length≤4611686018427387904):∀(m i:Nat) (acc:arY),s.length<i+m→i≤s.length→acc.length≤64→
 ∃z,EK n s m (i:Int) acc=some (xB z i (fQ (s.drop i) acc)):=by
 intro m;induction m with
 |zero=>intro i acc h ab;omega
 |succ m aR=>
  intro i acc hm hi ha;simp only [EK,SU,K9,ST];by_cases h:i<s.length
  ·rw [fz s i 0 h,bx (by omega)]
   simp only [h,cm h,arP,arQ,Int.ofNat_inj,arH,arJ,a6,pr,fF,fA,dJ,AY,LX,FB (Nat.le_succ i) h,aa5 s i h];generalize hc:s.getD i 0=c
   by_cases gD:c.toNat=34
   ·simp only [gD,arH,arJ];rw [LZ c _ _ (by omega),if_pos gD]
    exact⟨0,rfl⟩
   ·by_cases mH:c.toNat=92
    ·simp only [mH,arH,arJ,show¬ (92=34)by omega,arI,arK]
     by_cases FE:i+1=s.length
     ·simp only [FE,arH,arJ];rw [g' s s.length (by omega)]
      simp only [fQ,gD,arX,mH,arW];exact⟨_,rfl⟩
     ·have cN:i+1<s.length:=by omega
      rw [fz s (i+1) 0 cN,bx (by omega)]
      simp only [FE,arI,arK,cm cN,a6,arV,arP,aa5 s (i+1) cN,FB (Nat.le_succ (i+1)) cN];generalize s.getD (i+1) 0=d
      simp only [fQ,gD,arX,mH,arW,dV,aa4,show¬ (92=34)by omega]
      by_cases hd:d.toNat≠34∧d.toNat≠92
      ·rw [if_pos hd];simp only [hd.1,hd.2,arH,not_false_eq_true,Bool.and_self,arJ];exact⟨_,rfl⟩
      ·rw [if_neg hd];have:(decide (¬ d.toNat=34)&&decide (¬ d.toNat=92))=false:=by rw [←Bool.decide_and];exact decide_eq_false hd
       simp only [this,arK];by_cases oG:acc.length=64
       ·simp only [oG,arH,arJ,arW];exact⟨_,rfl⟩
       ·simp only [oG,arI,arK,arX,arN,arO,TQ (show acc.length+(0+1)≤9223372036854775807 by omega),a6]
        obtain⟨z,cX⟩:=aR (i+1+1) (acc++[d]) (by omega) (by omega) (by simp only [arR,arN,arO];omega)
        exact⟨z,by rw [cX,LY]⟩
    ·simp only [gD,mH,arI,arK];rw [LZ c _ _ mH,if_neg gD];cases ef:okB c
     ·simp only [arM,arJ,arW];exact⟨_,rfl⟩
     ·simp only [arL,arK,arX,Bool.true_eq_false];by_cases oG:acc.length=64
      ·simp only [oG,arH,arJ,arW];exact⟨_,rfl⟩
      ·simp only [oG,arI,arK,arX,arN,arO,TQ (show acc.length+(0+1)≤9223372036854775807 by omega),a6]
       obtain⟨z,cX⟩:=aR (i+1) (acc++[c]) (by omega) (by omega) (by simp only [arR,arN,arO];omega)
       exact⟨z,by rw [cX,LY]⟩
  ·rw [g' s i h];simp only [h,arQ,arI,arK];exact⟨_,rfl⟩
open Go Go.Ab Go.Proofs
def two:List arY:=[[61,61],[33,61],[60,61],[62,61],[43,43]]
def s7:arY:=[40,41,123,125,44,59,58,61,60,62,43,45,42,47,37]
def marks:List arY:=two++s7.map λc=>[c]
def k5(l w:arY):Bool:=decide (w.length≤l.length∧l.take w.length=w)
def mI(l:arY):arY:=(marks.find? (k5 l)).getD []
def find_eq{α β:Type}[DecidableEq β](x:β)(p:α→Bool)(f:α→β)(L:List α)(h:∀w,w∈L→p w=decide (x=f w))(b5:∀v w,v∈L→w∈L→f v=f w→v=w):
 (∃v,v∈L∧x=f v∧L.find? p=some v)∨((∀v,v∈L→x≠f v)∧L.find? p=none):=by
 cases ao:L.find? p with
 |none=>
  right
  rw [List.find?_eq_none]at ao;refine⟨λv ax e=>ao v ax ?_,rfl⟩
  rw [h v ax];exact decide_eq_true e
 |some v=>
  left
  have ax:=List.mem_of_find?_eq_some ao;have:=List.find?_some ao
  rw [h v ax]at this;exact⟨v,ax,of_decide_eq_true this,rfl⟩
def alu(a c:UInt8)(t:arY):k5 (a::t) [c]=decide (a=c):=by
 unfold k5;rw [decide_eq_decide];simp
def alv(a b:UInt8)(t:arY)(w:arY)(h:w∈two):k5 (a::b::t) w=decide ([a,b]=w):=by
 have:w.length=2:=by
  simp only [two,List.mem_cons,List.not_mem_nil,or_false]at h;rcases h with rfl|rfl|rfl|rfl|rfl<;>rfl
 unfold k5;rw [decide_eq_decide,this];simp
def alw(a:UInt8)(w:arY)(h:w∈two):k5 [a] w=false:=by
 have:w.length=2:=by
  simp only [two,List.mem_cons,List.not_mem_nil,or_false]at h;rcases h with rfl|rfl|rfl|rfl|rfl<;>rfl
 unfold k5;rw [this];simp
def aa6(a:UInt8)(t:arY):((s7.map λc=>[c]).find? (k5 (a::t))).getD []=if a∈s7 then[a] else[]:=by
 rw [List.find?_map];have Z:((λw=>k5 (a::t) w)∘λc=>[c])=λc=>decide (a=c):=by funext c;exact alu a c t
 have Z:(k5 (a::t)∘λc=>[c])=λc=>decide (a=c):=Z
 rw [Z];rcases find_eq a (λc=>decide (a=c)) (λc=>c) s7 (λ_ _=>rfl) (λ_ _ _ _ e=>e) with⟨v,ax,rfl,ab⟩|⟨hn,ab⟩
 ·rw [ab,if_pos ax];rfl
 ·rw [ab,if_neg λhm=>hn a hm rfl];rfl
def alx(a b:UInt8)(t:arY):mI (a::b::t)=if[a,b]∈two then[a,b]else if a∈s7 then[a] else[]:=by
 unfold mI marks;rw [List.find?_append];rcases find_eq [a,b] (k5 (a::b::t)) (λc=>c) two (λw hw=>alv a b t w hw) (λ_ _ _ _ e=>e) with⟨v,ax,rfl,ab⟩|⟨hn,ab⟩
 ·rw [ab,if_pos ax];rfl
 ·rw [ab,if_neg λhm=>hn _ hm rfl]
  exact aa6 a (b::t)
def aly(a:UInt8):mI [a]=if a∈s7 then[a] else[]:=by
 unfold mI marks;rw [List.find?_append]
 have:two.find? (k5 [a])=none:=by
  rw [List.find?_eq_none];intro w hw;rw [alw a w hw];exact Bool.false_ne_true
 rw [this];exact aa6 a []
def aa7(a:UInt8):∀l:arY,Lib.indexByte l a = -1∧a∉l∨0≤Lib.indexByte l a∧a∈l
 |[]=>Or.inl ⟨rfl,by simp⟩
 |b::l=>by
  unfold Lib.indexByte;by_cases h:b=a
  ·subst h;right;simp
  ·have cN:(b == a)=false:=by simp [h]
   rw [cN];simp only [Bool.false_eq_true,arX];rcases aa7 a l with⟨Z,ab⟩|⟨Z,ab⟩
   ·left
    rw [Z];refine⟨rfl,?_⟩
    simp only [List.mem_cons,not_or];exact⟨λe=>h e.symm,ab⟩
   ·right
    have:(Lib.indexByte l a == -1)=false:=by
     simp only [beq_eq_false_iff_ne,ne_eq];omega
    rw [this];simp only [Bool.false_eq_true,arX];exact⟨by omega,List.mem_cons_of_mem _ ab⟩
def alz(a:UInt8):(((a.toNat:Nat):Int)).toNat.toUInt8=a:=by
 (simp only [arP]);exact UInt8.ofNat_toNat
def aa8(n:Nat)(a:UInt8)(t:arY):Dz n (a::t)=some (if a∈s7 then[a] else[]):=by
 unfold Dz QJ HT;simp only [reduceCtorEq,arI,arM,ml (show 0<(a::t).length by simp),arV,a6,arJ,an,List.getD_cons_zero,alz]
 rw [show([40,41,123,125,44,59,58,61,60,62,43,45,42,47,37]:arY)=s7 from rfl]
 rcases aa7 a s7 with⟨Z,ab⟩|⟨Z,ab⟩
 ·rw [Z,if_neg ab];rfl
 ·rw [if_pos ab];have hu:hv 1 (a::t).length=true:=AX (i:=1) (show 1≤(a::t).length by simp)
  simp only [Z,arH,arJ,hu,a6,List.take_succ_cons,List.take_zero]
def alA(n:Nat)(a:UInt8)(t:arY):I9 n (a::t)=some (mI (a::t)):=by
 unfold I9;cases t with
 |nil=>
  rw [aly];exact aa8 n a []
 |cons b t=>
  rw [alx];have ab:decide ((2:Int)≤(((a::b::t).length:Nat):Int))=true:=decide_eq_true (by simp only [arN];omega)
  have hu:hv 2 (a::b::t).length=true:=AX (i:=2) (show 2≤(a::b::t).length by simp)
  simp only [ab,arJ,hu,a6,wY,aa8];rw [show(a::b::t).take 2=[a,b]from rfl]
  generalize [a,b]=w
  by_cases h:w∈two
  ·rw [if_pos h];simp only [two,List.mem_cons,List.not_mem_nil,or_false]at h;rcases h with rfl|rfl|rfl|rfl|rfl<;>rfl
  ·rw [if_neg h];simp only [two,List.mem_cons,List.not_mem_nil,or_false,not_or]at h;simp only [h,arI,arK]
def alB(n:Nat):SN n=some marks:=rfl
def TR(w:arY)(h:w∈marks):1≤w.length∧w.length≤2:=by
 have:∀w,w∈marks→decide (1≤w.length∧w.length≤2)=true:=by decide
 exact of_decide_eq_true (this w h)
def alC(i:Nat):Option arY→Token×Int×Int
 |none=>(⟨0,[],0,0⟩,(i:Int),5)
 |some w=>(⟨5,w,0,0⟩,((i+w.length:Nat):Int),0)
def aa9(s:arY)(i k:Nat):(s.take (i+k)).drop i=(s.drop i).take k:=by
 rw [List.drop_take];congr 1;omega
def alD(n:Nat)(s:arY)(at_:Nat)(L:List arY)(hs:s.length≤4611686018427387904)(ha:at_≤s.length)(cO:L.length≤100)(hw:∀w,w∈L→w.length≤2):
 ∀m i,L.length<i+m→i≤L.length→AA n s (at_:Int) L m (i:Int)=some (alC at_ ((L.drop i).find? (k5 (s.drop at_)))):=by
 intro m;induction m with
 |zero=>intro i h ab;omega
 |succ m aR=>
  intro i hm hi;simp only [AA,SX,SW];by_cases h:i<L.length
  ·(rw [fz L i default h,bx (by omega),aR (i+1) (by omega) (by omega)];simp only [arP])
   have xC:(L.getD i default).length≤2:=hw _ (by simp [List.getD,h])
   generalize L.getD i default=w at xC
   simp only [h,cm h,arQ,arH,arJ,a6,arV];have e1:ar0 ((at_:Int)+((w.length:Nat):Int))=((at_+w.length:Nat):Int):=by rw [wr]<;>omega
   simp only [e1,arP,aa9,Int.ofNat_le];by_cases Z:at_+w.length≤s.length
   ·simp only [Z,arH,arL,Bool.false_or,FB (Nat.le_add_right at_ w.length) Z,a6,arJ];by_cases ab:(s.drop at_).take w.length=w
    ·have:k5 (s.drop at_) w=true:=decide_eq_true ⟨by simp;omega,ab⟩
     simp only [ab,arH,arJ,List.find?_cons,this];rfl
    ·have:k5 (s.drop at_) w=false:=decide_eq_false λx=>ab x.2
     simp only [ab,arI,arK,List.find?_cons,this]
   ·have:k5 (s.drop at_) w=false:=decide_eq_false λx=>by have:=x.1;simp at this;omega
    simp only [Z,arI,arM,Bool.true_or,a6,arK,List.find?_cons,this]
  ·rw [g' L i h];simp only [h,arQ,arI,arK];rfl
open Go Go.Ab Go.Proofs
def A2:Int ⊕ (arY×Nat)→Token×Nat×Int
 |.inl e=>(⟨4,[],0,0⟩,0,e)
 |.inr p=>(⟨4,p.1,0,0⟩,p.2+1,0)
def gb(l:arY):Token×Nat×Int:=
 match l with
 |[]=>(⟨0,[],0,0⟩,0,0)
 |c::t=>
  if ih c=true then((pu ((c::t).take (gN (c::t)))).1,gN (c::t),(pu ((c::t).take (gN (c::t)))).2)
  else if c.toNat=34 then A2 (fQ t [])
  else if mI (c::t)=[] then(⟨0,[],0,0⟩,0,5) else(⟨5,mI (c::t),0,0⟩,(mI (c::t)).length,0)
def A3:∀(l acc:arY) (e:Int),fQ l acc = .inl e→e≠0
 |[],acc,e,h=>by simp only [fQ,Sum.inl.injEq]at h;omega
 |[c],acc,e,h=>by
  simp only [fQ]at h
  (repeat' split at h)<;>simp only [reduceCtorEq,Sum.inl.injEq]at h<;>omega
 |c::d::l,acc,e,h=>by
  simp only [fQ]at h;split at h
  ·cases h
  ·split at h
   ·split at h
    ·simp only [Sum.inl.injEq]at h;omega
    ·split at h
     ·simp only [Sum.inl.injEq]at h;omega
     ·cases ao:fQ l (acc++[d]) with
      |inl bp=>rw [ao]at h;simp only [up,Sum.inl.injEq]at h;subst h;exact A3 l _ _ ao
      |inr p=>rw [ao]at h;cases h
   ·split at h
    ·simp only [Sum.inl.injEq]at h;omega
    ·split at h
     ·simp only [Sum.inl.injEq]at h;omega
     ·cases ao:fQ (d::l) (acc++[c]) with
      |inl bp=>rw [ao]at h;simp only [up,Sum.inl.injEq]at h;subst h;exact A3 (d::l) _ _ ao
      |inr p=>rw [ao]at h;cases h
def TS:∀(l acc:arY) (p:arY×Nat),fQ l acc = .inr p→1≤p.2∧p.2≤l.length∧p.1.length≤acc.length+p.2
 |[],acc,e,h=>by simp only [fQ,reduceCtorEq]at h
 |[c],acc,p,h=>by
  simp only [fQ]at h;split at h
  ·simp only [Sum.inr.injEq]at h;subst h;simp
  ·(repeat' split at h)<;>simp only [reduceCtorEq]at h
 |c::d::l,acc,p,h=>by
  simp only [fQ]at h;split at h
  ·simp only [Sum.inr.injEq]at h;subst h;simp
  ·split at h
   ·split at h
    ·simp only [reduceCtorEq]at h
    ·split at h
     ·simp only [reduceCtorEq]at h
     ·cases ao:fQ l (acc++[d]) with
      |inl bp=>rw [ao]at h;simp only [up,reduceCtorEq]at h
      |inr q=>
       rw [ao]at h;simp only [up,Sum.inr.injEq]at h;subst h;have:=TS l _ _ ao
       simp only [arR,arN,arO]at this ⊢;omega
   ·split at h
    ·simp only [reduceCtorEq]at h
    ·split at h
     ·simp only [reduceCtorEq]at h
     ·cases ao:fQ (d::l) (acc++[c]) with
      |inl bp=>rw [ao]at h;simp only [up,reduceCtorEq]at h
      |inr q=>
       rw [ao]at h;simp only [up,Sum.inr.injEq]at h;subst h;have:=TS (d::l) _ _ ao
       simp only [arR,arN,arO]at this ⊢;omega
def alE(l:arY):mI l=[]∨(1≤(mI l).length∧(mI l).length≤l.length):=by
 unfold mI;cases h:marks.find? (k5 l) with
 |none=>left;rfl
 |some w=>
  right
  have Z:=TR w (List.mem_of_find?_eq_some h);have ab:=List.find?_some h;have:=(of_decide_eq_true ab).1
  exact⟨Z.1,this⟩
def alF(w:arY):(pu w).1.Text.length≤w.length:=by
 cases w with
 |nil=>simp [pu]
 |cons c l=>
  unfold pu;simp only
  (repeat' split)<;>simp
def alG(l:arY)(ae:l≠[])(h:(gb l).2.2=0):1≤(gb l).2.1∧(gb l).2.1≤l.length∧(gb l).1.Text.length≤(gb l).2.1:=by
 cases l with
 |nil=>exact absurd rfl ae
 |cons c t=>
  unfold gb at h ⊢;simp only at h ⊢
  split at h
  ·rename_i hw;rw [if_pos hw];simp only
   have Z:=LU (c::t);refine⟨by rw [AZ,hw];simp,Z,?_⟩
   refine Nat.le_trans (alF _) ?_;simp only [List.length_take];omega
  ·rename_i hw;rw [if_neg hw];split at h
   ·rename_i gD;rw [if_pos gD];cases ao:fQ t [] with
    |inl e=>rw [ao]at h;exact absurd h (A3 t [] e ao)
    |inr p=>
     have:=TS t [] p ao
     simp only [A2,arN,arO]at this ⊢;omega
   ·rename_i gD;rw [if_neg gD];split at h
    ·simp only at h;omega
    ·rename_i hm;rw [if_neg hm];have:=(alE (c::t)).resolve_left hm
     simp only
     exact⟨this.1,this.2,Nat.le_refl _⟩
def aa'(c:UInt8)(t:arY)(h:ih c=true):∃k,gN (c::t)=k+1∧(c::t).take (gN (c::t))=c::t.take k∧k≤t.length:=by
 refine⟨gN t,by rw [AZ,h];rfl,by rw [AZ,h];rfl,LU t⟩
def alH{c:UInt8}(h:c.toNat=34):ih c=false:=by
 unfold ih;exact decide_eq_false (by omega)
def alI{n:Nat}(c:UInt8)(t:arY)(h:t.length+1<n)(hs:t.length+1≤140737488351232):
 DB n (c::t)=some ((gb (c::t)).1,(((gb (c::t)).2.1:Nat):Int),(gb (c::t)).2.2):=by
 unfold DB;rw [aaX n (c::t) hs,an];unfold gb;simp only
 cases hw:ih c
 ·have h0:gN (c::t)=0:=by rw [AZ,hw];rfl
  rw [h0];simp only [show decide ((0:Int)<((0:Nat):Int))=false from rfl,arK,ml (show 0<(c::t).length by simp),a6,List.getD_cons_zero,fA,Bool.false_eq_true,arX]
  by_cases gD:c.toNat=34
  ·rw [if_pos gD];simp only [gD,arH,arJ];unfold QI;have:=als n (c::t) (by simp only [arN];omega) n 1 [] (by simp only [arN];omega) (by simp) (by simp)
   rw [show zD n (c::t) n ([]:List Int) 1=_ from this,List.drop_succ_cons,List.drop_zero]
   cases fQ t [] with
   |inl e=>rfl
   |inr p=>simp only [xB,A2,an];rw [Nat.add_comm 1 p.2]
  ·rw [if_neg gD];simp only [gD,arI,arK,alA,an];by_cases hm:mI (c::t)=[]
   ·rw [if_pos hm];simp only [hm,arH,arJ];rfl
   ·rw [if_neg hm];simp only [hm,arI,arK]
 ·obtain⟨k,hk,ry,pc⟩:=aa' c t hw;rw [if_pos rfl];simp only [fF,show 0<gN (c::t)by omega,arH,arJ,AX (LU (c::t)),a6,arP]
  rw [ry,alo c (t.take k) (by simp only [List.length_take];omega) (by simp only [List.length_take];omega) hw]
  rfl
def alJ{n:Nat}(s:arY)(i:Nat)(hi:i<s.length)(h:s.length<n)(ab:100<n)(hs:s.length≤140737488351232):
 ∃t z,K' n s (i:Int)=some (t,z,(gb (s.drop i)).2.2)∧((gb (s.drop i)).2.2=0→t=(gb (s.drop i)).1∧z=((i+(gb (s.drop i)).2.1:Nat):Int)):=by
 unfold K';have hd:=fz s i 0 hi
 (simp only [arP])
 generalize hc:s.getD i 0=c at hd
 generalize aA:s.drop (i+1)=t at hd
 have FF:t.length+(i+1)=s.length:=by rw [←aA,List.length_drop];omega
 rw [hd];unfold gb;simp only [cm hi,a6,fA];by_cases gD:c.toNat=34
 ·simp only [alH gD,Bool.false_eq_true,arX,gD,arH,arJ,arW];unfold SV;rw [bx (by omega)]
  obtain⟨z,cX⟩:=alt n s (by omega) n (i+1) [] (by omega) (by omega) (by simp)
  rw [cX,aA];cases ao:fQ t [] with
  |inl e=>exact⟨_,_,rfl,λcc=>absurd cc (A3 _ _ _ ao)⟩
  |inr p=>exact⟨_,_,rfl,λ_=>⟨rfl,by simp only [A2,xB];rw [show i+1+p.2=i+(p.2+1)by omega]⟩⟩
 ·simp only [gD,arI,arK,arX,aaV,an];cases hw:ih c
  ·simp only [arK,Bool.false_eq_true,arX,alB,an];have:=alD n s i marks (by omega) (by omega) (by decide) (λw hw=>(TR w hw).2) n 0 (by have:marks.length=20:=rfl;omega) (by omega)
   rw [show AA n s (i:Int) marks n 0=_ from this,List.drop_zero,hd]
   unfold mI;cases ao:marks.find? (k5 (c::t)) with
   |none=>exact⟨_,_,rfl,λcc=>absurd cc (by decide)⟩
   |some w=>
    have dQ:¬ w=[]:=λe=>by have:=(TR w (List.mem_of_find?_eq_some ao)).1;rw [e]at this;simp at this
    simp only [Option.getD_some,dQ,arX];exact⟨_,_,rfl,λ_=>⟨rfl,rfl⟩⟩
  ·obtain⟨k,hk,ry,pc⟩:=aa' c t hw;have xC:=LU (c::t);simp only [arN]at xC;simp only [arJ,arW,aaW i h (by omega) (show s.length≤4611686018427387904 by omega),an,hd,FB (Nat.le_add_right i (gN (c::t))) (show i+gN (c::t)≤s.length by omega),a6,arP,aa9]
   rw [ry,alq c (t.take k) (by simp only [List.length_take];omega) (by omega) (by simp only [List.length_take];omega) hw]
   exact⟨_,_,rfl,λ_=>⟨rfl,rfl⟩⟩
open Go Go.Ab Go.Proofs
def ji:Bool→arY→Nat
 |_,[]=>0
 |false,c::l=>if c.toNat=35 then 1+ji true l else if c.toNat=32∨c.toNat=9∨c.toNat=10 then 1+ji false l else 0
 |true,c::l=>if c.toNat=10 then 1+ji false l else 1+ji true l
def gU:arY→Nat
 |[]=>0
 |c::l=>if c.toNat=10 then 0 else 1+gU l
def TT:∀l,gU l≤l.length
 |[]=>Nat.le_refl _
 |c::l=>by have:=TT l;simp only [gU];split<;>simp only [arN]<;>omega
def TU:∀l,ji true l=gU l+ji false (l.drop (gU l))
 |[]=>rfl
 |c::l=>by
  by_cases h:c.toNat=10
  ·simp only [ji,gU,h,arW,List.drop_zero,Nat.zero_add,show¬ (10=35)by omega,arX,or_true]
  ·simp only [ji,gU,h,arX];rw [TU l,Nat.add_comm 1 (gU l),List.drop_succ_cons];omega
def alK(n:Nat)(s:arY)(am:Int→ar3)(hs:s.length≤4611686018427387904):∀m i,s.length<i+m→i≤s.length→EG n am s m (i:Int)=am ((i+gU (s.drop i):Nat):Int):=by
 intro m;induction m with
 |zero=>intro i h ab;omega
 |succ m aR=>
  intro i hm hi;simp only [EG,SL];by_cases h:i<s.length
  ·(rw [fz s i 0 h,bx (by omega),aR (i+1) (by omega) (by omega)];simp only [arP])
   generalize s.getD i 0=c
   simp only [h,cm h,arQ,arH,arJ,a6,arV,fA,gU];by_cases ln:c.toNat=10
   ·simp only [ln,arH,arL,arK,arW];rfl
   ·simp only [ln,arI,arM,arJ,arX];rw [show i+(1+gU (s.drop (i+1)))=i+1+gU (s.drop (i+1))by omega]
  ·rw [g' s i h];simp only [h,arQ,arI,arK,arM,Bool.true_or,a6];rfl
def alL(n:Nat)(s:arY)(hs:s.length≤4611686018427387904)(hn:s.length<n):∀m i,s.length<i+m→i≤s.length→EH n s m (i:Int)=some ((i+ji false (s.drop i):Nat):Int):=by
 intro m;induction m with
 |zero=>intro i h ab;omega
 |succ m aR=>
  intro i hm hi;simp only [EH,SM,SK];by_cases h:i<s.length
  ·have gS:=TT (s.drop i);rw [alK n s _ hs n i (by omega) hi]
   rw [fz s i 0 h]at gS ⊢
   (rw [bx (by omega),aR (i+1) (by omega) (by omega)];simp only [arP])
   have FF:(s.drop (i+1)).length=s.length-(i+1):=List.length_drop;generalize s.getD i 0=c at gS ⊢
   simp only [h,cm h,arQ,arH,arJ,a6,arV,fA,dJ];by_cases u1:c.toNat=35
   ·have e:gU (c::s.drop (i+1))=1+gU (s.drop (i+1)):=by simp only [gU,u1,show¬ (35=10)by omega,arX]
    rw [e]at gS ⊢;simp only [arN,FF]at gS;rw [aR (i+(1+gU (s.drop (i+1)))) (by omega) (by omega)]
    simp only [u1,arH,arJ,ji,arW];rw [TU,List.drop_drop]
    congr 2
    rw [show i+(1+gU (s.drop (i+1)))=i+1+gU (s.drop (i+1))by omega]
    omega
   ·simp only [u1,arI,arK,ji,arX];by_cases hb:c.toNat=32∨c.toNat=9∨c.toNat=10
    ·have:(decide (c.toNat=32)||decide (c.toNat=9)||decide (c.toNat=10))=true:=by
      rcases hb with hb|hb|hb<;>simp [hb]
     rw [if_pos hb,this,arJ]
     congr 2;omega
    ·have:(decide (c.toNat=32)||decide (c.toNat=9)||decide (c.toNat=10))=false:=by
      simp only [not_or]at hb;simp only [hb.1,hb.2.1,hb.2.2,arI,Bool.or_self]
     rw [if_neg hb,this,arK];rfl
  ·rw [g' s i h];simp only [h,arQ,arI,arK];rfl
def fd(s:arY)(i:Nat):Nat:=(s.take i).count 10
def aa_(s:arY)(i k:Nat)(h:(10:UInt8)∉(s.drop i).take k):fd s (i+k)=fd s i:=by
 unfold fd;rw [List.take_add,List.count_append,List.count_eq_zero.2 h];rfl
def aba(s:arY)(i:Nat)(h:i<s.length):fd s (i+1)=fd s i+(if(s.getD i 0).toNat=10 then 1 else 0):=by
 unfold fd;rw [List.take_add,List.count_append,fz s i 0 h,List.take_succ_cons,List.take_zero]
 congr 1
 generalize s.getD i 0=c
 by_cases hc:c.toNat=10
 ·rw [if_pos hc];obtain rfl:c=10:=UInt8.toNat_inj.1 hc;rfl
 ·rw [if_neg hc];refine List.count_eq_zero.2 λhm=>?_
  simp only [List.mem_cons,List.not_mem_nil,or_false]at hm;exact hc (by rw [←hm];rfl)
def alM(n:Nat)(s:arY)(a:Nat)(hs:s.length≤4611686018427387904)(ha:a≤s.length):∀m i,a<i+m→i≤a→EF n s (a:Int) m ((fd s i:Nat):Int) (i:Int)=some ((fd s a:Nat):Int):=by
 intro m;induction m with
 |zero=>intro i h ab;omega
 |succ m aR=>
  intro i hm hi;simp only [EF,SJ,SI,K4];by_cases h:i<a
  ·have hle:fd s i≤i:=by unfold fd;exact Nat.le_trans List.count_le_length (by simp;omega)
   have kv:=aba s i (by omega)
   have na:=aR (i+1) (by omega) (by omega)
   rw [kv]at na
   (rw [bx (by omega),bx (by omega)];simp only [arP])
   generalize s.getD i 0=c at na
   simp only [h,cm (show i<s.length by omega),arQ,arH,arJ,a6,fA]
   by_cases ln:c.toNat=10
   ·rw [if_pos ln]at na;simp only [ln,arH,arJ];exact na
   ·rw [if_neg ln]at na;simp only [ln,arI,arK];exact na
  ·obtain rfl:i=a:=by omega
   simp only [Nat.lt_irrefl,arQ,arI,arK]
def alN{n:Nat}(s:arY)(a:Nat)(hs:s.length≤4611686018427387904)(ha:a≤s.length)(hn:s.length<n):K5 n s (a:Int)=some ((fd s a:Nat):Int):=by
 unfold K5;exact alM n s a hs ha n 0 (by omega) (by omega)
def TV:∀(l acc:arY) (p:arY×Nat),fQ l acc = .inr p→(10:UInt8)∉l.take p.2
 |[],acc,e,h=>by simp only [fQ,reduceCtorEq]at h
 |[c],acc,p,h=>by
  simp only [fQ]at h;split at h
  ·rename_i hc;simp only [Sum.inr.injEq]at h;subst h;intro hm;simp only [List.take_succ_cons,List.take_zero,List.mem_cons,List.not_mem_nil,or_false]at hm;rw [←hm]at hc;exact absurd hc (by decide)
  ·(repeat' split at h)<;>simp only [reduceCtorEq]at h
 |c::d::l,acc,p,h=>by
  simp only [fQ]at h;split at h
  ·rename_i hc;simp only [Sum.inr.injEq]at h;subst h;intro hm;simp only [List.take_succ_cons,List.take_zero,List.mem_cons,List.not_mem_nil,or_false]at hm;rw [←hm]at hc;exact absurd hc (by decide)
  ·split at h
   ·rename_i gD mH;split at h
    ·simp only [reduceCtorEq]at h
    ·rename_i hd;split at h
     ·simp only [reduceCtorEq]at h
     ·cases ao:fQ l (acc++[d]) with
      |inl bp=>rw [ao]at h;simp only [up,reduceCtorEq]at h
      |inr q=>
       rw [ao]at h;simp only [up,Sum.inr.injEq]at h;subst h;have:=TV l _ _ ao
       intro hm;simp only [List.take_succ_cons,List.mem_cons]at hm;rcases hm with hm|hm|hm
       ·rw [←hm]at mH;exact absurd mH (by decide)
       ·rw [←hm]at hd;exact absurd (show(10:UInt8).toNat≠34∧(10:UInt8).toNat≠92 by decide) hd
       ·exact this hm
   ·split at h
    ·simp only [reduceCtorEq]at h
    ·rename_i ef;split at h
     ·simp only [reduceCtorEq]at h
     ·cases ao:fQ (d::l) (acc++[c]) with
      |inl bp=>rw [ao]at h;simp only [up,reduceCtorEq]at h
      |inr q=>
       rw [ao]at h;simp only [up,Sum.inr.injEq]at h;subst h;have:=TV (d::l) _ _ ao
       intro hm;rw [List.take_succ_cons,List.mem_cons]at hm;rcases hm with hm|hm
       ·rw [←hm]at ef;exact ef (by decide)
       ·exact this hm
def alO(l:arY)(ae:l≠[])(h:(gb l).2.2=0):(10:UInt8)∉l.take (gb l).2.1:=by
 cases l with
 |nil=>exact absurd rfl ae
 |cons c t=>
  unfold gb at h ⊢;simp only at h ⊢
  split at h
  ·rename_i hw;rw [if_pos hw];simp only
   intro hm
   have e:(c::t).take (gN (c::t))=(c::t).takeWhile ih:=by
    unfold gN;exact(List.prefix_iff_eq_take.1 (List.takeWhile_prefix ih)).symm
   rw [e]at hm;have:=List.all_eq_true.1 (List.all_takeWhile (p:=ih) (l:=c::t)) _ hm
   exact absurd this (by decide)
  ·rename_i hw;rw [if_neg hw];split at h
   ·rename_i gD;rw [if_pos gD];cases ao:fQ t [] with
    |inl e=>rw [ao]at h;exact absurd h (A3 t [] e ao)
    |inr p=>
     simp only [A2];intro hm;rw [List.take_succ_cons,List.mem_cons]at hm;rcases hm with hm|hm
     ·rw [←hm]at gD;exact absurd gD (by decide)
     ·exact TV _ _ _ ao hm
   ·rename_i gD;rw [if_neg gD];split at h
    ·simp only at h;omega
    ·rename_i hm;rw [if_neg hm];simp only
     unfold mI at hm ⊢;cases ao:marks.find? (k5 (c::t)) with
     |none=>rw [ao]at hm;exact absurd rfl hm
     |some w=>
      simp only [Option.getD_some];have ab:=List.find?_some ao;rw [(of_decide_eq_true ab).2];have:∀w,w∈marks→decide ((10:UInt8)∉w)=true:=by decide
      exact of_decide_eq_true (this w (List.mem_of_find?_eq_some ao))
def abb:∀l:arY,(10:UInt8)∉l.take (gU l)
 |[]=>by simp
 |c::l=>by
  by_cases h:c.toNat=10
  ·simp [gU,h]
  ·have:=abb l
   simp only [gU,h,arX];rw [Nat.add_comm,List.take_succ_cons,List.mem_cons];intro hm;rcases hm with hm|hm
   ·rw [←hm]at h;exact h rfl
   ·exact this hm
open Go Go.Ab Go.Proofs
def hf:List Token→Nat
 |[]=>0
 |t::l=>60+t.Text.length+hf l
def L0:∀l m:List Token,hf (l++m)=hf l+hf m
 |[],m=>by simp [hf]
 |t::l,m=>by rw [List.cons_append,hf,hf,L0 l m];omega
def mJ:∀l:List Token,60*l.length≤hf l
 |[]=>Nat.le_refl _
 |t::l=>by have:=mJ l;simp only [hf,arN];omega
def alP(n:Nat)(src:arY)(am:List Token→Int→Int→Option (List Token×Int×Int))(out:List Token)(nb:Int)(hs:src.length≤4611686018427387904):
 ∀m i,src.length<i+m→i≤src.length→DC n am src out nb m (i:Int)=am out nb ((i+gU (src.drop i):Nat):Int):=by
 intro m;induction m with
 |zero=>intro i h ab;omega
 |succ m aR=>
  intro i hm hi;simp only [DC,QO,QN];by_cases h:i<src.length
  ·(rw [fz src i 0 h,bx (by omega),aR (i+1) (by omega) (by omega)];simp only [arP])
   generalize src.getD i 0=c
   simp only [h,cm h,arQ,arH,arJ,a6,arV,fA,gU];by_cases ln:c.toNat=10
   ·simp only [ln,arH,arL,arK,arW];rfl
   ·simp only [ln,arI,arM,arJ,arX];rw [show i+(1+gU (src.drop (i+1)))=i+1+gU (src.drop (i+1))by omega]
  ·rw [g' src i h];simp only [h,arQ,arI,arK,arM,Bool.true_or,a6];rfl
def clone{n:Nat}{s:arY}(h:s.length≤281474976710656):Jb n s=some s:=by
 unfold Jb HS;simp only [h,arH,a6,an]
def alQ{k:Nat}(h:k≤1000000000000):room k 40=true:=by simp [room];omega
def abc{n:Nat}(s:arY)(i:Nat)(hs:s.length≤4611686018427387904)(hn:s.length<n)(hi:i≤s.length):EI n s (i:Int)=some ((i+ji false (s.drop i):Nat):Int):=alL n s hs hn n i (by omega) hi
def alR(
 G:Token→Prop) (sl:∀(s:arY) (nb:Int),s≠[]→(gb s).2.2=0→G ⟨(gb s).1.Kind,(gb s).1.Text,(gb s).1.N,nb⟩) (n:Nat) (src:arY) (hs:src.length≤1000000000) (hn:src.length<n) (FG:100<n):∀(k i m m2:Nat) (out:List Token),src.length-i=k→i≤src.length→src.length<i+m→src.length<i+m2→hf out≤61*i→(∀t,t∈out→G t)→
 ∃r,DD n src m out ((fd src i+1:Nat):Int) (i:Int)=some r∧AB n src m2 out ((i+ji false (src.drop i):Nat):Int)=some r∧(r.2.2=0→hf r.1≤61*src.length∧∀t,t∈r.1→G t):=by
 intro k;induction k using Nat.strongRecOn with
 |_ k abd=>
  intro i m m2 out hk hi hm TW hw TX;cases m with
  |zero=>omega
  |succ m=>
   simp only [DD,QP,QL];by_cases h:i<src.length
   ·have hd:=fz src i 0 h;have kv:=aba src i h;have ars:fd src i≤i:=by unfold fd;exact Nat.le_trans List.count_le_length (by simp;omega)
    simp only [Jd,QM]
    (rw [alP n src _ out _ (by omega) n i (by omega) hi,bx (by omega),bx (by omega)];simp only [arP])
    have FF:(src.drop (i+1)).length=src.length-(i+1):=List.length_drop;have gS:=TT (src.drop i);have alS:=abb (src.drop i);have TY:∀(j:Nat),i<j→j≤src.length→_:=λj hj se=>abd (src.length-j) (by omega) j m m2 out rfl se (by omega) (by omega) (by omega) TX
    generalize hc:src.getD i 0=c at hd kv
    simp only [h,cm h,arQ,arH,arJ,a6,fA];by_cases ln:c.toNat=10
    ·simp only [ln,arH,arJ];obtain⟨r,Z,ab,aq⟩:=TY (i+1) (by omega) (by omega)
     rw [kv,if_pos ln]at Z;refine⟨r,Z,?_,aq⟩
     rw [hd];simp only [ji,ln,show¬ (10=35)by omega,arX,or_true,arW]
     rw [show i+(1+ji false (src.drop (i+1)))=i+1+ji false (src.drop (i+1))by omega]
     exact ab
    ·have alT:fd src (i+1)=fd src i:=by rw [kv,if_neg ln];rfl
     simp only [ln,arI,arK];by_cases hb:c.toNat=32∨c.toNat=9
     ·obtain⟨r,Z,ab,aq⟩:=TY (i+1) (by omega) (by omega)
      rw [alT]at Z;refine⟨r,?_,?_,aq⟩
      ·rcases hb with hb|hb
       ·simp only [hb,arH,arJ];exact Z
       ·simp only [hb,show¬ (9=32)by omega,arI,arH,arJ,arK];exact Z
      ·rw [hd];simp only [ji];rw [if_neg (by omega),if_pos (by omega),show i+(1+ji false (src.drop (i+1)))=i+1+ji false (src.drop (i+1))by omega]
       exact ab
     ·have du:¬ c.toNat=32:=λe=>hb (Or.inl e)
      have f7:¬ c.toNat=9:=λe=>hb (Or.inr e)
      simp only [du,f7,arI,arK];by_cases u1:c.toNat=35
      ·simp only [u1,arH,arJ];have e:gU (src.drop i)=1+gU (src.drop (i+1)):=by rw [hd];simp only [gU,ln,arX]
       obtain⟨r,Z,ab,aq⟩:=TY (i+gU (src.drop i)) (by omega) (by simp only [List.length_drop]at gS;omega)
       rw [aa_ src i _ alS]at Z;refine⟨r,Z,?_,aq⟩
       rw [hd];simp only [ji,u1,arW]
       rw [TU,List.drop_drop,show i+(1+(gU (src.drop (i+1))+ji false (src.drop (i+1+gU (src.drop (i+1))))))=i+gU (src.drop i)+ji false (src.drop (i+gU (src.drop i))) by
        rw [e,show i+(1+gU (src.drop (i+1)))=i+1+gU (src.drop (i+1))by omega];omega]
       exact ab
      ·simp only [u1,arI,arK,AX (Nat.le_of_lt h),a6]
       have alU:ji false (src.drop i)=0:=by
        rw [hd];simp only [ji];rw [if_neg u1,if_neg (by omega)]
       rw [alU,show i+0=i from rfl]
       cases m2 with
       |zero=>omega
       |succ m2=>
        simp only [AB,K_];have dQ:src.drop i≠[]:=by rw [hd];simp
        obtain⟨t,z,jG,jH⟩:=alJ (n:=n) src i h (by omega) FG (by omega)
        have b5:DB n (src.drop i)=some ((gb (src.drop i)).1,(((gb (src.drop i)).2.1:Nat):Int),(gb (src.drop i)).2.2):=by
         rw [hd];exact alI c (src.drop (i+1)) (by omega) (by omega)
        rw [b5,jG,alN src i (by omega) hi hn]
        simp only [h,arQ,arH,arJ,an];rw [bx (by omega)]
        by_cases he:(gb (src.drop i)).2.2=0
        ·have ef:=alG _ dQ he;have TZ:=alO _ dQ he;have art:(src.drop i).length=src.length-i:=List.length_drop;obtain⟨rfl,rfl⟩:=jH he;have hW:=sl (src.drop i) ((fd src i+1:Nat):Int) dQ he;generalize gb (src.drop i)=T at he ef TZ hW
         obtain⟨t,kk,e⟩:=T;simp only at he ef TZ hW
         subst he;have N5:=mJ out;simp only [arH,arL,arK,clone (show t.Text.length≤281474976710656 by omega),an,arN,arO,alQ (show out.length+(0+1)≤1000000000000 by omega),a6]
         rw [show ar0 ((i:Int)+((kk:Nat):Int))=((i+kk:Nat):Int)by rw [wr]<;>omega,abc src (i+kk) (by omega) hn (by omega),an]
         obtain⟨r,Z,ab,aq⟩:=abd (src.length-(i+kk)) (by omega) (i+kk) m m2 (out++[⟨t.Kind,t.Text,t.N,((fd src i+1:Nat):Int)⟩]) rfl (by omega) (by omega) (by omega) (by rw [L0];simp only [hf];omega) (λbq dd=>by
          rcases List.mem_append.1 dd with cN|cN
          ·exact TX bq cN
          ·obtain rfl:=List.mem_singleton.1 cN;exact hW)
         rw [aa_ src i _ TZ]at Z;exact⟨r,Z,ab,aq⟩
        ·simp only [he,arI,arM,arJ];exact⟨_,rfl,rfl,λcc=>absurd cc he⟩
   ·rw [g' src i h];simp only [ji,Nat.add_zero];cases m2 with
    |zero=>omega
    |succ m2=>
     simp only [AB,K_,SY,h,arQ,arI,arK];exact⟨_,rfl,rfl,λ_=>⟨by simp only;omega,TX⟩⟩
def abe(G:Token→Prop)(sl:∀(s:arY) (nb:Int),s≠[]→(gb s).2.2=0→G ⟨(gb s).1.Kind,(gb s).1.Text,(gb s).1.N,nb⟩){n:Nat}(src:arY)(hn:src.length≤16384→src.length<n)(FG:100<n):
 ∃r,Je n src=some r∧La n src=some r∧(r.2.2=0→hf r.1≤61*src.length∧src.length≤16384∧∀t,t∈r.1→G t):=by
 unfold Je La;simp only [fF];by_cases h:16384<src.length
 ·simp only [h,arH,arJ];exact⟨_,rfl,rfl,λe=>absurd e (by decide)⟩
 ·simp only [h,arI,arK];have hn:=hn (by omega)
  have:=abc (n:=n) src 0 (by omega) hn (by omega)
  rw [show EI n src 0=_ from this,an]
  obtain⟨r,Z,ab,aq⟩:=alR G sl n src (by omega) hn FG (src.length-0) 0 n n [] rfl (by omega) (by omega) (by omega) (by simp [hf]) (λt aA=>by cases aA)
  exact⟨r,Z,ab,λe=>⟨(aq e).1,by omega,(aq e).2⟩⟩
def T0(s:arY)(nb:Int)(hs:s≠[])(h:(gb s).2.2=0):(gb s).1.Kind=5→(gb s).1.Text∈marks:=by
 cases s with
 |nil=>exact absurd rfl hs
 |cons c t=>
  unfold gb at h ⊢;simp only at h ⊢
  split
  ·intro hk;exfalso
   revert hk
   generalize (c::t).take (gN (c::t))=w
   cases w with
   |nil=>intro hk;simp [pu]at hk
   |cons d w=>
    unfold pu;simp only
    (repeat' split)<;>(intro hk;simp at hk)
  ·split
   ·cases fQ t []<;>(intro hk;exfalso;simp [A2]at hk)
   ·split
    ·rename_i hm;intro hk;exfalso;simp at hk
    ·rename_i hm;intro _;simp only
     unfold mI at hm ⊢;cases ao:marks.find? (k5 (c::t)) with
     |none=>rw [ao]at hm;exact absurd rfl hm
     |some w=>exact List.mem_of_find?_eq_some ao
open Go Go.Ab Go.Proofs
def bL(l:List Token)(i:Nat)(w:arY):Bool:=
 decide (i<l.length)&&((decide ((l.getD i default).Kind=2)||decide ((l.getD i default).Kind=5))&&decide ((l.getD i default).Text=w))
def gV{l:List Token}{i:Nat}{w:arY}(h:bL l i w=true):i<l.length:=by
 unfold bL at h;simp only [Bool.and_eq_true,decide_eq_true_eq]at h;exact h.1
def u2(n:Nat)(l:List Token)(i:Nat)(w:arY):uv n w ⟨l,(i:Int)⟩=some (bL l i w):=by
 unfold uv bL;simp only [arP,Int.ofNat_le,dJ,dV];by_cases h:i<l.length
 ·simp only [show¬ l.length≤i by omega,arI,arK,cm h,a6,h,arH,Bool.true_and]
 ·simp only [show l.length≤i by omega,arH,arJ,h,arI,Bool.false_and]
def oH(n:Nat)(l:List Token)(i:Nat)(w:arY):kD n l (i:Int) w=some (bL l i w):=by
 unfold kD bL;simp only [arP,arQ,dJ,dV];by_cases h:i<l.length
 ·simp only [h,cm h,arV,a6,arH,Bool.true_and]
 ·simp only [h,arI,arM,Bool.true_or,a6,Bool.false_and]
def FH(l:List Token)(i:Nat):Int:=
 if i<l.length then(l.getD i default).lp else if l.length=0 then 1 else(l.getD (l.length-1) default).lp
def mV(l:List Token)(i:Nat)(c:Int):V:=.iface 332 (.agg [.int .i64 (FH l i),.int .i64 c])
def iD(l:List Token)(i:Nat)(c:Int):Int:=if i<l.length then c else 6
def u3(n:Nat)(l:List Token)(i:Nat)(c:Int)(ae:l.length≤4611686018427387904):sC n c ⟨l,(i:Int)⟩=some (.aK (mV l i (iD l i c)) ()):=by
 unfold sC QR QQ mV FH iD;simp only [arP,arQ];by_cases h:i<l.length
 ·simp only [h,cm h,arH,arJ,a6,arW]
 ·simp only [h,arI,arK,arX];by_cases h0:l.length=0
  ·simp only [h0,arW];rfl
  ·have:ar0 (((l.length:Nat):Int)-1)=((l.length-1:Nat):Int):=by rw [wr]<;>omega
   rw [this];simp only [fA,h0,arI,arK,cm (show l.length-1<l.length by omega),a6,arP,arX]
def T1(n:Nat)(l:List Token)(i:Nat)(c:Int)(ae:l.length≤4611686018427387904):Jy n c ⟨l,(i:Int)⟩=some (.aK (mV l i (iD l i c)) ()):=u3 n l i c ae
def k6(n:Nat)(l:List Token)(i:Nat)(w:arY)(hi:i≤4611686018427387904):kY n w ⟨l,(i:Int)⟩=some (bL l i w,(((bif bL l i w then i+1 else i):Nat):Int)):=by
 unfold kY;rw [u2,an,bx hi];cases bL l i w<;>rfl
def nR(n:Nat)(l:List Token)(i:Nat)(w:arY)(hi:i≤4611686018427387904)(ae:l.length≤4611686018427387904):
 iQ n w ⟨l,(i:Int)⟩=some (bif bL l i w then .ret () ((i+1:Nat):Int)else .aK (mV l i (iD l i 5)) (i:Int)):=by
 unfold iQ;rw [k6 n l i w hi,an];cases bL l i w
 ·simp only [arM,arJ,arK];rw [u3 n l i 5 ae,an];rfl
 ·rfl
def A4(n:Nat)(l:List Token)(i:Nat):uI n l (i:Int)=some (iD l i 5):=by
 unfold uI iD;simp only [Int.ofNat_le];by_cases h:i<l.length
 ·simp only [h,show¬ l.length≤i by omega,arI,arK,arW]
 ·simp only [h,show l.length≤i by omega,arH,arJ,arX]
def hX(l:List Token)(i:Nat):iD l i 5≠0:=by unfold iD;split<;>decide
def rz{n:Nat}(l:List Token)(i:Nat)(w:arY)(hn:2≤n)(hi:i≤4611686018427387904):
 kh n l (i:Int) [w]=some (bif bL l i w then(((i+1:Nat):Int),0) else((i:Int),iD l i 5)):=by
 obtain⟨n',rfl⟩:∃n',n=n'+2:=⟨n-2,by omega⟩
 unfold kh;simp only [EL,Le,Ld,arN,arO];have Z:(decide ((0:Int)<((0+1:Nat):Int)))=true:=rfl;have ab:aM 0 (0+1)=true:=rfl;rw [Z,ab,show ar0 ((0:Int)+1)=1 from rfl,bx hi]
 simp only [arJ,a6,show(0:Int).toNat=0 from rfl,List.getD_cons_zero,oH,A4,an]
 cases bL l i w<;>rfl
def alV{n:Nat}(l:List Token)(i:Nat)(v w:arY)(hn:3≤n)(hi:i≤4611686018427380000):
 kh n l (i:Int) [v,w]=some (bif bL l i v then(bif bL l (i+1) w then(((i+1+1:Nat):Int),0) else(((i+1:Nat):Int),iD l (i+1) 5)) else((i:Int),iD l i 5)):=by
 obtain⟨n',rfl⟩:∃n',n=n'+3:=⟨n-3,by omega⟩
 unfold kh;simp only [EL,Le,Ld,arN,arO];have Z:(decide ((0:Int)<((0+1+1:Nat):Int)))=true:=rfl;have ab:aM 0 (0+1+1)=true:=rfl;have aq:(decide ((1:Int)<((0+1+1:Nat):Int)))=true:=rfl;have aN:aM 1 (0+1+1)=true:=rfl;rw [Z,ab,show ar0 ((0:Int)+1)=1 from rfl,bx (by omega)]
 rw [aq,aN,show ar0 ((1:Int)+1)=2 from rfl,bx (by omega)]
 simp only [arJ,a6,show(0:Int).toNat=0 from rfl,show(1:Int).toNat=1 from rfl,List.getD_cons_zero,List.getD_cons_succ,oH,A4,an]
 cases bL l i v
 ·rfl
 ·cases bL l (i+1) w<;>rfl
def gc:List (arY×Int×Int):=[([111,114],1,17),([97,110,100],2,16),([61,61],4,10),([33,61],4,11),([60],4,12),([60,61],4,13),([62],4,14),([62,61],4,15),([43,43],5,19),([43],6,4),([45],6,5),([42],7,6),([47],7,7),([37],7,8)]
def xD:Option (arY×Int×Int)→Int×Int
 |none=>(0,0)
 |some r=>r.2
def hL(l:List Token)(i:Nat):Int×Int:=xD (gc.find? λr=>bL l i r.1)
def abf(l:List Token)(i:Nat)(b1:Int):Int:=(xD (gc.find? λr=>decide (r.2.1=b1)&&bL l i r.1)).2
def L1{l:List Token}{i:Nat}(h:i<l.length)(hk:(l.getD i default).Kind=2∨(l.getD i default).Kind=5)(w:arY):bL l i w=decide ((l.getD i default).Text=w):=by
 unfold bL;have:(decide ((l.getD i default).Kind=2)||decide ((l.getD i default).Kind=5))=true:=by rcases hk with hk|hk<;>rw [decide_eq_true hk]<;>simp
 rw [this,decide_eq_true h];rfl
def FI{l:List Token}{i:Nat}(h:¬ (i<l.length∧((l.getD i default).Kind=2∨(l.getD i default).Kind=5)))(w:arY):bL l i w=false:=by
 unfold bL;by_cases Z:i<l.length
 ·by_cases ab:(l.getD i default).Kind=2
  ·exact absurd ⟨Z,Or.inl ab⟩ h
  ·by_cases aq:(l.getD i default).Kind=5
   ·exact absurd ⟨Z,Or.inr aq⟩ h
   ·rw [decide_eq_false ab,decide_eq_false aq];simp
 ·rw [decide_eq_false Z];rfl
def abg(n:Nat)(l:List Token)(i:Nat):Jf n ⟨l,(i:Int)⟩=some (hL l i):=by
 unfold Jf hL
 (simp only [arP])
 simp only [Int.ofNat_le,dV];by_cases h:i<l.length
 ·simp only [show¬ l.length≤i by omega,arI,arK,cm h,a6]
  by_cases hk:(l.getD i default).Kind=2∨(l.getD i default).Kind=5
  ·have ie:((!decide ((l.getD i default).Kind=2)) && !decide ((l.getD i default).Kind=5))=false:=by
    rcases hk with hk|hk<;>rw [decide_eq_true hk]<;>simp
   rw [ie];simp only [arK,L1 h hk];generalize (l.getD i default).Text=w
   by_cases hw:w∈gc.map (·.1)
   ·simp only [gc,List.map_cons,List.map_nil,List.mem_cons,List.not_mem_nil,or_false]at hw;rcases hw with rfl|rfl|rfl|rfl|rfl|rfl|rfl|rfl|rfl|rfl|rfl|rfl|rfl|rfl<;>rfl
   ·simp only [gc,List.map_cons,List.map_nil,List.mem_cons,List.not_mem_nil,or_false,not_or]at hw;simp only [hw,arI,arK,gc,List.find?_cons,List.find?_nil];rfl
  ·have ie:((!decide ((l.getD i default).Kind=2)) && !decide ((l.getD i default).Kind=5))=true:=by
    simp only [not_or]at hk;rw [decide_eq_false hk.1,decide_eq_false hk.2];rfl
   rw [ie];simp only [arJ,FI (λx=>hk x.2),gc,List.find?_cons,List.find?_nil]
   rfl
 ·simp only [show l.length≤i by omega,arH,arJ,FI (λx=>h x.1),gc,List.find?_cons,List.find?_nil]
  rfl
def alW(l:List Token)(i:Nat)(b1:Int)(h0:b1≠0):abf l i b1=if(hL l i).1=b1 then(hL l i).2 else 0:=by
 unfold abf hL;by_cases h:i<l.length∧((l.getD i default).Kind=2∨(l.getD i default).Kind=5)
 ·simp only [L1 h.1 h.2];generalize (l.getD i default).Text=w
  by_cases hw:w∈gc.map (·.1)
  ·simp only [gc,List.map_cons,List.map_nil,List.mem_cons,List.not_mem_nil,or_false]at hw;by_cases ae:b1=1∨b1=2∨b1=4∨b1=5∨b1=6∨b1=7
   ·rcases ae with rfl|rfl|rfl|rfl|rfl|rfl<;>rcases hw with rfl|rfl|rfl|rfl|rfl|rfl|rfl|rfl|rfl|rfl|rfl|rfl|rfl|rfl<;>rfl
   ·simp only [not_or]at ae;have e1:¬ (1:Int)=b1:=λe=>ae.1 e.symm
    have e2:¬ (2:Int)=b1:=λe=>ae.2.1 e.symm
    have gg:¬ (4:Int)=b1:=λe=>ae.2.2.1 e.symm
    have lh:¬ (5:Int)=b1:=λe=>ae.2.2.2.1 e.symm
    have pw:¬ (6:Int)=b1:=λe=>ae.2.2.2.2.1 e.symm
    have oI:¬ (7:Int)=b1:=λe=>ae.2.2.2.2.2 e.symm
    have cX:∀w:arY,gc.find? (λr=>decide (r.2.1=b1)&&decide (w=r.1))=none:=by
     intro w;simp only [gc,List.find?_cons,List.find?_nil,e1,e2,gg,lh,pw,oI,arI,Bool.false_and]
    rw [cX];rcases hw with rfl|rfl|rfl|rfl|rfl|rfl|rfl|rfl|rfl|rfl|rfl|rfl|rfl|rfl
    ·exact(if_neg e1).symm
    ·exact(if_neg e2).symm
    ·exact(if_neg gg).symm
    ·exact(if_neg gg).symm
    ·exact(if_neg gg).symm
    ·exact(if_neg gg).symm
    ·exact(if_neg gg).symm
    ·exact(if_neg gg).symm
    ·exact(if_neg lh).symm
    ·exact(if_neg pw).symm
    ·exact(if_neg pw).symm
    ·exact(if_neg oI).symm
    ·exact(if_neg oI).symm
    ·exact(if_neg oI).symm
  ·simp only [gc,List.map_cons,List.map_nil,List.mem_cons,List.not_mem_nil,or_false,not_or]at hw;simp only [hw,arI,gc,List.find?_cons,List.find?_nil,Bool.and_false,xD];rw [if_neg (λe=>h0 e.symm)]
 ·simp only [FI h,gc,List.find?_cons,List.find?_nil,Bool.and_false,xD];rw [if_neg (λe=>h0 e.symm)]
open Go Go.Ab Go.Proofs
def getD_map{α β:Type}[Inhabited α][Inhabited β](f:α→β):∀(l:List α) (i:Nat),i<l.length→(l.map f).getD i default=f (l.getD i default)
 |[],i,h=>by simp at h
 |x::l,0,h=>rfl
 |x::l,i+1,h=>getD_map f l i (by simpa using h)
def alX(n:Nat)(l:List Token)(at_ b1:Int)(am:Int→ar3)(v6:Int):S0 n l at_ b1 am v6 =
 bif (decide (v6<((gc.length:Nat):Int))) then(
  av (aM v6 gc.length)<|
  av (!(decide (((gc.map (·.2.1)).getD (v6).toNat default)=b1))||aM v6 gc.length)<|
  Option.bind (bif (decide (((gc.map (·.2.1)).getD (v6).toNat default)=b1))then kD n l at_ ((gc.map (·.1)).getD (v6).toNat default)else some default) λb7=>
  bif (bif (decide (((gc.map (·.2.1)).getD (v6).toNat default)=b1))then b7 else false) then(
   av (aM v6 gc.length)<|
   some ((gc.map (·.2.2)).getD (v6).toNat default))
  else(
   am (ar0 (v6+1))))
 else SZ n:=rfl
def alY(n:Nat)(l:List Token)(a:Nat)(b1:Int):∀m i,gc.length<i+m→i≤gc.length→EM n l (a:Int) b1 m (i:Int)=some (xD ((gc.drop i).find? λr=>decide (r.2.1=b1)&&bL l a r.1)).2:=by
 have hlen:gc.length=14:=rfl;intro m;induction m with
 |zero=>intro i h ab;omega
 |succ m aR=>
  intro i hm hi;rw [EM,alX];by_cases h:i<gc.length
  ·(rw [fz gc i default h,bx (by omega),aR (i+1) (by omega) (by omega)];simp only [arP];rw [getD_map _ _ _ h,getD_map _ _ _ h,getD_map _ _ _ h])
   generalize gc.getD i default=t
   simp only [h,cm h,arQ,arH,arJ,a6,arV,oH,dV,List.find?_cons];cases decide (t.2.1=b1)
   ·rfl
   ·simp only [arJ,an,Bool.true_and];cases bL l a t.1<;>rfl
  ·rw [g' gc i h];simp only [h,arQ,arI,arK];rfl
def T2{n:Nat}(l:List Token)(a:Nat)(b1:Int)(hn:14<n)(h0:b1≠0):S1 n l (a:Int) b1=some (if(hL l a).1=b1 then(hL l a).2 else 0):=by
 rw [←alW l a b1 h0];have hlen:gc.length=14:=rfl;exact alY n l a b1 n 0 (by omega) (by omega)
def ik:List (arY×Int):=[([116,101,120,116],20),([108,101,110],21),([103,101,116,105,110,116],22),([103,101,116,115,116,114],23),([104,97,115],24),([110,111,119],25),([114,97,110,100,111,109],26),([110,111,100,101],27)]
def call2:Option (arY×Int)→Int
 |none=>0
 |some r=>r.2
def lX(l:List Token)(i:Nat):Int:=call2 (ik.find? λr=>bL l i r.1)
def alZ(n:Nat)(l:List Token)(at_:Int)(am:Int→ar3)(v5:Int):S3 n l at_ am v5 =
 bif (decide (v5<((ik.length:Nat):Int))) then(
  av (aM v5 ik.length)<|
  Option.bind (kD n l at_ ((ik.map (·.1)).getD (v5).toNat default)) λbC=>
  bif bC then(
   av (aM v5 ik.length)<|
   some ((ik.map (·.2)).getD (v5).toNat default))
  else(
   am (ar0 (v5+1))))
 else S2 n:=rfl
def al0(n:Nat)(l:List Token)(a:Nat):∀m i,ik.length<i+m→i≤ik.length→EN n l (a:Int) m (i:Int)=some (call2 ((ik.drop i).find? λr=>bL l a r.1)):=by
 have hlen:ik.length=8:=rfl;intro m;induction m with
 |zero=>intro i h ab;omega
 |succ m aR=>
  intro i hm hi;rw [EN,alZ];by_cases h:i<ik.length
  ·(rw [fz ik i default h,bx (by omega),aR (i+1) (by omega) (by omega)];simp only [arP];rw [getD_map _ _ _ h,getD_map _ _ _ h])
   generalize ik.getD i default=t
   simp only [h,cm h,arQ,arH,arJ,a6,oH,an,List.find?_cons];cases bL l a t.1<;>rfl
  ·rw [g' ik i h];simp only [h,arQ,arI,arK];rfl
def al1{n:Nat}(l:List Token)(a:Nat)(hn:8<n):S4 n l (a:Int)=some (lX l a):=by
 have hlen:ik.length=8:=rfl;exact al0 n l a n 0 (by omega) (by omega)
def kF(l:List Token):Prop:=∀t,t∈l→t.Kind=5→t.Text∈marks
def T3(n:Nat)(l:List Token)(i:Nat)(hg:kF l):Jh n ⟨l,(i:Int)⟩=some (lX l i):=by
 unfold Jh lX
 (simp only [arP])
 simp only [Int.ofNat_le,dJ];by_cases h:i<l.length
 ·simp only [show¬ l.length≤i by omega,arI,Bool.false_or,cm h,a6]
  by_cases hk:(l.getD i default).Kind=2
  ·simp only [hk,arH,arL,arK,L1 h (Or.inl hk)];generalize (l.getD i default).Text=w
   by_cases hw:w∈ik.map (·.1)
   ·simp only [ik,List.map_cons,List.map_nil,List.mem_cons,List.not_mem_nil,or_false]at hw;rcases hw with rfl|rfl|rfl|rfl|rfl|rfl|rfl|rfl<;>rfl
   ·simp only [ik,List.map_cons,List.map_nil,List.mem_cons,List.not_mem_nil,or_false,not_or]at hw;simp only [hw,arI,arK,ik,List.find?_cons,List.find?_nil];rfl
  ·simp only [hk,arI,arM,arJ];by_cases bn:(l.getD i default).Kind=5
   ·have hm:(l.getD i default).Text∈marks:=hg _ (by simp [List.getD,h]) bn
    simp only [L1 h (Or.inr bn)];generalize (l.getD i default).Text=w at hm
    have:∀w,w∈marks→ik.find? (λr=>decide (w=r.1))=none:=by decide
    rw [this w hm];rfl
   ·have:∀w,bL l i w=false:=FI (λx=>by rcases x.2 with e|e;exact hk e;exact bn e)
    simp only [this,ik,List.find?_cons,List.find?_nil];rfl
 ·simp only [show l.length≤i by omega,arH,Bool.true_or,a6,arJ,FI (λx=>h x.1),ik,List.find?_cons,List.find?_nil]
  rfl
def al2{l:List Token}{i:Nat}(h:lX l i≠0):i<l.length∧20≤lX l i∧lX l i≤27:=by
 unfold lX at h ⊢;cases ao:ik.find? (λr=>bL l i r.1) with
 |none=>rw [ao]at h;exact absurd rfl h
 |some r=>
  have hx:=List.find?_some ao;refine⟨gV (w:=r.1) hx,?_⟩
  have:∀r,r∈ik→decide (20≤r.2∧r.2≤27)=true:=by decide
  exact of_decide_eq_true (this r (List.mem_of_find?_eq_some ao))
def al3{l:List Token}{i:Nat}(h:(hL l i).1≠0):i<l.length∧(hL l i).2≠0:=by
 unfold hL at h ⊢;cases ao:gc.find? (λr=>bL l i r.1) with
 |none=>rw [ao]at h;exact absurd rfl h
 |some r=>
  have hx:=List.find?_some ao;refine⟨gV (w:=r.1) hx,?_⟩
  have:∀r,r∈gc→decide (r.2.2≠0)=true:=by decide
  exact of_decide_eq_true (this r (List.mem_of_find?_eq_some ao))
def abh(l:List Token)(i:Nat):(hL l i).1≠3∧(hL l i).1≠8:=by
 unfold hL;cases ao:gc.find? (λr=>bL l i r.1) with
 |none=>exact⟨by decide,by decide⟩
 |some r=>
  have:∀r,r∈gc→decide (r.2.1≠3∧r.2.1≠8)=true:=by decide
  exact of_decide_eq_true (this r (List.mem_of_find?_eq_some ao))
def al4(n:Nat)(l:List Token)(i:Nat)(b1:Int):Lf n l (i:Int) b1=some (if b1=3∧bL l i [110,111,116]=true then 18 else if b1=8∧bL l i [45]=true then 9 else 0):=by
 unfold Lf;by_cases aq:b1=3
 ·subst aq;simp only [arH,arJ,oH,an];cases bL l i [110,111,116]<;>simp [an]
 ·by_cases ek:b1=8
  ·subst ek;simp only [show¬ (8:Int)=3 by omega,arI,arH,arJ,arK,oH,an]
   cases bL l i [45]<;>simp
  ·simp [aq,ek]
def L2(n:Nat)(l:List Token)(i d:Nat)(ae:l.length≤4611686018427387904)(hd:d≤24):sD n (d:Int) ⟨l,(i:Int)⟩=some (if d=24 then .aK (mV l i (iD l i 2)) ()else .ret ((d+1:Nat):Int) ()):=by
 unfold sD Jg;simp only [s6];by_cases h:d=24
 ·simp only [show 24≤d by omega,arH,arJ,u3 n l i 2 ae,an,h,arW];rfl
 ·simp only [show¬ 24≤d by omega,arI,arK,h,arX]
  rw [bx (by omega)]
open Go Go.Ab Go.Proofs
def eM(l:List Token)(i:Nat):Nat:=hf (l.take i)
def h7(l:List Token)(i:Nat)(h:i<l.length):eM l (i+1)=eM l i+60+(l.getD i default).Text.length:=by
 unfold eM;rw [List.take_add,L0,fz l i default h,List.take_succ_cons,List.take_zero];simp only [hf];omega
def u4(l:List Token)(i j:Nat)(h:i≤j):eM l i≤eM l j:=by
 obtain⟨k,rfl⟩:=Nat.exists_eq_add_of_le h;unfold eM;rw [List.take_add,L0];omega
def hM{α:Type}(wt:α→Nat)(l:List Token)(i:Nat)(p:Option (aC α Int))(q:Option (α×Int×Int)):Prop:=
 (∃a k,p=some (.ret a ((k:Nat):Int))∧q=some (a,((k:Nat):Int),0)∧i<k∧k≤l.length∧wt a+eM l i≤eM l k)∨
 (∃k c z a,p=some (.aK (mV l k c) z)∧q=some (a,((k:Nat):Int),c)∧c≠0∧k≤l.length)
def abi(n:Nat):fK (n+1)=DE n (fK n) (jx n) (iR n) (iz n):=rfl
def al5(n:Nat):jx (n+1)=zF n (fK n) (jx n) (iR n) (iz n):=rfl
def abj(n:Nat):iR (n+1)=w1 n (fK n) (jx n) (iR n) (iz n):=rfl
def T4(n:Nat):iz (n+1)=uw n (fK n) (jx n) (iR n) (iz n):=rfl
def abk(n:Nat):nM (n+1)=EO n (nM n) (sU n) (uJ n):=rfl
def al6(n:Nat):sU (n+1)=Lg n (nM n) (sU n) (uJ n):=rfl
def abl(n:Nat):uJ (n+1)=EQ n (nM n) (sU n) (uJ n):=rfl
section
variable {l:List Token}
def A5(l:List Token)(dt:Nat):Prop:=∀(i b1 d n1 n2:Nat),i≤l.length→1≤b1→b1≤8→d≤24→20*(l.length-i)+2*(9-b1)+2≤dt→2*dt+100≤n1→2*dt+100≤n2→
 hM cJ l i (fK n1 (b1:Int) (d:Int) ⟨l,(i:Int)⟩) (nM n2 l (i:Int) (b1:Int) (d:Int))
def T6(l:List Token)(dt:Nat):Prop:=∀(i d n1 n2:Nat),i≤l.length→d≤24→20*(l.length-i)+1≤dt→2*dt+100≤n1→2*dt+100≤n2→
 hM cJ l i (iR n1 (d:Int) ⟨l,(i:Int)⟩) (sU n2 l (i:Int) (d:Int))
def L3(l:List Token)(dt:Nat):Prop:=∀(i d n1 n2:Nat),i≤l.length→d≤24→20*(l.length-i)≤dt→2*dt+100≤n1→2*dt+100≤n2→
 hM cJ l i (iz n1 (d:Int) ⟨l,(i:Int)⟩) (uJ n2 l (i:Int) (d:Int))
theorem al7{dt:Nat}(ae:l.length≤1000000000)(b3:A5 l dt):L3 l (dt+1):=by
 intro i d n1 n2 hi hd hm Z ab;obtain⟨n1,rfl⟩:∃k,n1=k+1:=⟨n1-1,by omega⟩
 obtain⟨n2,rfl⟩:∃k,n2=k+1:=⟨n2-1,by omega⟩
 rw [T4,abl];unfold uw EQ;rw [nR n1 l i _ (by omega) (by omega),rz l i _ (by omega) (by omega)]
 simp only [an];cases h:bL l i [40]
 ·simp only [arK,aC.on,hX l i,arI,arM,arJ];exact Or.inr ⟨i,_,_,_,rfl,rfl,hX l i,hi⟩
 ·have bO:=gV h;have jj:=h7 l i bO;simp only [arJ,aC.on,arH,arL,arK];rcases b3 (i+1) 1 d n1 n2 (by omega) (by omega) (by omega) hd (by omega) (by omega) (by omega) with⟨a,k,e1,e2,kG,fe,jB⟩|⟨k,c,z,a,e1,e2,hc,hk⟩
  ·rw [show((1:Nat):Int)=1 from rfl]at e1 e2
   rw [e1,e2];simp only [an,aC.on,arH,arL,arK];rw [nR n1 l k _ (by omega) (by omega),rz l k _ (by omega) (by omega)]
   simp only [an];cases cN:bL l k [41]
   ·simp only [arK,aC.on];exact Or.inr ⟨k,_,_,_,rfl,rfl,hX l k,fe⟩
   ·have GP:=gV cN;have aru:=h7 l k GP;simp only [arJ,aC.on];exact Or.inl ⟨a,k+1,rfl,rfl,by omega,by omega,by omega⟩
  ·rw [show((1:Nat):Int)=1 from rfl]at e1 e2
   rw [e1,e2];simp only [an,aC.on,hc,arI,arM,arJ];exact Or.inr ⟨k,_,_,_,rfl,rfl,hc,hk⟩
theorem L4{i:Nat}(h:i≤1000000000):ar0 (((i+1:Nat):Int)-1)=(i:Int):=by rw [wr]<;>omega
theorem al8{dt:Nat}(ae:l.length≤1000000000)(hg:kF l)(mc:L3 l dt)(i d n1 n2:Nat)(hi:i≤l.length)(hd:d≤24)(hm:20*(l.length-i)≤dt)(Z:2*dt+100≤n1)(ab:2*dt+100≤n2):
 hM cJ l i (sG n1 (fK n1) (jx n1) (iR n1) (iz n1) (d:Int) ⟨l,(i:Int)⟩ (i:Int))
  (EP n2 (nM n2) (sU n2) (uJ n2) l (i:Int) (d:Int)):=by
 unfold sG EP;simp only [T3 n1 l i hg,al1 l i (show 8<n2 by omega),an,u2,oH,u3 n1 l i 5 (by omega),A4]
 by_cases h0:lX l i=0
 ·simp only [h0,arH,arJ,show¬ (25:Int)≤0 by omega,arI,arK,an]
  cases h:bL l i [40]
  ·simp only [arM,arJ];exact Or.inr ⟨i,_,_,_,rfl,rfl,hX l i,hi⟩
  ·have bO:=gV h;simp only [arL,arK];unfold DH;rw [L2 n1 l i d (by omega) hd]
   simp only [fA];by_cases u5:d=24
   ·simp only [u5,arW,arH,arJ,an,aC.on];rw [show iD l i 2=2 from if_pos bO]
    exact Or.inr ⟨i,2,_,_,rfl,rfl,by decide,hi⟩
   ·simp only [u5,arX,arI,arK,an,aC.on];rw [bx (by omega)]
    rcases mc i (d+1) n1 n2 hi (by omega) hm Z ab with⟨a,k,e1,e2,kG,fe,jB⟩|⟨k,c,z,a,e1,e2,hc,hk⟩
    ·rw [e1,e2];exact Or.inl ⟨a,k,rfl,rfl,kG,fe,jB⟩
    ·rw [e1,e2];exact Or.inr ⟨k,c,_,_,rfl,rfl,hc,hk⟩
 ·obtain⟨bO,kw,j'⟩:=al2 h0;have jj:=h7 l i bO;have A6:=u4 l (i+1) (i+1+1) (by omega)
  simp only [h0,arI,arK];generalize lX l i=op at h0 kw j'
  by_cases xE:25≤op
  ·have xF:(bif decide (op=25)then mE n1 (fK n1) (jx n1) (iR n1) (iz n1) (d:Int) op ⟨l,(i:Int)⟩ (i:Int) (decide (op=25))else bif decide (op=26)then mE n1 (fK n1) (jx n1) (iR n1) (iz n1) (d:Int) op ⟨l,(i:Int)⟩ (i:Int) (decide (op=26))else mE n1 (fK n1) (jx n1) (iR n1) (iz n1) (d:Int) op ⟨l,(i:Int)⟩ (i:Int) (decide (op=27)))=mE n1 (fK n1) (jx n1) (iR n1) (iz n1) (d:Int) op ⟨l,(i:Int)⟩ (i:Int) true:=by
    by_cases al9:op=25
    ·simp only [al9,arH,arJ]
    ·by_cases al':op=26
     ·simp only [al',arH,arJ,show¬ (26:Int)=25 by omega,arI,arK]
     ·simp only [show op=27 by omega,arH,show¬ (27:Int)=25 by omega,show¬ (27:Int)=26 by omega,arI,arK]
   rw [xF];unfold mE;simp only [xE,arH,arJ];rw [bx (by omega),nR n1 l (i+1) _ (by omega) (by omega),alV l (i+1) _ _ (by omega) (by omega)]
   simp only [an];cases h:bL l (i+1) [40]
   ·simp only [arK,aC.on];exact Or.inr ⟨i+1,_,_,_,rfl,rfl,hX l _,by omega⟩
   ·have GP:=gV h;simp only [arJ,aC.on];rw [nR n1 l (i+1+1) _ (by omega) (by omega)]
    simp only [an];cases cN:bL l (i+1+1) [41]
    ·simp only [arK,aC.on];exact Or.inr ⟨i+1+1,_,_,_,rfl,rfl,hX l _,by omega⟩
    ·have arv:=gV cN;have T7:=u4 l (i+1+1) (i+1+1+1) (by omega)
     simp only [arJ,aC.on];refine Or.inl ⟨⟨op,0,[],[]⟩,i+1+1+1,rfl,rfl,by omega,by omega,?_⟩
     simp only [cJ,kl,arO];omega
  ·have xF:(bif decide (op=25)then mE n1 (fK n1) (jx n1) (iR n1) (iz n1) (d:Int) op ⟨l,(i:Int)⟩ (i:Int) (decide (op=25))else bif decide (op=26)then mE n1 (fK n1) (jx n1) (iR n1) (iz n1) (d:Int) op ⟨l,(i:Int)⟩ (i:Int) (decide (op=26))else mE n1 (fK n1) (jx n1) (iR n1) (iz n1) (d:Int) op ⟨l,(i:Int)⟩ (i:Int) (decide (op=27)))=mE n1 (fK n1) (jx n1) (iR n1) (iz n1) (d:Int) op ⟨l,(i:Int)⟩ (i:Int) false:=by
    simp only [show¬ op=25 by omega,show¬ op=26 by omega,show¬ op=27 by omega,arI,arK]
   rw [xF];unfold mE DF;simp only [xE,arI,arK,an];rw [L2 n1 l i d (by omega) hd]
   simp only [fA];by_cases u5:d=24
   ·simp only [u5,arW,arH,arJ,an,aC.on];rw [show iD l i 2=2 from if_pos bO]
    exact Or.inr ⟨i,2,_,_,rfl,rfl,by decide,hi⟩
   ·simp only [u5,arX,arI,arK,an,aC.on];rw [bx (by omega),bx (by omega)]
    rcases mc (i+1) (d+1) n1 n2 (by omega) (by omega) (by omega) Z ab with⟨a,k,e1,e2,kG,fe,jB⟩|⟨k,c,z,a,e1,e2,hc,hk⟩
    ·rw [e1,e2];refine Or.inl ⟨⟨op,0,[],[a]⟩,k,rfl,rfl,by omega,fe,?_⟩
     simp only [cJ,kl,arO];omega
    ·rw [e1,e2];exact Or.inr ⟨k,c,_,_,rfl,rfl,hc,hk⟩
theorem al_{dt:Nat}(ae:l.length≤1000000000)(hg:kF l)(mc:L3 l dt):T6 l (dt+1):=by
 intro i d n1 n2 hi hd hm Z ab;obtain⟨n1,rfl⟩:∃k,n1=k+1:=⟨n1-1,by omega⟩
 obtain⟨n2,rfl⟩:∃k,n2=k+1:=⟨n2-1,by omega⟩
 have hj:=al8 ae hg mc i d n1 n2 hi hd (by omega) (by omega) (by omega)
 rw [abj,al6];unfold w1 Lg
 (rw [bx (by omega)];simp only [arP])
 simp only [arQ];by_cases h:i<l.length
 ·have jj:=h7 l i h;rw [L4 (by omega)]
  generalize l.getD i default=t at jj
  simp only [h,arH,arJ,cm h,a6];by_cases aq:t.Kind=3
  ·simp only [aq,arH,arJ];refine Or.inl ⟨⟨1,t.N,[],[]⟩,i+1,rfl,rfl,by omega,by omega,?_⟩
   simp only [cJ,kl,arO];omega
  ·by_cases aN:t.Kind=4
   ·simp only [aN,show¬ (4:Int)=3 by omega,arH,arI,arJ,arK]
    refine Or.inl ⟨⟨2,0,t.Text,[]⟩,i+1,rfl,rfl,by omega,by omega,?_⟩
    simp only [cJ,kl];omega
   ·by_cases bn:t.Kind=1
    ·simp only [bn,show¬ (1:Int)=3 by omega,show¬ (1:Int)=4 by omega,arH,arI,arJ,arK]
     refine Or.inl ⟨⟨3,0,t.Text,[]⟩,i+1,rfl,rfl,by omega,by omega,?_⟩
     simp only [cJ,kl];omega
    ·simp only [aq,aN,bn,arI,arK];exact hj
 ·simp only [h,arI,arK];exact hj
end
open Go Go.Ab Go.Proofs
def gd(e:Expr):(⟨e.Op,e.N,e.S,e.au⟩:Expr)=e:=by cases e;rfl
section
variable {l:List Token}
theorem L5{i:Nat}{p:Option (aC Expr Int)}{q:Option (Expr×Int×Int)}(h:hM cJ l i p q):
 hM cJ l i (Option.bind p λr=>aC.on r (λa b=>some (.ret a b)) (λx b=>some (.aK x b))) q:=by
 rcases h with⟨a,k,e1,e2,h⟩|⟨k,c,z,a,e1,e2,h⟩
 ·rw [e1];exact Or.inl ⟨a,k,rfl,e2,h⟩
 ·rw [e1];exact Or.inr ⟨k,c,z,a,rfl,e2,h⟩
theorem ama{dt:Nat}(ae:l.length≤1000000000)(b3:A5 l dt)(i b1 d n1 n2:Nat)(hH:1≤b1)(T8:b1<8)(hd:d≤24)(hm:20*(l.length-i)≤dt+20)(Z:2*dt+100≤n1)(ab:2*dt+100≤n2):
 ∀(m1 m2 k:Nat) (e:Expr),l.length-k<m1→l.length-k+1<m2→i<k→k≤l.length→cJ e+eM l i≤eM l k→
 hM cJ l i (w0 n1 (fK n1) (jx n1) (iR n1) (iz n1) (b1:Int) (d:Int) ⟨l,(i:Int)⟩ m1 (k:Int) e.Op e.N e.S e.au)
  (qm n2 (nM n2) (sU n2) (uJ n2) l (b1:Int) (d:Int) m2 e.Op e.N e.S e.au (k:Int) 0):=by
 intro m1;induction m1 with
 |zero=>intro m2 k e h;omega
 |succ m1 aR=>
  intro m2 k e abm TW q9 hk he;obtain⟨m2,rfl⟩:∃j,m2=j+1:=⟨m2-1,by omega⟩
  simp only [w0,Ji,qm,sT,xj];rw [abg,T2 l k (b1:Int) (by omega) (by omega),gd]
  simp only [an,arH,arJ];by_cases ax:(hL l k).1=(b1:Int)
  ·obtain⟨bO,f9⟩:=al3 (l:=l) (i:=k) (by rw [ax];omega)
   have jj:=h7 l k bO;rw [if_pos ax];simp only [ax,arH,arL,arK,f9,arI];generalize (hL l k).2=op at f9
   rw [bx (by omega),bx (by omega)]
   rcases b3 (k+1) (b1+1) d n1 n2 (by omega) (by omega) (by omega) hd (by omega) (by omega) (by omega) with⟨a,k',e1,e2,kG,fe,jB⟩|⟨k',c,z,a,e1,e2,hc,lk⟩
   ·rw [e1,e2];simp only [an,aC.on,fA,arH,arJ,dV,Bool.true_and]
    have L6:cJ ⟨op,0,[],[e,a]⟩+eM l i≤eM l k':=by
     simp only [cJ,kl,arO];omega
    by_cases aN:b1=4
    ·simp only [aN,arH,arJ];exact Or.inl ⟨⟨op,0,[],[e,a]⟩,k',rfl,rfl,by omega,fe,L6⟩
    ·simp only [aN,arI,arK];exact aR m2 k' ⟨op,0,[],[e,a]⟩ (by omega) (by omega) (by omega) fe L6
   ·rw [e1,e2];obtain⟨m2,rfl⟩:∃j,m2=j+1:=⟨m2-1,by omega⟩
    simp only [an,aC.on,hc,arI,arK,qm,sT,xj];exact Or.inr ⟨k',c,_,_,rfl,rfl,hc,lk⟩
  ·rw [if_neg ax];simp only [ax,arI,arM,arJ,arH];exact Or.inl ⟨e,k,rfl,rfl,q9,hk,he⟩
theorem abn{dt:Nat}(ae:l.length≤1000000000)(b3:A5 l dt)(i b1 d n1 n2:Nat)(op:Int)(h:i<l.length)(hH:1≤b1)(T8:b1≤8)(hd:d≤24)(hm:20*(l.length-i)+2*(9-b1)+2≤dt+1)(Z:2*dt+101≤n1)(ab:2*dt+100≤n2):
 hM cJ l i (jx n1 op (b1:Int) (d:Int) ⟨l,(i:Int)⟩)
  (bif (decide (d=24))then some ((⟨0,0,[],[]⟩:Expr),(i:Int),2)
   else Option.bind (nM n2 l (ar0 ((i:Int)+1)) (b1:Int) (ar0 ((d:Int)+1))) λbr=>some ((⟨op,0,[],[br.1]⟩:Expr),br.2.1,br.2.2)):=by
 obtain⟨n1,rfl⟩:∃k,n1=k+1:=⟨n1-1,by omega⟩
 have jj:=h7 l i h;rw [al5];unfold zF;rw [L2 n1 l i d (by omega) hd]
 simp only [fA];by_cases u5:d=24
 ·simp only [u5,arW,arH,arJ,an,aC.on];rw [show iD l i 2=2 from if_pos h]
  exact Or.inr ⟨i,2,_,_,rfl,rfl,by decide,by omega⟩
 ·simp only [u5,arX,arI,arK,an,aC.on];rw [bx (by omega),bx (by omega)]
  rcases b3 (i+1) b1 (d+1) n1 n2 (by omega) hH T8 (by omega) (by omega) (by omega) ab with⟨a,k,e1,e2,kG,fe,jB⟩|⟨k,c,z,a,e1,e2,hc,hk⟩
  ·rw [e1,e2];refine Or.inl ⟨⟨op,0,[],[a]⟩,k,rfl,rfl,by omega,fe,?_⟩
   simp only [cJ,kl,arO];omega
  ·rw [e1,e2];exact Or.inr ⟨k,c,_,_,rfl,rfl,hc,hk⟩
theorem amb{dt:Nat}(ae:l.length≤1000000000)(b3:A5 l dt)(amc:T6 l dt):A5 l (dt+1):=by
 intro i b1 d n1 n2 hi hH T8 hd hm Z ab;obtain⟨n1,rfl⟩:∃k,n1=k+1:=⟨n1-1,by omega⟩
 obtain⟨n2,rfl⟩:∃k,n2=k+1:=⟨n2-1,by omega⟩
 rw [abi,abk];unfold DE EO;simp only [fA,u2,al4,an,show¬ b1=9 by omega,arI,arK]
 by_cases aq:b1=3
 ·subst aq;simp only [arH,arJ,show((3:Nat):Int)=3 from rfl,true_and,show¬ (3:Int)=8 by omega,show¬ 3=8 by omega,false_and,arX]
  cases h:bL l i [110,111,116]
  ·simp only [arK,Bool.false_eq_true,arX,arH,arL];have hn:=b3 i 4 d n1 n2 hi (by omega) (by omega) hd (by omega) (by omega) (by omega)
   rw [show ar0 ((3:Int)+1)=((4:Nat):Int)from rfl]
   refine L5 ?_;rcases hn with⟨a,k,e1,e2,kG,fe,jB⟩|⟨k,c,z,a,e1,e2,hc,hk⟩
   ·refine Or.inl ⟨a,k,e1,?_,kG,fe,jB⟩;rw [e2];obtain⟨FJ,s8⟩:∃j,n2=j+1:=⟨n2-1,by omega⟩
    simp only [an]
    conv=>lhs;arg 8;rw [s8]
    simp only [qm,sT,arH,arJ];rw [T2 l k 3 (by omega) (by decide),if_neg (abh l k).1]
    simp only [an,arH,arJ,gd]
   ·refine Or.inr ⟨k,c,z,⟨0,0,[],[]⟩,e1,?_,hc,hk⟩;rw [e2];obtain⟨FJ,s8⟩:∃j,n2=j+1:=⟨n2-1,by omega⟩
    simp only [an]
    conv=>lhs;arg 8;rw [s8]
    simp only [qm,sT,xj,hc,arI,arK]
  ·simp only [arJ,arW,show¬ (18:Int)=0 by omega,arI,arM]
   exact L5 (abn ae b3 i 3 d n1 n2 18 (gV h) (by omega) (by omega) hd (by omega) (by omega) (by omega))
 ·by_cases ek:b1=8
  ·subst ek;simp only [arH,arJ,arI,arK,show¬ 8=3 by omega,show((8:Nat):Int)=8 from rfl,true_and,show¬ (8:Int)=3 by omega,false_and,arX]
   cases h:bL l i [45]
   ·simp only [arK,Bool.false_eq_true,arX,arH,arL];obtain⟨FJ,s8⟩:∃j,n2=j+1:=⟨n2-1,by omega⟩
    have hn:=amc i d n1 FJ hi hd (by omega) (by omega) (by omega)
    rw [show ar0 ((8:Int)+1)=(9:Int)from rfl]
    refine L5 ?_
    have amd:nM n2 l (i:Int) 9 (d:Int)=Option.bind (sU FJ l (i:Int) (d:Int)) λr2=>some (r2.1,r2.2.1,r2.2.2):=by
     rw [s8,abk];unfold EO;simp only [arH,arJ]
    rw [amd];rcases hn with⟨a,k,e1,e2,kG,fe,jB⟩|⟨k,c,z,a,e1,e2,hc,hk⟩
    ·refine Or.inl ⟨a,k,e1,?_,kG,fe,jB⟩;rw [e2];simp only [an]
     conv=>lhs;arg 8;rw [s8]
     simp only [qm,sT,arH,arJ];rw [T2 l k 8 (by omega) (by decide),if_neg (abh l k).2]
     simp only [an,arH,arJ,gd]
    ·refine Or.inr ⟨k,c,z,⟨0,0,[],[]⟩,e1,?_,hc,hk⟩;rw [e2];simp only [an]
     conv=>lhs;arg 8;rw [s8]
     simp only [qm,sT,xj,hc,arI,arK]
   ·simp only [arJ,arW,show¬ (9:Int)=0 by omega,arI,arM]
    exact L5 (abn ae b3 i 8 d n1 n2 9 (gV h) (by omega) (by omega) hd (by omega) (by omega) (by omega))
  ·have hn:=b3 i (b1+1) d n1 n2 hi (by omega) (by omega) hd (by omega) (by omega) (by omega)
   simp only [aq,ek,arI,arK,fA,false_and,arX,arH,arL];rw [bx (by omega)]
   rcases hn with⟨a,k,e1,e2,kG,fe,jB⟩|⟨k,c,z,a,e1,e2,hc,hk⟩
   ·rw [e1,e2];simp only [an,aC.on];exact ama ae b3 i b1 d n1 n2 hH (by omega) hd (by omega) (by omega) (by omega) n1 n2 k a (by omega) (by omega) kG fe jB
   ·rw [e1,e2];obtain⟨FJ,s8⟩:∃j,n2=j+1:=⟨n2-1,by omega⟩
    simp only [an,aC.on];refine Or.inr ⟨k,c,_,⟨0,0,[],[]⟩,rfl,?_,hc,hk⟩
    conv=>lhs;arg 8;rw [s8]
    simp only [qm,sT,xj,hc,arI,arK]
theorem FK(ae:l.length≤1000000000)(hg:kF l):∀dt,A5 l dt∧T6 l dt∧L3 l dt
 | 0=>⟨λi b1 d n1 n2 hi Z ab hd hm=>by omega,λi d n1 n2 hi hd hm=>by omega,λi d n1 n2 hi hd hm Z ab=>by
  obtain⟨n1,rfl⟩:∃k,n1=k+1:=⟨n1-1,by omega⟩
  obtain⟨n2,rfl⟩:∃k,n2=k+1:=⟨n2-1,by omega⟩
  rw [T4,abl];unfold uw EQ;rw [nR n1 l i _ (by omega) (by omega),rz l i _ (by omega) (by omega)]
  have h:bL l i [40]=false:=by
   cases ao:bL l i [40]
   ·rfl
   ·have:=gV ao;omega
  simp only [an,h,arK,aC.on,hX l i,arI,arM,arJ];exact Or.inr ⟨i,_,_,_,rfl,rfl,hX l i,hi⟩⟩
 |dt+1=>⟨amb ae (FK ae hg dt).1 (FK ae hg dt).2.1,al_ ae hg (FK ae hg dt).2.2,al7 ae (FK ae hg dt).1⟩
end
open Go Go.Ab Go.Proofs
def abo(n:Nat)(l:List Token)(k:Nat)(ae:l.length≤1000000000)(hk:k≤l.length):Lc n l (k:Int)=some (FH l k):=by
 unfold Lc FH;by_cases h0:l.length=0
 ·simp only [h0,fA,arH,arJ,arW,show¬ k<0 by omega,arX]
 ·have e:ar0 (((l.length:Nat):Int)-1)=((l.length-1:Nat):Int):=by rw [wr]<;>omega
  rw [e];simp only [fA,h0,arI,arK,arQ];by_cases h:k<l.length
  ·simp only [show¬ l.length-1<k by omega,arI,arK,cm h,a6,arP,h,arW]
  ·simp only [show l.length-1<k by omega,arH,arJ,cm (show l.length-1<l.length by omega),a6,arP,h,arX]
def L7(l:List Token)(k:Nat)(c:Int):Cw 332 (mV l k c)=some (FH l k,c):=rfl
open Go Go.Ab Go.Proofs
def A7(n:Nat)(l:List Token)(i:Nat)(e8:Int)(ae:l.length≤1000000000)(hi:i≤l.length):
 nB n e8 ⟨l,(i:Int)⟩=some (if i<l.length∧(l.getD i default).Kind=e8 then .ret (l.getD i default) ((i+1:Nat):Int)else .aK (mV l i (iD l i 5)) (i:Int)):=by
 unfold nB Jj
 (rw [bx (by omega),L4 (by omega)];simp only [arP])
 simp only [Int.ofNat_le,dJ];by_cases h:i<l.length
 ·simp only [show¬ l.length≤i by omega,arI,Bool.false_or,cm h,a6,h,true_and]
  by_cases hk:(l.getD i default).Kind=e8
  ·rw [if_pos hk];simp only [hk,arH,arL,arK]
  ·rw [if_neg hk];simp only [hk,arI,arM,arJ,u3 n l i 5 (by omega),an,aC.on]
 ·rw [if_neg (λx=>h x.1)]
  simp only [show l.length≤i by omega,arH,Bool.true_or,a6,arJ,u3 n l i 5 (by omega),an,aC.on]
def L8(n:Nat)(l:List Token)(i:Nat)(e8:Int)(ae:l.length≤1000000000)(hi:i≤l.length):
 rr n l (i:Int) e8=some (if i<l.length∧(l.getD i default).Kind=e8 then(l.getD i default,((i+1:Nat):Int),0) else(⟨0,[],0,0⟩,(i:Int),iD l i 5)):=by
 unfold rr
 (rw [bx (by omega)];simp only [arP])
 simp only [Int.ofNat_le,dJ,A4,an];by_cases h:i<l.length
 ·simp only [show¬ l.length≤i by omega,arI,Bool.false_or,cm h,a6,h,true_and]
  by_cases hk:(l.getD i default).Kind=e8
  ·rw [if_pos hk];simp only [hk,arH,arL,arK]
  ·rw [if_neg hk];simp only [hk,arI,arM,arJ]
 ·rw [if_neg (λx=>h x.1)]
  simp only [show l.length≤i by omega,arH,Bool.true_or,a6,arJ]
section
variable {α:Type} {wt:α→Nat} {l:List Token}
theorem u6{β:Type}{abp:β→Nat}{i j:Nat}{p:Option (aC β Int)}{q:Option (β×Int×Int)}(h:hM abp l j p q)
 {F:β→Int→Option (aC α Int)} {R:β×Int×Int→Option (α×Int×Int)}
 (ef:∀a (k:Nat),j<k→k≤l.length→abp a+eM l j≤eM l k→hM wt l i (F a (k:Int)) (R (a,(k:Int),0)))
 (FL:∀a (k:Int) c,c≠0→∃dH,R (a,k,c)=some (dH,k,c)):
 hM wt l i (Option.bind p λr=>aC.on r (λa b=>F a b) (λx b=>some (.aK x b))) (Option.bind q R):=by
 rcases h with⟨a,k,e1,e2,Z,ab,aq⟩|⟨k,c,z,a,e1,e2,Z,ab⟩
 ·rw [e1,e2];exact ef a k Z ab aq
 ·rw [e1,e2];obtain⟨dH,tQ⟩:=FL a (k:Int) c Z;exact Or.inr ⟨k,c,z,dH,rfl,tQ,Z,ab⟩
theorem A8{i j n1 n2:Nat}{w:arY}(ae:l.length≤1000000000)(hj:j≤l.length)(hn:2≤n2)
 {F:Unit→Int→Option (aC α Int)} {R:Int×Int→Option (α×Int×Int)}
 (ef:bL l j w=true→j<l.length→eM l (j+1)=eM l j+60+(l.getD j default).Text.length→hM wt l i (F () ((j+1:Nat):Int)) (R (((j+1:Nat):Int),0)))
 (FL:∀(k:Int) c,c≠0→∃dH,R (k,c)=some (dH,k,c)):
 hM wt l i (Option.bind (iQ n1 w ⟨l,(j:Int)⟩) λr=>aC.on r (λa b=>F a b) (λx b=>some (.aK x b))) (Option.bind (kh n2 l (j:Int) [w]) R):=by
 rw [nR n1 l j w (by omega) (by omega),rz l j w hn (by omega)]
 cases h:bL l j w
 ·obtain⟨dH,tQ⟩:=FL (j:Int) (iD l j 5) (hX l j);exact Or.inr ⟨j,_,_,dH,rfl,tQ,hX l j,hj⟩
 ·exact ef h (gV h) (h7 l j (gV h))
theorem T9{i j n1 n2:Nat}{e8:Int}(ae:l.length≤1000000000)(hj:j≤l.length)
 {F:Token→Int→Option (aC α Int)} {R:Token×Int×Int→Option (α×Int×Int)}
 (ef:j<l.length→eM l (j+1)=eM l j+60+(l.getD j default).Text.length→hM wt l i (F (l.getD j default) ((j+1:Nat):Int)) (R (l.getD j default,((j+1:Nat):Int),0)))
 (FL:∀t (k:Int) c,c≠0→∃dH,R (t,k,c)=some (dH,k,c)):
 hM wt l i (Option.bind (nB n1 e8 ⟨l,(j:Int)⟩) λr=>aC.on r (λa b=>F a b) (λx b=>some (.aK x b))) (Option.bind (rr n2 l (j:Int) e8) R):=by
 rw [A7 n1 l j e8 ae hj,L8 n2 l j e8 ae hj];by_cases h:j<l.length∧(l.getD j default).Kind=e8
 ·rw [if_pos h,if_pos h];exact ef h.1 (h7 l j h.1)
 ·rw [if_neg h,if_neg h];obtain⟨dH,tQ⟩:=FL ⟨0,[],0,0⟩ (j:Int) (iD l j 5) (hX l j);exact Or.inr ⟨j,_,_,dH,rfl,tQ,hX l j,hj⟩
end
mutual
def fst:Stmt→Nat
 |⟨_,Name,_,A,B,Body,bK⟩=>80+Name.length+cJ A+cJ B+dP Body+dP bK
def dP:List Stmt→Nat
 |[]=>0
 |x::l=>fst x+1+dP l
end
def jC(s:Stmt):(⟨s.Op,s.Name,s.Max,s.A,s.B,s.Body,s.bK⟩:Stmt)=s:=by cases s;rfl
def fst_eq(s:Stmt):fst s=80+s.Name.length+cJ s.A+cJ s.B+dP s.Body+dP s.bK:=by cases s;rfl
def L9:∀l m:List Stmt,dP (l++m)=dP l+dP m
 |[],m=>by simp [dP]
 |x::l,m=>by rw [List.cons_append,dP,dP,L9 l m];omega
def xG:∀l:List Stmt,80*l.length≤dP l
 |[]=>Nat.le_refl _
 |x::l=>by have:=xG l;have:=fst_eq x;simp only [dP,arN];omega
def T_(n:Nat)(s:Stmt)(l:List Token)(i:Nat)(hi:i≤4611686018427387904)(ae:l.length≤4611686018427387904):
 mf n s ⟨l,(i:Int)⟩=some (bif bL l i [59]then .ret s ((i+1:Nat):Int)else .aK (mV l i (iD l i 5)) (i:Int)):=by
 unfold mf;rw [nR n l i _ hi ae];cases bL l i [59]
 ·rfl
 ·simp only [an,arJ,aC.on,gd,jC]
def mK:List (arY×Int):=[([108,101,116],1),([112,117,116],3),([100,101,108,101,116,101],4),([105,102],5),([102,111,114],6),([101,109,105,116],7),([97,98,111,114,116],8)]
def Ua(l:List Token)(i:Nat):Int:=call2 (mK.find? λr=>bL l i r.1)
def ame(n:Nat)(l:List Token)(at_:Int)(am:Int→ar3)(v5:Int):S6 n l at_ am v5 =
 bif (decide (v5<((mK.length:Nat):Int))) then(
  av (aM v5 mK.length)<|
  Option.bind (kD n l at_ ((mK.map (·.1)).getD (v5).toNat default)) λbC=>
  bif bC then(
   av (aM v5 mK.length)<|
   some ((mK.map (·.2)).getD (v5).toNat default))
  else(
   am (ar0 (v5+1))))
 else S5 n:=rfl
def amf(n:Nat)(l:List Token)(a:Nat):∀m i,mK.length<i+m→i≤mK.length→ER n l (a:Int) m (i:Int)=some (call2 ((mK.drop i).find? λr=>bL l a r.1)):=by
 have hlen:mK.length=7:=rfl;intro m;induction m with
 |zero=>intro i h ab;omega
 |succ m aR=>
  intro i hm hi;rw [ER,ame];by_cases h:i<mK.length
  ·(rw [fz mK i default h,bx (by omega),aR (i+1) (by omega) (by omega)];simp only [arP];rw [getD_map _ _ _ h,getD_map _ _ _ h])
   generalize mK.getD i default=t
   simp only [h,cm h,arQ,arH,arJ,a6,oH,an,List.find?_cons];cases bL l a t.1<;>rfl
  ·rw [g' mK i h];simp only [h,arQ,arI,arK];rfl
def amg{n:Nat}(l:List Token)(a:Nat)(hn:8<n):S7 n l (a:Int)=some (Ua l a):=by
 have hlen:mK.length=7:=rfl;exact amf n l a n 0 (by omega) (by omega)
def FM{l:List Token}{i:Nat}{v w:arY}(h:bL l i v=true)(amh:v≠w):bL l i w=false:=by
 unfold bL at h ⊢;simp only [Bool.and_eq_true,decide_eq_true_eq]at h;rw [decide_eq_false (show¬ (l.getD i default).Text=w by rw [h.2.2];exact amh)]
 simp
open Go Go.Ab Go.Proofs
def abq(n:Nat):nG (n+1)=DM n (nG n) (rn n) (qh n):=rfl
def abr(n:Nat):rn (n+1)=DO n (nG n) (rn n) (qh n):=rfl
def abs(n:Nat):qh (n+1)=DY n (nG n) (rn n) (qh n):=rfl
def ami(n:Nat):mh (n+1)=Lh n (mh n) (nN n) (oB n) (m9 n):=rfl
def amj(n:Nat):nN (n+1)=Li n (mh n) (nN n) (oB n) (m9 n):=rfl
def abt(n:Nat):oB (n+1)=EU n (mh n) (nN n) (oB n) (m9 n):=rfl
def Ub(n:Nat):m9 (n+1)=AC n (mh n) (nN n) (oB n) (m9 n):=rfl
section
variable {l:List Token}
theorem xH(ae:l.length≤1000000000)(hg:kF l){i n1 n2:Nat}(hi:i≤l.length)(Z:40*l.length+200≤n1)(ab:40*l.length+200≤n2):
 hM cJ l i (fK n1 1 0 ⟨l,(i:Int)⟩) (nM n2 l (i:Int) 1 0):=
 (FK ae hg (20*l.length+18)).1 i 1 0 n1 n2 hi (by omega) (by omega) (by omega) (by omega) (by omega) (by omega)
def FN(l:List Token)(dt:Nat):Prop:=∀(i d n1 n2:Nat),i≤l.length→d≤13→2*(l.length-i)+2≤dt→40*l.length+200+6*dt≤n1→40*l.length+200+6*dt≤n2→
 hM (λb=>dP b+120) l i (nG n1 (d:Int) ⟨l,(i:Int)⟩) (mh n2 l (i:Int) (d:Int))
def L'(l:List Token)(dt:Nat):Prop:=∀(i d n1 n2:Nat),i≤l.length→d≤12→2*(l.length-i)+1≤dt→40*l.length+200+6*dt≤n1→40*l.length+200+6*dt≤n2→
 hM (λs=>fst s+1) l i (rn n1 ((d+1:Nat):Int) ⟨l,(i:Int)⟩) (nN n2 l (i:Int) (d:Int))
theorem amk{k:Nat}(h:k≤100000000000):room k 192=true:=by simp [room];omega
theorem aml{dt:Nat}(ae:hf l≤1000000000)(Uc:L' l dt)(i d n1 n2:Nat)(hd:d≤12)(hm:2*(l.length-i)≤dt+1)(Z:40*l.length+200+6*dt≤n1)(ab:40*l.length+200+6*dt≤n2):
 ∀(m1 m2 k:Nat) (acc:List Stmt),l.length-k<m1→l.length-k<m2→i<k→k≤l.length→dP acc+60+eM l i≤eM l k→
 hM (λb=>dP b+120) l i (ux n1 (nG n1) (rn n1) (qh n1) (d:Int) ⟨l,(i:Int)⟩ m1 (k:Int) acc)
  (ES n2 (mh n2) (nN n2) (oB n2) (m9 n2) l (d:Int) m2 (k:Int) acc):=by
 have oJ:=mJ l;have qT:eM l l.length=hf l:=by unfold eM;rw [List.take_length]
 intro m1;induction m1 with
 |zero=>intro m2 k acc h;omega
 |succ m1 aR=>
  intro m2 k acc abm TW q9 hk ha;obtain⟨m2,rfl⟩:∃j,m2=j+1:=⟨m2-1,by omega⟩
  have amm:=u4 l k l.length hk;have uZ:=xG acc;simp only [ux,Jl,Jk,ES,S9,S8,gd,jC];rw [k6 n1 l k _ (by omega),oH,bx (by omega),bx (by omega)]
  simp only [an];cases h:bL l k [125]
  ·simp only [arM,arJ,arK];rcases Uc k d n1 n2 hk hd (by omega) Z ab with⟨a,k',e1,e2,kG,fe,jB⟩|⟨k',c,z,a,e1,e2,hc,lk⟩
   ·rw [e1,e2];simp only at jB
    simp only [an,aC.on,arH,arL,arK,arN,arO,amk (show acc.length+(0+1)≤100000000000 by omega),a6]
    exact aR m2 k' (acc++[a]) (by omega) (by omega) (by omega) fe (by rw [L9];simp only [dP];omega)
   ·rw [e1,e2];simp only [an,aC.on,hc,arI,arM,arJ];exact Or.inr ⟨k',c,_,_,rfl,rfl,hc,lk⟩
  ·have bO:=gV h;have jj:=h7 l k bO;simp only [arL,arJ,arK];exact Or.inl ⟨acc,k+1,rfl,rfl,by omega,by omega,by simp only;omega⟩
theorem amn{dt:Nat}(ae:hf l≤1000000000)(Uc:L' l dt):FN l (dt+1):=by
 have oJ:=mJ l;intro i d n1 n2 hi hd hm Z ab;obtain⟨n1,rfl⟩:∃k,n1=k+1:=⟨n1-1,by omega⟩
 obtain⟨n2,rfl⟩:∃k,n2=k+1:=⟨n2-1,by omega⟩
 rw [abq,ami];unfold DM Lh DK;rw [u2,nR n1 l i _ (by omega) (by omega),rz l i _ (by omega) (by omega),u3 n1 l i 2 (by omega)]
 simp only [an,fF];cases h:bL l i [123]
 ·simp only [arK,aC.on,hX l i,arI,arM,arJ];exact Or.inr ⟨i,_,_,_,rfl,rfl,hX l i,hi⟩
 ·have bO:=gV h;have jj:=h7 l i bO;simp only [arJ,arH,arL,arK,aC.on];by_cases gy:12<d
  ·simp only [gy,arH,arJ];rw [L4 (by omega),show iD l i 2=2 from if_pos bO]
   exact Or.inr ⟨i,2,_,_,rfl,rfl,by decide,hi⟩
  ·simp only [gy,arI,arK];exact aml ae Uc i d n1 n2 (by omega) (by omega) (by omega) (by omega) n1 n2 (i+1) [] (by omega) (by omega) (by omega) (by omega) (by simp only [dP];omega)
end
open Go Go.Ab Go.Proofs
section
variable {l:List Token}
theorem amo{α:Type}{wt:α→Nat}{i:Nat}{p:Option (aC α Int)}{q:Option (α×Int×Int)}(h:hM wt l i p q):
 hM wt l i (Option.bind p λr=>aC.on r (λa b=>some (.ret a b)) (λx b=>some (.aK x b))) (Option.bind q λr=>some (r.1,r.2.1,r.2.2)):=by
 rcases h with⟨a,k,e1,e2,h⟩|⟨k,c,z,a,e1,e2,h⟩
 ·rw [e1,e2];exact Or.inl ⟨a,k,rfl,rfl,h⟩
 ·rw [e1,e2];exact Or.inr ⟨k,c,z,a,rfl,rfl,h⟩
theorem amp{n:Nat}(k:Nat)(s:Stmt)(d:Int)(hn:2≤n)(hk:k≤1000000000)(bn:s.Op≠5)(cd:s.Op≠6):
 m9 (n+1) l (k:Int) s d=some (bif bL l k [59] then(s,((k+1:Nat):Int),0) else(s,(k:Int),iD l k 5)):=by
 rw [Ub];unfold AC;simp only [bn,cd,arI,arK,gd,jC];rw [rz l k _ hn (by omega)]
 simp only [an];cases bL l k [59]<;>rfl
theorem Ud{i k n1 n2:Nat}(ae:l.length≤1000000000)(hn:3≤n2)(s:Stmt)(d:Int)(q9:i<k)(hk:k≤l.length)(bn:s.Op≠5)(cd:s.Op≠6)(hw:fst s+1+eM l i≤eM l k+60):
 hM (λs=>fst s+1) l i (Option.bind (mf n1 s ⟨l,(k:Int)⟩) λr=>aC.on r (λa b=>some (.ret a b)) (λx b=>some (.aK x b)))
  (Option.bind (m9 n2 l (k:Int) s d) λr=>some (r.1,r.2.1,r.2.2)):=by
 obtain⟨n2,rfl⟩:∃j,n2=j+1:=⟨n2-1,by omega⟩
 refine amo ?_;rw [T_ n1 s l k (by omega) (by omega),amp k s d (by omega) (by omega) bn cd]
 cases h:bL l k [59]
 ·exact Or.inr ⟨k,_,_,_,rfl,rfl,hX l k,hk⟩
 ·have bO:=gV h;have jj:=h7 l k bO;exact Or.inl ⟨s,k+1,rfl,rfl,by omega,by omega,by simp only;omega⟩
theorem FO:cJ ⟨0,0,[],[]⟩=30:=by simp [cJ,kl]
theorem A9:dP []=0:=rfl
theorem amq(l:List Token)(i:Nat):Ua l i=bif bL l i [108,101,116]then 1 else bif bL l i [112,117,116]then 3 else bif bL l i [100,101,108,101,116,101]then 4 else bif bL l i [105,102]then 5 else bif bL l i [102,111,114]then 6 else bif bL l i [101,109,105,116]then 7 else bif bL l i [97,98,111,114,116]then 8 else 0:=by
 unfold Ua mK;simp only [List.find?_cons,List.find?_nil];cases bL l i [108,101,116]
 ·cases bL l i [112,117,116]
  ·cases bL l i [100,101,108,101,116,101]
   ·cases bL l i [105,102]
    ·cases bL l i [102,111,114]
     ·cases bL l i [101,109,105,116]
      ·cases bL l i [97,98,111,114,116]<;>rfl
      ·rfl
     ·rfl
    ·rfl
   ·rfl
  ·rfl
 ·rfl
theorem amr{i:Nat}(h:i≤1000000000):ar0 (ar0 ((i:Int)-1)+1)=(i:Int):=by
 rw [wr (x:=(i:Int)-1) (by omega) (by omega),wr (by omega) (by omega)];omega
theorem abu(ae:hf l≤1000000000)(hg:kF l)(i j d n1 n2:Nat)(op:Int)(f9:op=1∨op=2)(r7:i≤j)(hj:j≤l.length)(Z:40*l.length+200≤n1)(ab:40*l.length+204≤n2):
 hM (
  λs=>fst s+1) l i
  (Option.bind (nB n1 1 ⟨l,(j:Int)⟩) λr3=>aC.on r3 (λbh bu=>Option.bind (iQ n1 [61] ⟨l,bu⟩) λbC=>aC.on bC (λcn b7=>
   Option.bind (fK n1 1 0 ⟨l,b7⟩) λbc=>aC.on bc (λaS cb=>Option.bind (mf n1 ⟨op,bh.Text,0,aS,⟨0,0,[],[]⟩,[],[]⟩ ⟨l,cb⟩) λcY=>
   aC.on cY (λcj cV=>some (.ret cj cV)) (λlw cV=>some (.aK lw cV))) (λsH cb=>some (.aK sH cb))) (λDP b7=>some (.aK DP b7))) (λmD bu=>some (.aK mD bu)))
  (Option.bind (rr n2 l (j:Int) 1) λbr=>
   bif (!decide (br.2.2=0))then some ((⟨op,[],0,⟨0,0,[],[]⟩,⟨0,0,[],[]⟩,[],[]⟩:Stmt),br.2.1,br.2.2)
   else Option.bind (kh n2 l br.2.1 [[61]]) λbC=>
    bif (!decide (bC.2=0))then some ((⟨op,br.1.Text,0,⟨0,0,[],[]⟩,⟨0,0,[],[]⟩,[],[]⟩:Stmt),bC.1,bC.2)
    else m8 n2 (mh n2) (nN n2) (oB n2) (m9 n2) l (d:Int) op br.1.Text bC.1):=by
 have oJ:=mJ l;have arw:=u4 l i j r7;have Ue:¬ op=8:=by omega
 have Uf:¬ op=3:=by omega
 have Ug:¬ op=6:=by omega
 refine T9 (by omega) hj (λbO jj=>?_) (λt k c hc=>⟨_,by simp only [hc,arI,arM,arJ];rfl⟩)
 generalize l.getD j default=t at jj
 simp only [arH,arL,arK];refine A8 (by omega) (by omega) (by omega) (λaL A' A6=>?_) (λk c hc=>⟨_,by simp only [hc,arI,arM,arJ];rfl⟩)
 simp only [arH,arL,arK,m8,uK,Ue,Uf,Ug,arI,gd,jC];refine u6 (xH (by omega) hg (by omega) Z (by omega)) (λa k kG fe jB=>?_) (λa k c hc=>⟨_,by simp only [hc,arI,arM,arJ];rfl⟩)
 simp only [arH,arL,arK];refine Ud (by omega) (by omega) _ _ (by omega) fe (by simp only;omega) (by simp only;omega) ?_
 simp only [fst,FO,A9];omega
end
open Go Go.Ab Go.Proofs
section
variable {l:List Token}
theorem abv(ae:hf l≤1000000000)(hg:kF l)(i j d n1 n2:Nat)(op:Int)(f9:op=4∨op=7)(r7:i<j)(hw:eM l i+60≤eM l j)(hj:j≤l.length)(Z:40*l.length+200≤n1)(ab:40*l.length+204≤n2):
 hM (λs=>fst s+1) l i
  (Option.bind (fK n1 1 0 ⟨l,(j:Int)⟩) λbc=>aC.on bc (λaS cb=>Option.bind (mf n1 ⟨op,[],0,aS,⟨0,0,[],[]⟩,[],[]⟩ ⟨l,cb⟩) λcY=>
   aC.on cY (λcj cV=>some (.ret cj cV)) (λlw cV=>some (.aK lw cV))) (λsH cb=>some (.aK sH cb)))
  (m8 n2 (mh n2) (nN n2) (oB n2) (m9 n2) l (d:Int) op [] (j:Int)):=by
 have oJ:=mJ l;have Ue:¬ op=8:=by omega
 have Uf:¬ op=3:=by omega
 have Ug:¬ op=6:=by omega
 simp only [m8,uK,Ue,Uf,Ug,arI,arK,gd,jC];refine u6 (xH (by omega) hg (by omega) Z (by omega)) (λa k kG fe jB=>?_) (λa k c hc=>⟨_,by simp only [hc,arI,arM,arJ];rfl⟩)
 simp only [arH,arL,arK];refine Ud (by omega) (by omega) _ _ (by omega) fe (by simp only;omega) (by simp only;omega) ?_
 simp only [fst,FO,A9,arO];omega
theorem ams(ae:hf l≤1000000000)(hg:kF l)(i j d n1 n2:Nat)(r7:i<j)(hw:eM l i+60≤eM l j)(hj:j≤l.length)(Z:40*l.length+200≤n1)(ab:40*l.length+204≤n2):
 hM (λs=>fst s+1) l i
  (Option.bind (fK n1 1 0 ⟨l,(j:Int)⟩) λe0=>aC.on e0 (λde ea=>Option.bind (iQ n1 [61] ⟨l,ea⟩) λft=>aC.on ft (λr26 r27=>
   Option.bind (fK n1 1 0 ⟨l,r27⟩) λfD=>aC.on fD (λhJ fO=>Option.bind (mf n1 ⟨3,[],0,de,hJ,[],[]⟩ ⟨l,fO⟩) λny=>
   aC.on ny (λcj cV=>some (.ret cj cV)) (λlw cV=>some (.aK lw cV))) (λsI fO=>some (.aK sI fO))) (λsJ r27=>some (.aK sJ r27))) (λox ea=>some (.aK ox ea)))
  (m8 n2 (mh n2) (nN n2) (oB n2) (m9 n2) l (d:Int) 3 [] (j:Int)):=by
 have oJ:=mJ l;simp only [m8,ET,uK,show¬ (3:Int)=8 by omega,show¬ (3:Int)=6 by omega,arH,arI,arJ,arK,gd,jC]
 refine u6 (xH (by omega) hg (by omega) Z (by omega)) (λa k kG fe jB=>?_) (λa k c hc=>⟨_,by simp only [hc,arI,arM,arJ];rfl⟩)
 simp only [arH,arL,arK];refine A8 (by omega) fe (by omega) (λaL A' A6=>?_) (λk c hc=>⟨_,by simp only [hc,arI,arM,arJ];rfl⟩)
 simp only [arH,arL,arK];refine u6 (xH (by omega) hg (by omega) Z (by omega)) (λb am abw FP Uh=>?_) (λa k c hc=>⟨_,by simp only [hc,arI,arM,arJ];rfl⟩)
 simp only [arH,arL,arK,gd];refine Ud (by omega) (by omega) _ _ (by omega) FP (by simp only;omega) (by simp only;omega) ?_
 simp only [fst,A9,arO];omega
theorem amt(ae:hf l≤1000000000)(i j d n1 n2:Nat)(r7:i<j)(hw:eM l i+60≤eM l j)(hj:j≤l.length)(ab:10≤n2):
 hM (λs=>fst s+1) l i
  (Option.bind (nB n1 3 ⟨l,(j:Int)⟩) λnD=>aC.on nD (λJp w2=>Option.bind (mf n1 ⟨8,[],Jp.N,⟨0,0,[],[]⟩,⟨0,0,[],[]⟩,[],[]⟩ ⟨l,w2⟩) λwJ=>
   aC.on wJ (λcj cV=>some (.ret cj cV)) (λlw cV=>some (.aK lw cV))) (λsH cb=>some (.aK sH cb)))
  (m8 n2 (mh n2) (nN n2) (oB n2) (m9 n2) l (d:Int) 8 [] (j:Int)):=by
 have oJ:=mJ l;obtain⟨n2,rfl⟩:∃k,n2=k+1:=⟨n2-1,by omega⟩
 simp only [m8,arH,arJ,gd,jC]
 conv=>rhs;rw [abt]
 unfold EU;simp only [arH,arJ,gd,jC];rw [A7 n1 l j 3 (by omega) hj,L8 n2 l j 3 (by omega) hj]
 by_cases h:j<l.length∧(l.getD j default).Kind=3
 ·have jj:=h7 l j h.1;rw [if_pos h,if_pos h];generalize l.getD j default=t at jj
  simp only [an,aC.on,arH,arL,arK];rw [T_ n1 _ l (j+1) (by omega) (by omega),rz l (j+1) _ (by omega) (by omega)]
  cases cN:bL l (j+1) [59]
  ·exact Or.inr ⟨j+1,_,_,_,rfl,rfl,hX l _,by omega⟩
  ·have bO:=gV cN;have A6:=h7 l (j+1) bO;refine Or.inl ⟨⟨8,[],t.N,⟨0,0,[],[]⟩,⟨0,0,[],[]⟩,[],[]⟩,j+1+1,rfl,rfl,by omega,by omega,?_⟩
   simp only [fst,FO,A9,arO];omega
 ·rw [if_neg h,if_neg h];simp only [an,aC.on,hX l j,arI,arM,arJ];exact Or.inr ⟨j,_,_,_,rfl,rfl,hX l j,hj⟩
theorem amu{dt:Nat}(ae:hf l≤1000000000)(hg:kF l)(eR:FN l dt)(i j d n1 n2:Nat)(r7:i<j)(hw:eM l i+60≤eM l j)(hj:j≤l.length)(hd:d≤12)(hm:2*(l.length-i)≤dt+1)(Z:40*l.length+200+6*dt≤n1)(ab:40*l.length+204+6*dt≤n2):
 hM (λs=>fst s+1) l i
  (Option.bind (fK n1 1 0 ⟨l,(j:Int)⟩) λQ0=>aC.on Q0 (λoy sL=>Option.bind (nG n1 ((d+1:Nat):Int) ⟨l,sL⟩) λQ1=>aC.on Q1 (λrm sM=>
   Option.bind (kY n1 [101,108,115,101] ⟨l,sM⟩) λuy=>
   bif uy.1 then Option.bind (nG n1 ((d+1:Nat):Int) ⟨l,uy.2⟩) λQ2=>aC.on Q2 (λJr sN=>some (.ret (⟨5,[],0,oy,⟨0,0,[],[]⟩,rm,Jr⟩:Stmt) sN)) (λDR sN=>some (.aK DR sN))
   else some (.ret (⟨5,[],0,oy,⟨0,0,[],[]⟩,rm,[]⟩:Stmt) uy.2)) (λDS sM=>some (.aK DS sM))) (λDT sL=>some (.aK DT sL)))
  (m8 n2 (mh n2) (nN n2) (oB n2) (m9 n2) l (d:Int) 5 [] (j:Int)):=by
 have oJ:=mJ l;obtain⟨n2,rfl⟩:∃k,n2=k+1:=⟨n2-1,by omega⟩
 simp only [m8,uK,show¬ (5:Int)=8 by omega,show¬ (5:Int)=6 by omega,show¬ (5:Int)=3 by omega,arI,arK,gd,jC]
 refine u6 (xH (by omega) hg (by omega) (by omega) (by omega)) (λa k kG fe jB=>?_) (λa k c hc=>⟨_,by simp only [hc,arI,arM,arJ];rfl⟩)
 simp only [arH,arL,arK,Ub,AC,Lj,show¬ (5:Int)=6 by omega,arI,arJ,gd,jC]
 rw [bx (by omega)]
 rcases eR k (d+1) n1 n2 fe (by omega) (by omega) (by omega) (by omega) with⟨b,k',e1,e2,abw,FP,Uh⟩|⟨k',c,z,b,e1,e2,hc,lk⟩
 ·simp only at Uh
  rw [e1,e2];simp only [an,aC.on,arH,arJ];rw [k6 n1 l k' _ (by omega),oH,bx (by omega)]
  simp only [an];cases h:bL l k' [101,108,115,101]
  ·simp only [arK,an];refine Or.inl ⟨⟨5,[],0,a,⟨0,0,[],[]⟩,b,[]⟩,k',rfl,rfl,by omega,FP,?_⟩
   simp only [fst,FO,A9,arO];omega
  ·have bO:=gV h;have jj:=h7 l k' bO;simp only [arJ];rcases eR (k'+1) (d+1) n1 n2 (by omega) (by omega) (by omega) (by omega) (by omega) with⟨hG,am,e1,e2,amv,Ui,L_⟩|⟨am,c,z,hG,e1,e2,hc,amw⟩
   ·simp only at L_
    rw [e1,e2];refine Or.inl ⟨⟨5,[],0,a,⟨0,0,[],[]⟩,b,hG⟩,am,rfl,rfl,by omega,Ui,?_⟩
    simp only [fst,FO,arO];omega
   ·rw [e1,e2];exact Or.inr ⟨am,c,_,_,rfl,rfl,hc,amw⟩
 ·rw [e1,e2];simp only [an,aC.on,hc,arI,arK];exact Or.inr ⟨k',c,_,_,rfl,rfl,hc,lk⟩
end
open Go Go.Ab Go.Proofs
section
variable {l:List Token}
theorem amx{dt:Nat}(ae:hf l≤1000000000)(hg:kF l)(eR:FN l dt)(i j d n1 n2:Nat)(r7:i<j)(hw:eM l i+60≤eM l j)(hj:j≤l.length)(hd:d≤12)(hm:2*(l.length-i)≤dt+1)(Z:40*l.length+202+6*dt≤n1)(ab:40*l.length+204+6*dt≤n2):
 hM (
  λs=>fst s+1) l i
  (Option.bind (qh n1 ((d+1:Nat):Int) ⟨l,(j:Int)⟩) λr=>aC.on r (λa b=>some (.ret a b)) (λx b=>some (.aK x b)))
  (Option.bind (rr n2 l (j:Int) 1) λbr=>
   bif (!decide (br.2.2=0))then some ((⟨6,[],0,⟨0,0,[],[]⟩,⟨0,0,[],[]⟩,[],[]⟩:Stmt),br.2.1,br.2.2)
   else Option.bind (kh n2 l br.2.1 [[61]]) λbC=>
    bif (!decide (bC.2=0))then some ((⟨6,br.1.Text,0,⟨0,0,[],[]⟩,⟨0,0,[],[]⟩,[],[]⟩:Stmt),bC.1,bC.2)
    else m8 n2 (mh n2) (nN n2) (oB n2) (m9 n2) l (d:Int) 6 br.1.Text bC.1):=by
 have oJ:=mJ l;obtain⟨n1,rfl⟩:∃k,n1=k+1:=⟨n1-1,by omega⟩
 obtain⟨n2,rfl⟩:∃k,n2=k+2:=⟨n2-2,by omega⟩
 suffices h:hM (λs=>fst s+1) l i (qh (n1+1) ((d+1:Nat):Int) ⟨l,(j:Int)⟩) _ by
  rcases h with⟨a,k,e1,e2,h⟩|⟨k,c,z,a,e1,e2,h⟩
  ·rw [e1];exact Or.inl ⟨a,k,rfl,e2,h⟩
  ·rw [e1];exact Or.inr ⟨k,c,z,a,rfl,e2,h⟩
 rw [abs];unfold DY;refine T9 (by omega) hj (λbO jj=>?_) (λt k c hc=>⟨_,by simp only [hc,arI,arM,arJ];rfl⟩)
 generalize l.getD j default=t at jj
 simp only [arH,arL,arK];refine A8 (by omega) (by omega) (by omega) (λaL A' A6=>?_) (λk c hc=>⟨_,by simp only [hc,arI,arM,arJ];rfl⟩)
 simp only [arH,arL,arK,m8,ET,uK,show¬ (6:Int)=8 by omega,arI,arJ,gd,jC]
 refine u6 (xH (by omega) hg (by omega) (by omega) (by omega)) (λa k kG fe jB=>?_) (λa k c hc=>⟨_,by simp only [hc,arI,arM,arJ];rfl⟩)
 have li:(bif decide ((6:Int)=3)then true else decide ((6:Int)=6))=true:=rfl
 simp only [arH,arL,arK,li,arJ];refine A8 (by omega) fe (by omega) (λaL amy T7=>?_) (λk c hc=>⟨_,by simp only [hc,arI,arM,arJ];rfl⟩)
 simp only [arH,arL,arK];refine u6 (xH (by omega) hg (by omega) (by omega) (by omega)) (λb am abw FP Uh=>?_) (λa k c hc=>⟨_,by simp only [hc,arI,arM,arJ];rfl⟩)
 simp only [arH,arL,arK,gd];rw [show n2+2=n2+1+1 from rfl,Ub]
 unfold AC;simp only [arH,arJ,gd,jC]
 -- l' word max
 rw [nR n1 l am _ (by omega) (by omega),rz l am _ (by omega) (by omega)]
 simp only [an];cases amz:bL l am [109,97,120]
 ·simp only [arK,aC.on,hX l am,arI,arM,arJ,an];exact Or.inr ⟨am,_,_,_,rfl,rfl,hX l am,FP⟩
 ·have Uj:=gV amz;have amA:=h7 l am Uj;simp only [arJ,aC.on,arH,arL,arK];rw [abt];unfold EU;rw [A7 n1 l (am+1) 3 (by omega) (by omega),L8 n2 l (am+1) 3 (by omega) (by omega)]
  by_cases h:am+1<l.length∧(l.getD (am+1) default).Kind=3
  ·have amB:=h7 l (am+1) h.1;rw [if_pos h,if_pos h];generalize l.getD (am+1) default=t2 at amB
   simp only [an,aC.on,arH,arL,arK,show¬ (6:Int)=8 by omega,arI,gd,jC]
   rw [bx (by omega)]
   rcases eR (am+1+1) (d+1) n1 n2 (by omega) (by omega) (by omega) (by omega) (by omega) with⟨qO,k',e1,e2,amv,Ui,L_⟩|⟨k',c,z,qO,e1,e2,hc,lk⟩
   ·simp only at L_
    rw [e1,e2];refine Or.inl ⟨⟨6,t.Text,t2.N,a,b,qO,[]⟩,k',rfl,rfl,by omega,Ui,?_⟩
    simp only [fst,A9];omega
   ·rw [e1,e2];exact Or.inr ⟨k',c,_,_,rfl,rfl,hc,lk⟩
  ·rw [if_neg h,if_neg h];simp only [an,aC.on,hX l (am+1),arI,arM,arJ];exact Or.inr ⟨am+1,_,_,_,rfl,rfl,hX l _,by omega⟩
theorem amC{dt:Nat}(ae:hf l≤1000000000)(hg:kF l)(eR:FN l dt):L' l (dt+1):=by
 have oJ:=mJ l;intro i d n1 n2 hi hd hm Z ab;obtain⟨n1,rfl⟩:∃k,n1=k+1:=⟨n1-1,by omega⟩
 obtain⟨n2,rfl⟩:∃k,n2=k+1:=⟨n2-1,by omega⟩
 rw [abr,amj];unfold DO Li DN;rw [amg l i (by omega)]
 have hle:i≤4611686018427387904:=by omega
 simp only [k6 n1 l i _ hle,an,gd,jC];have hk:=amq l i;by_cases Ma:bL l i [108,101,116]=true
 ·have bO:=gV Ma;have jj:=h7 l i bO;rw [Ma]at hk;simp only [arJ]at hk;simp only [Ma,arJ,hk,show¬ (1:Int)=0 by omega,arI,arK,qn]
  rw [bx (by omega)]
  simp only [arH,arJ];exact abu ae hg i (i+1) d n1 n2 1 (Or.inl rfl) (by omega) (by omega) (by omega) (by omega)
 have amD:bL l i [108,101,116]=false:=by simpa using Ma
 simp only [amD,arK]at hk ⊢;simp only [k6 n1 l i _ hle,an];by_cases Mb:bL l i [112,117,116]=true
 ·have bO:=gV Mb;have jj:=h7 l i bO;rw [Mb]at hk;simp only [arJ]at hk;simp only [Mb,arJ,hk,show¬ (3:Int)=0 by omega,arI,arK,qn]
  rw [bx (by omega)]
  have li:(bif (bif decide ((3:Int)=1)then true else decide ((3:Int)=2))then true else decide ((3:Int)=6))=false:=rfl
  simp only [li,arK];exact ams ae hg i (i+1) d n1 n2 (by omega) (by omega) (by omega) (by omega) (by omega)
 have amE:bL l i [112,117,116]=false:=by simpa using Mb
 simp only [amE,arK]at hk ⊢;simp only [k6 n1 l i _ hle,an];by_cases Mc:bL l i [100,101,108,101,116,101]=true
 ·have bO:=gV Mc;have jj:=h7 l i bO;rw [Mc]at hk;simp only [arJ]at hk;simp only [Mc,arJ,hk,show¬ (4:Int)=0 by omega,arI,arK,qn]
  rw [bx (by omega)]
  have li:(bif (bif decide ((4:Int)=1)then true else decide ((4:Int)=2))then true else decide ((4:Int)=6))=false:=rfl
  simp only [li,arK];exact abv ae hg i (i+1) d n1 n2 4 (Or.inl rfl) (by omega) (by omega) (by omega) (by omega) (by omega)
 have amF:bL l i [100,101,108,101,116,101]=false:=by simpa using Mc
 simp only [amF,arK]at hk ⊢;simp only [k6 n1 l i _ hle,an];by_cases A_:bL l i [101,109,105,116]=true
 ·have bO:=gV A_;have jj:=h7 l i bO;rw [FM A_ (w:=[105,102]) (by decide),FM A_ (w:=[102,111,114]) (by decide),A_]at hk
  simp only [arJ,arK]at hk;simp only [A_,arJ,hk,show¬ (7:Int)=0 by omega,arI,arK,qn]
  rw [bx (by omega)]
  have li:(bif (bif decide ((7:Int)=1)then true else decide ((7:Int)=2))then true else decide ((7:Int)=6))=false:=rfl
  simp only [li,arK];exact abv ae hg i (i+1) d n1 n2 7 (Or.inr rfl) (by omega) (by omega) (by omega) (by omega) (by omega)
 have amG:bL l i [101,109,105,116]=false:=by simpa using A_
 simp only [amG,arK]at hk ⊢;simp only [k6 n1 l i _ hle,an];by_cases Ba:bL l i [97,98,111,114,116]=true
 ·have bO:=gV Ba;have jj:=h7 l i bO;rw [FM Ba (w:=[105,102]) (by decide),FM Ba (w:=[102,111,114]) (by decide),Ba]at hk
  simp only [arJ,arK]at hk;simp only [Ba,arJ,hk,show¬ (8:Int)=0 by omega,arI,arK,qn]
  rw [bx (by omega)]
  have li:(bif (bif decide ((8:Int)=1)then true else decide ((8:Int)=2))then true else decide ((8:Int)=6))=false:=rfl
  simp only [li,arK];exact amt ae i (i+1) d n1 n2 (by omega) (by omega) (by omega) (by omega)
 have amH:bL l i [97,98,111,114,116]=false:=by simpa using Ba
 simp only [amH,arK]at hk ⊢;simp only [k6 n1 l i _ hle,an];by_cases Md:bL l i [105,102]=true
 ·have bO:=gV Md;have jj:=h7 l i bO;rw [Md]at hk;simp only [arJ,arK]at hk;simp only [Md,arJ,hk,show¬ (5:Int)=0 by omega,arI,arK,qn]
  rw [bx (by omega)]
  have li:(bif (bif decide ((5:Int)=1)then true else decide ((5:Int)=2))then true else decide ((5:Int)=6))=false:=rfl
  simp only [li,arK];exact amu ae hg eR i (i+1) d n1 n2 (by omega) (by omega) (by omega) hd (by omega) (by omega) (by omega)
 have amI:bL l i [105,102]=false:=by simpa using Md
 simp only [amI,arK]at hk ⊢;simp only [k6 n1 l i _ hle,an];by_cases Me:bL l i [102,111,114]=true
 ·have bO:=gV Me;have jj:=h7 l i bO;rw [Me]at hk;simp only [arJ,arK]at hk;simp only [Me,arJ,hk,show¬ (6:Int)=0 by omega,arI,arK,qn]
  rw [bx (by omega)]
  simp only [arH,arI,arJ,arK,show¬ (6:Int)=1 by omega,show¬ (6:Int)=2 by omega]
  exact amx ae hg eR i (i+1) d n1 n2 (by omega) (by omega) (by omega) hd (by omega) (by omega) (by omega)
 have amJ:bL l i [102,111,114]=false:=by simpa using Me
 simp only [amJ,arK]at hk ⊢;simp only [hk,arH,arJ,arP,Int.ofNat_le,dJ,A4,an,qn,show(decide ((2:Int)=1))=false from rfl,Bool.true_or,arV,Bool.false_or]
 rw [amr (by omega)]
 by_cases aY:i<l.length∧(l.getD i default).Kind=1
 ·have hc:(decide (l.length≤i) || !decide ((l.getD i default).Kind=1))=false:=by
   rw [decide_eq_false (by omega),decide_eq_true aY.2];rfl
  simp only [hc,arK,cm aY.1,arV,a6];exact abu ae hg i i d n1 n2 2 (Or.inr rfl) (by omega) (by omega) (by omega) (by omega)
 ·have hc:(decide (l.length≤i) || !decide ((l.getD i default).Kind=1))=true:=by
   by_cases bO:i<l.length
   ·rw [decide_eq_false (show¬ (l.getD i default).Kind=1 from λe=>aY ⟨bO,e⟩)];simp
   ·rw [decide_eq_true (show l.length≤i by omega)];rfl
  have hin:(decide (l.length≤i)||aM (i:Int) l.length)=true:=by
   by_cases bO:i<l.length
   ·rw [cm bO];simp
   ·rw [decide_eq_true (show l.length≤i by omega)];rfl
  simp only [hc,hin,arJ,a6];rw [A7 n1 l i 1 (by omega) hi,if_neg aY]
  exact Or.inr ⟨i,_,_,_,rfl,rfl,hX l i,hi⟩
theorem Uk(ae:hf l≤1000000000)(hg:kF l):∀dt,FN l dt∧L' l dt
 | 0=>⟨λi d n1 n2 hi hd hm=>by omega,λi d n1 n2 hi hd hm=>by omega⟩
 |dt+1=>⟨amn ae (Uk ae hg dt).2,amC ae hg (Uk ae hg dt).1⟩
end
open Go Go.Ab Go.Proofs
def oK(l:List Token)(k:Nat):Param ⊕ Nat:=
 if k<l.length∧(l.getD k default).Kind=1 then
  bif bL l (k+1) [58] then
   bif bL l (k+2) [105,110,116]then .inl ⟨(l.getD k default).Text,1⟩
   else bif bL l (k+2) [115,116,114]then .inl ⟨(l.getD k default).Text,2⟩
   else bif bL l (k+2) [98,111,111,108]then .inl ⟨(l.getD k default).Text,3⟩
   else .inr (k+2)
  else .inr (k+1)
 else .inr k
def abx{l:List Token}{k:Nat}{p:Param}(h:oK l k = .inl p):k+2<l.length∧p.Name.length+180+eM l k≤eM l (k+3):=by
 unfold oK at h;split at h
 ·rename_i Z;cases ab:bL l (k+1) [58]
  ·rw [ab]at h;cases h
  ·rw [ab]at h;simp only [arJ]at h
   have aq:bL l (k+2) [105,110,116]=true∨bL l (k+2) [115,116,114]=true∨bL l (k+2) [98,111,111,108]=true:=by
    cases aN:bL l (k+2) [105,110,116]
    ·cases bn:bL l (k+2) [115,116,114]
     ·cases cd:bL l (k+2) [98,111,111,108]
      ·rw [aN,bn,cd]at h;cases h
      ·exact Or.inr (Or.inr rfl)
     ·exact Or.inr (Or.inl rfl)
    ·exact Or.inl rfl
   have bO:k+2<l.length:=by rcases aq with aq|aq|aq<;>exact gV aq
   have hn:p.Name=(l.getD k default).Text:=by
    cases aN:bL l (k+2) [105,110,116]
    ·cases bn:bL l (k+2) [115,116,114]
     ·cases cd:bL l (k+2) [98,111,111,108]
      ·rw [aN,bn,cd]at h;cases h
      ·rw [aN,bn,cd]at h;simp only [arJ,arK,Sum.inl.injEq]at h;rw [←h]
     ·rw [aN,bn]at h;simp only [arJ,arK,Sum.inl.injEq]at h;rw [←h]
    ·rw [aN]at h;simp only [arJ,Sum.inl.injEq]at h;rw [←h]
   have e1:=h7 l k Z.1;have e2:eM l (k+2)=_:=h7 l (k+1) (by omega)
   have e3:eM l (k+3)=_:=h7 l (k+2) bO;rw [hn];exact⟨bO,by omega⟩
 ·cases h
def aby{l:List Token}{k e:Nat}(hk:k≤l.length)(h:oK l k = .inr e):e≤l.length:=by
 unfold oK at h;split at h
 ·rename_i Z;cases ab:bL l (k+1) [58]
  ·rw [ab]at h;simp only [arK,Sum.inr.injEq]at h;omega
  ·have:=gV ab
   rw [ab]at h;simp only [arJ]at h;cases aN:bL l (k+2) [105,110,116]
   ·cases bn:bL l (k+2) [115,116,114]
    ·cases cd:bL l (k+2) [98,111,111,108]
     ·rw [aN,bn,cd]at h;simp only [arK,Sum.inr.injEq]at h;omega
     ·rw [aN,bn,cd]at h;cases h
    ·rw [aN,bn]at h;cases h
   ·rw [aN]at h;cases h
 ·simp only [Sum.inr.injEq]at h;omega
section
variable {l:List Token}
theorem Ul(n k:Nat)(ae:l.length≤1000000000)(hk:k≤l.length):zH n ⟨l,(k:Int)⟩ =
 some (match oK l k with|.inl p=>.ret p ((k+3:Nat):Int)|.inr e=>.aK (mV l e (iD l e 5)) (e:Int)):=by
 unfold zH zG oK;rw [A7 n l k 1 ae hk];by_cases h:k<l.length∧(l.getD k default).Kind=1
 ·rw [if_pos h,if_pos h];generalize l.getD k default=t
  simp only [an,aC.on];rw [nR n l (k+1) _ (by omega) (by omega)]
  cases ab:bL l (k+1) [58]
  ·rfl
  ·have:=gV ab
   have hle:k+1+1≤4611686018427387904:=by omega
   simp only [arJ,an,aC.on,k6 n l (k+1+1) _ hle];cases aN:bL l (k+1+1) [105,110,116]
   ·simp only [arK,an,k6 n l (k+1+1) _ hle];cases bn:bL l (k+1+1) [115,116,114]
    ·simp only [arK,an,k6 n l (k+1+1) _ hle];cases cd:bL l (k+1+1) [98,111,111,108]
     ·simp only [arK,an,u3 n l (k+1+1) 5 (by omega),aC.on]
     ·rfl
    ·rfl
   ·rfl
 ·rw [if_neg h,if_neg h];rfl
def Bb(n:Nat)(l:List Token)(dM:Int→List Param→Option (List Param×Int×Int))(k:Nat)(acc:List Param):Option (List Param×Int×Int):=
 bif bL l k [41]then some (acc,((k+1:Nat):Int),0)else bif bL l k [44]then dM ((k+1:Nat):Int) acc else some ([],(k:Int),iD l k 5)
theorem Um{k:Nat}(h:k≤100000000000):room k 24=true:=by simp [room];omega
theorem abz(n k:Nat)(dM:Int→List Param→Option (List Param×Int×Int))(acc:List Param)(hn:3≤n)(ae:l.length≤1000000000)(hk:k≤l.length)(ha:acc.length≤1000000000):EW n l dM (k:Int) acc =
 match oK l k with|.inl p=>Bb n l dM (k+3) (acc++[p])|.inr e=>some ([],(e:Int),iD l e 5):=by
 unfold EW EV oK;rw [L8 n l k 1 ae hk];by_cases h:k<l.length∧(l.getD k default).Kind=1
 ·rw [if_pos h,if_pos h];generalize l.getD k default=t
  simp only [an,arH,arL,arK];rw [rz l (k+1) _ (by omega) (by omega)]
  cases ab:bL l (k+1) [58]
  ·simp only [arK,an,hX l (k+1),arI,arM,arJ]
  ·have:=gV ab
   simp only [arJ,an,arH,arL,arK,oH,A4,arN,arO,Um (show acc.length+(0+1)≤100000000000 by omega),a6]
   have fin:∀ty:Int,(Option.bind (kD n l (ar0 (((k+1+1:Nat):Int)+1)) [41]) λft=>
    bif ft then some ((acc++[(⟨t.Text,ty⟩:Param)]),(ar0 ((ar0 (((k+1+1:Nat):Int)+1))+1)),0)
    else Option.bind (kh n l (ar0 (((k+1+1:Nat):Int)+1)) [[44]]) λr26=>
     bif (!decide (r26.2=0))then some (([]:List Param),r26.1,r26.2)else dM r26.1 (acc++[(⟨t.Text,ty⟩:Param)]))=Bb n l dM (k+3) (acc++[⟨t.Text,ty⟩]):=by
    intro ty;unfold Bb;rw [bx (by omega),bx (by omega),oH,rz l (k+1+1+1) _ (by omega) (by omega)]
    simp only [an];cases bL l (k+1+1+1) [41]
    ·simp only [arK];cases bL l (k+1+1+1) [44]
     ·simp only [arK,hX l (k+1+1+1),arI,arM,arJ]
     ·rfl
    ·rfl
   cases aN:bL l (k+1+1) [105,110,116]
   ·simp only [arK,an];cases bn:bL l (k+1+1) [115,116,114]
    ·simp only [arK,an];cases cd:bL l (k+1+1) [98,111,111,108]
     ·rfl
     ·exact fin 3
    ·exact fin 2
   ·exact fin 1
 ·rw [if_neg h,if_neg h];simp only [an,hX l k,arI,arM,arJ]
end
open Go Go.Ab Go.Proofs
def f5:List Param→Nat
 |[]=>0
 |p::l=>60+p.Name.length+f5 l
def abA:∀l m:List Param,f5 (l++m)=f5 l+f5 m
 |[],m=>by simp [f5]
 |t::l,m=>by rw [List.cons_append,f5,f5,abA l m];omega
def xI:∀l:List Param,60*l.length≤f5 l
 |[]=>Nat.le_refl _
 |t::l=>by have:=xI l;simp only [f5,arN];omega
section
variable {l:List Token}
theorem amK(ae:hf l≤1000000000)(n1 n2 i:Nat)(b:Int)(t:Token)(ab:3≤n2):
 ∀(m1 m2 k:Nat) (acc:List Param),l.length-k<m1→l.length-k<m2→i<k→k≤l.length→f5 acc+eM l i≤eM l k→
 (∃bI k',uA n1 ⟨l,b⟩ t m1 (k:Int) acc=uz n1 ⟨l,b⟩ t ((k':Nat):Int) bI∧Bb n2 l (uL n2 l m2) k acc=some (bI,((k':Nat):Int),0)∧i<k'∧k'≤l.length∧f5 bI+eM l i≤eM l k')∨
 (∃k' c z bI,uA n1 ⟨l,b⟩ t m1 (k:Int) acc=some (.aK (mV l k' c) z)∧Bb n2 l (uL n2 l m2) k acc=some (bI,((k':Nat):Int),c)∧c≠0∧k'≤l.length):=by
 have oJ:=mJ l;have qT:eM l l.length=hf l:=by unfold eM;rw [List.take_length]
 intro m1;induction m1 with
 |zero=>intro m2 k acc h;omega
 |succ m1 aR=>
  intro m2 k acc abm TW q9 hk ha;obtain⟨m2,rfl⟩:∃j,m2=j+1:=⟨m2-1,by omega⟩
  have amm:=u4 l k l.length hk;have uZ:=xI acc;unfold Bb;simp only [uA,Jw,Jv,uL];rw [k6 n1 l k _ (by omega)]
  simp only [an];cases abB:bL l k [44]
  ·simp only [arK];rw [nR n1 l k _ (by omega) (by omega)]
   cases Un:bL l k [41]
   ·right
    exact⟨k,_,_,_,rfl,rfl,hX l k,hk⟩
   ·have bO:=gV Un;have jj:=h7 l k bO;left
    exact⟨acc,k+1,rfl,rfl,by omega,by omega,by omega⟩
  ·have bO:=gV abB;have jj:=h7 l k bO;rw [FM abB (w:=[41]) (by decide)]
   simp only [arJ,arK];rw [Ul n1 (k+1) (by omega) (by omega),abz n2 (k+1) _ acc ab (by omega) (by omega) (by omega)]
   cases hp:oK l (k+1) with
   |inl p=>
    obtain⟨aq,aN⟩:=abx hp;simp only [an,aC.on,arN,arO,Um (show acc.length+(0+1)≤100000000000 by omega),a6]
    exact aR m2 (k+1+3) (acc++[p]) (by omega) (by omega) (by omega) (by omega) (by rw [abA];simp only [f5];omega)
   |inr e=>
    have:=aby (l:=l) (k:=k+1) (by omega) hp
    right
    exact⟨e,_,_,_,rfl,rfl,hX l e,this⟩
def s9(p:a_):Nat:=p.Name.length+f5 p.Params+dP p.Body
theorem abC(ae:hf l≤1000000000)(hg:kF l){i k n1 n2:Nat}(b:Int)(t:Token)(bI:List Param)(q9:i<k)(hk:k≤l.length)(Z:60*l.length+300≤n1)(ab:60*l.length+300≤n2)(hw:t.Text.length+f5 bI+eM l i≤eM l k):
 hM s9 l i (uz n1 ⟨l,b⟩ t (k:Int) bI) (Option.bind (mh n2 l (k:Int) 0) λb7=>some ((⟨t.Text,bI,b7.1⟩:a_),b7.2.1,b7.2.2)):=by
 have oJ:=mJ l;unfold uz;have eR:=(Uk ae hg (2*l.length+2)).1 k 0 n1 n2 hk (by omega) (by omega) (by omega) (by omega)
 refine u6 (F:=λa b=>some (.ret (⟨t.Text,bI,a⟩:a_) b)) eR (λa k' kG fe jB=>?_) (λa k c hc=>⟨_,rfl⟩)
 refine Or.inl ⟨⟨t.Text,bI,a⟩,k',rfl,rfl,by omega,fe,?_⟩
 have jB:dP a+120+eM l k≤eM l k':=jB;simp only [s9];omega
theorem abD(ae:hf l≤1000000000)(hg:kF l){i n1 n2:Nat}(hi:i≤l.length)(Z:60*l.length+300≤n1)(ab:60*l.length+300≤n2):
 hM s9 l i (ro n1 ⟨l,(i:Int)⟩) (AD n2 l (i:Int)):=by
 have oJ:=mJ l;have qT:eM l l.length=hf l:=by unfold eM;rw [List.take_length]
 unfold ro AD;refine A8 (by omega) hi (by omega) (λaL bO jj=>?_) (λk c hc=>⟨_,by simp only [hc,arI,arM,arJ];rfl⟩)
 simp only [arH,arL,arK];refine T9 (by omega) (by omega) (λA' A6=>?_) (λt k c hc=>⟨_,by simp only [hc,arI,arM,arJ];rfl⟩)
 generalize l.getD (i+1) default=t at A6
 simp only [arH,arL,arK];refine A8 (by omega) (by omega) (by omega) (λabE amy T7=>?_) (λk c hc=>⟨_,by simp only [hc,arI,arM,arJ];rfl⟩)
 simp only [arH,arL,arK];generalize hj:i+1+1+1=j at T7
 unfold S';rw [k6 n1 l j _ (by omega),oH,bx (by omega)]
 simp only [an];cases Un:bL l j [41]
 ·simp only [arM,arJ,arK]
  have fc:uL n2 l n2=EW n2 l (uL n2 l (n2-1)):=by
   obtain⟨m,rfl⟩:∃m,n2=m+1:=⟨n2-1,by omega⟩
   rfl
  rw [fc,Ul n1 j (by omega) (by omega),abz n2 j _ [] (by omega) (by omega) (by omega) (by simp)]
  cases hp:oK l j with
  |inl p=>
   obtain⟨aq,aN⟩:=abx hp;simp only [an,aC.on,arN,arO,Um (show 0+(0+1)≤100000000000 by omega),a6,List.nil_append]
   have abF:f5 [p]+eM l (i+1+1)≤eM l (j+3):=by
    have:=u4 l (i+1+1) j (by omega)
    simp only [f5];omega
   rcases amK ae n1 n2 (i+1+1) (i:Int) t (by omega) n1 (n2-1) (j+3) [p] (by omega) (by omega) (by omega) (by omega) abF with⟨bI,k',e1,e2,kG,fe,jB⟩|⟨k',c,z,bI,e1,e2,hc,lk⟩
   ·rw [e1,e2];simp only [an,arH,arL,arK];exact abC ae hg (i:Int) t bI (by omega) fe Z ab (by omega)
   ·rw [e1,e2];simp only [an,hc,arI,arM,arJ];exact Or.inr ⟨k',c,_,_,rfl,rfl,hc,lk⟩
  |inr e=>
   have:=aby (l:=l) (k:=j) (by omega) hp
   simp only [an,aC.on,hX l e,arI,arM,arJ];exact Or.inr ⟨e,_,_,_,rfl,rfl,hX l e,this⟩
 ·have Uj:=gV Un;have amA:=h7 l j Uj;simp only [arL,arJ,arK,an,arH];exact abC ae hg (i:Int) t [] (by omega) (by omega) Z ab (by simp only [f5];omega)
end
open Go Go.Ab Go.Proofs
mutual
def hh:Expr→Int→Int
 |⟨Op,N,S,au⟩,d=>if ps ⟨Op,N,S,au⟩ d=0 then s' au (ar0 (d+1))else ps ⟨Op,N,S,au⟩ d
def s':List Expr→Int→Int
 |[],d=>0
 |x::l,d=>if hh x d=0 then s' l d else hh x d
end
def abG(e:Expr)(d:Int):hh e d=if ps e d=0 then s' e.au (ar0 (d+1))else ps e d:=by cases e;rfl
def abH:∀(n:Nat) (e:Expr) (d:Int),cJ e≤n→cJ e≤140737488351232→y8 n e d=some (hh e d)∧Ad n e d=some (hh e d):=by
 intro n;induction n with
 |zero=>intro e d h;rw [qr]at h;omega
 |succ n aR=>
  intro e d h ae;have uY:=qr e;have uZ:=FC e.au;simp only [y8,Ad,PJ,R'];rw [ala e d (by omega) (by omega),alb e d (by omega) (by omega) (by omega),abG]
  simp only [an];by_cases h0:ps e d=0
  ·rw [if_pos h0];simp only [h0,arH,arL,arK]
   have hr:∀m i,e.au.length<i+m→i≤e.au.length→CV n (y8 n) d e m (i:Int)=some (s' (e.au.drop i) (ar0 (d+1)))∧Ej n (Ad n) d e m (i:Int)=some (s' (e.au.drop i) (ar0 (d+1))):=by
    intro m;induction m with
    |zero=>intro i Z ab;omega
    |succ m jO=>
     intro i Z ab;simp only [CV,PI,PH,Ej,R9,R8];by_cases hi:i<e.au.length
     ·have hg:=FD e.au i hi;obtain⟨jG,jH⟩:=aR (e.au.getD i default) (ar0 (d+1)) (by omega) (by omega)
      obtain⟨amL,FG⟩:=jO (i+1) (by omega) (by omega)
      (rw [fz e.au i default hi,bx (by omega)];simp only [arP];rw [jG,jH,amL,FG])
      simp only [hi,cm hi,arQ,arH,arJ,a6,an,s'];by_cases ai:hh (e.au.getD i default) (ar0 (d+1))=0
      ·simp only [ai,arH,arL,arK,arW,and_self]
      ·simp only [ai,arI,arM,arJ,arX,and_self]
     ·rw [g' e.au i hi];simp only [hi,arQ,arI,arK,s',and_self]
   exact hr n 0 (by omega) (by omega)
  ·rw [if_neg h0];simp only [h0,arI,arM,arJ,and_self]
def abI{n:Nat}(e:Expr)(h:cJ e≤n)(ae:cJ e≤140737488351232):CW n e=some (hh e 1):=by
 simp only [CW,(abH n e 1 h ae).1,an]
def abJ{n:Nat}(e:Expr)(h:cJ e≤n)(ae:cJ e≤140737488351232):Ek n e=some (hh e 1):=by
 simp only [Ek,(abH n e 1 h ae).2,an]
def nc(e:Expr):Bool:=decide (e.Op=0)&&decide (e.N=0)&&decide (e.S=[])&&decide (e.au.length=0)
def abK(n:Nat)(e:Expr):y9 n e=some (nc e):=by
 simp only [y9,nc,dV,fA]
def abL(n:Nat)(e:Expr):sP n e=some (nc e):=by
 simp only [sP,nc,dV,fA]
def km(op:Int):lr×Bool:=
 if op=1∨op=2 then(⟨true,true,false,false,false,false⟩,true)
 else if op=3 then(⟨false,true,true,false,false,false⟩,true)
 else if op=4∨op=7 then(⟨false,true,false,false,false,false⟩,true)
 else if op=5 then(⟨false,true,false,false,true,true⟩,true)
 else if op=6 then(⟨true,true,true,true,true,false⟩,true)
 else if op=8 then(⟨false,false,false,true,false,false⟩,true)
 else(⟨false,false,false,false,false,false⟩,false)
def amM(n:Nat)(op:Int):Ic n op=some (km op):=by
 by_cases h:1≤op∧op≤8
 ·obtain rfl|rfl|rfl|rfl|rfl|rfl|rfl|rfl:op=1∨op=2∨op=3∨op=4∨op=5∨op=6∨op=7∨op=8:=by omega
  all_goals rfl
 ·have e:km op=(⟨false,false,false,false,false,false⟩,false):=by
   unfold km;rw [if_neg (by omega),if_neg (by omega),if_neg (by omega),if_neg (by omega),if_neg (by omega),if_neg (by omega)]
  rw [e];simp only [Ic,Ib,Ia,PK,show¬ op=1 by omega,show¬ op=2 by omega,show¬ op=3 by omega,show¬ op=4 by omega,show¬ op=5 by omega,show¬ op=6 by omega,show¬ op=7 by omega,show¬ op=8 by omega,arI,arK]
def amN(n:Nat)(op:Int)(h:1≤op∧op≤8):El n op=some ((km op).1.name,(km op).1.max,(km op).1.a,(km op).1.b,(km op).1.body,(km op).1.other):=by
 obtain rfl|rfl|rfl|rfl|rfl|rfl|rfl|rfl:op=1∨op=2∨op=3∨op=4∨op=5∨op=6∨op=7∨op=8:=by omega
 all_goals rfl
def amO(n:Nat)(op:Int)(h:¬ (1≤op∧op≤8)):El n op=some (false,true,false,false,false,false):=by
 simp only [El,Kg,Kf,R_,show¬ op=1 by omega,show¬ op=2 by omega,show¬ op=3 by omega,show¬ op=4 by omega,show¬ op=5 by omega,show¬ op=6 by omega,show¬ op=7 by omega,arI,arK]
def Bc(s:Stmt)(u:lr):Bool:=
 (!u.name && !decide (s.Name=[]))||(!u.a && !nc s.A)||(!u.b && !nc s.B)||(!u.max && !decide (s.Max=0))||(!u.body&&decide (0<s.Body.length))||(!u.other&&decide (0<s.bK.length))
def rA(s:Stmt):Bool:=if s.Op=6 then decide (1≤s.Max)&&decide (s.Max≤16)else if s.Op=8 then decide (0≤s.Max)&&decide (s.Max≤999)else true
def kH(s:Stmt)(d:Int):Int:=
 if(km s.Op).2=false∨Bc s (km s.Op).1=true∨rA s=false then 1
 else if(km s.Op).1.name=true∧g_ s.Name=false then 7
 else if(km s.Op).1.a=true∧hh s.A 1≠0 then hh s.A 1
 else if(km s.Op).1.b=true∧hh s.B 1≠0 then hh s.B 1
 else if 12<d then 2 else 0
end Go.Ab.Y

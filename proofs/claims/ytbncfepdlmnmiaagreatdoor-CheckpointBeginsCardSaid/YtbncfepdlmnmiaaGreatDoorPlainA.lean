/- The plain law: what the functions compute answers as the statement says. -/
import Derived.Lib.ItoaNum
import Derived.Test.YtbncfepdlmnmiaaGreatDoorCtrB
set_option linter.all false
namespace Go.Ab.Y
open Go Go.Ab Go.Proofs
def avM{h:Decidable True}:@decide True h=true:=_root_.decide_true h
def avN{h:Decidable False}:@decide False h=false:=_root_.decide_false h
def avU:(∀n:Nat,(n:Int).toNat=n)∧∀(α:Type)(_:Inhabited α)(l:List α)(n:Nat),av6 l n=l.getD n default:=⟨λ_=>rfl,λ_ _ _ _=>rfl⟩
def avO{α:Type}{a b:α}:cond true a b=a:=rfl
def avP{α:Type}{a b:α}:cond false a b=b:=rfl
def avQ:(!true)=false:=rfl
def avR:(!false)=true:=rfl
def avS{α:Type}{a:α}{l:List α}:(a::l).length=l.length+1:=rfl
def avT{α:Type}:([]:List α).length=0:=rfl
def avV{a b:Nat}:((a:Int)<b)↔a<b:=_root_.Int.ofNat_lt
def avW{α:Type}{a b:List α}:(a++b).length=a.length+b.length:=_root_.List.length_append
def avX{α:Type}{a:α}:[a].length=1:=rfl
def avY{α:Type}{b:Bool}{x y:α}:cond b x y=if b then x else y:=_root_.Bool.cond_eq_ite b x y
def avZ(a:Int):¬a<a:=_root_.Int.lt_irrefl a
def av0(a:Bool):(a||true)=true:=_root_.Bool.or_true a
def av1{α:Type}{a b:α}{h:Decidable True}:@ite α True h a b=a:=_root_.if_true a b
def av2{α:Type}{a b:α}{h:Decidable False}:@ite α False h a b=b:=_root_.if_false a b
def wr{x:Int}(Z : -9223372036854775808≤x)(ab:x≤9223372036854775807):av5 x=x:=by(try unfold av5);rw [IntKind.wrap_i64];omega
def eb{i:Nat}(h:i≤4611686018427387904):av5 ((i:Int)+1)=((i+1:Nat):Int):=by rw [wr]<;>omega
def cR{i:Nat}(h:i≤9223372036854775806):av5 ((i:Int)+1)=((i+1:Nat):Int):=by rw [wr]<;>omega
def b1{i n:Nat}(h:i<n):aM (i:Int) n=true:=by simp [aM];omega
def mi{n:Nat}(h:0<n):aM 0 n=true:=by simp [aM];omega
def xw{i n:Nat}(h:i≤n):gV (i:Int) n=true:=by simp [gV];omega
def Fp{i j n:Nat}(h:i≤j)(ab:j≤n):l5 (i:Int) (j:Int) n=true:=by simp [l5];omega
@[simp] def aT {α : Type} (x : Option α) : ay true x = x := rfl
def fo{α:Type}(l:List α)(i:Nat)(d:α)(h:i<l.length):l.drop i=l.getD i d::l.drop (i+1):=by
 rw [List.drop_eq_getElem_cons h];simp [List.getD,h]
def gE{α:Type}(l:List α)(i:Nat)(h:¬ i<l.length):l.drop i=[]:=List.drop_of_length_le (by omega)
def ps(a k:Nat):((a:Int)<(no_index (OfNat.ofNat k):Int))↔a<k:=Int.ofNat_lt
def lR(a k:Nat):((a:Int)≤(no_index (OfNat.ofNat k):Int))↔a≤k:=Int.ofNat_le
def fp(a k:Nat):((no_index (OfNat.ofNat k):Int)<(a:Int))↔k<a:=Int.ofNat_lt
def s'(a k:Nat):((no_index (OfNat.ofNat k):Int)≤(a:Int))↔k≤a:=Int.ofNat_le
def fx(a k:Nat):((a:Int)=(no_index (OfNat.ofNat k):Int))↔a=k:=Int.ofNat_inj
def dH(a b:Bool):(bif a then true else b)=(a||b):=by cases a<;>rfl
def el(a b:Bool):(bif a then b else false)=(a&&b):=by cases a<;>rfl
def an{α β:Type}(a:α)(f:α→Option β):Option.bind (some a) f=f a:=rfl
def okB(c:UInt8):Bool:=decide (32≤c.toNat)&&decide (c.toNat≤126)
def jv(s:av3):Bool:=s.all okB&&decide (s.length≤64)
def A5(c:UInt8):(decide (c.toNat<32)||decide (126<c.toNat)) = !okB c:=by
 unfold okB;by_cases h:c.toNat<32
 ·simp [h]
 ·by_cases ab:c.toNat≤126
  ·simp [ab,show 32≤c.toNat by omega,h]
  ·simp [ab];omega
def anj(n:Nat)(s:av3)(hs:s.length≤9223372036854775807):∀m i,s.length<i+m→i≤s.length→y8 n s m (i:Int)=some ((s.drop i).all okB&&decide (s.length≤64)):=by
 intro m;induction m with
 |zero=>intro i h ab;omega
 |succ m aJ=>
  intro i hm hi;simp only [y8,PN,PM];by_cases h:i<s.length
  ·rw [fo s i 0 h,cR (by omega),aJ (i+1) (by omega) (by omega)]
   simp only [h,b1 h,avU,avV,avM,avO,aT,av0,List.all_cons,ps,fp,dH,A5];cases okB (s.getD i 0)<;>simp
  ·rw [gE s i h];simp [h,lR]
def acs{n:Nat}{s:av3}(h:s.length<n)(hs:s.length≤9223372036854775807):PO n s=some (jv s):=anj n s hs n 0 (by omega) (by omega)
def ank(n:Nat)(s:av3)(hs:s.length≤9223372036854775807):∀m i,s.length<i+m→i≤s.length→EB n s m (i:Int)=some ((s.drop i).all okB):=by
 intro m;induction m with
 |zero=>intro i h ab;omega
 |succ m aJ=>
  intro i hm hi;simp only [EB,SY,SX];by_cases h:i<s.length
  ·rw [fo s i 0 h,cR (by omega),aJ (i+1) (by omega) (by omega)]
   simp only [h,b1 h,avU,avV,avM,avO,aT,av0,List.all_cons,ps,fp,dH,A5];cases okB (s.getD i 0)<;>simp
  ·rw [gE s i h];simp [h,lR]
def anl{n:Nat}{s:av3}(h:s.length<n)(hs:s.length≤9223372036854775807):KJ n s=some (jv s):=by
 unfold KJ;rw [show(0:Int)=((0:Nat):Int)from rfl,ank n s hs n 0 (by omega) (by omega)]
 unfold jv;simp only [List.drop_zero,fp];by_cases h:64<s.length
 ·simp [h]
 ·simp [h];omega
def pt:List av3:=[[112,114,111,99],[108,101,116],[112,117,116],[100,101,108,101,116,101],[105,102],[101,108,115,101],[102,111,114],[116,111],[109,97,120],[101,109,105,116],[97,98,111,114,116],[110,111,116],[97,110,100],[111,114],[105,110,116],[115,116,114],[98,111,111,108],[116,101,120,116],[108,101,110],[103,101,116,105,110,116],[103,101,116,115,116,114],[104,97,115],[110,111,119],[114,97,110,100,111,109],[110,111,100,101]]
def s_(s:av3):Bool:=decide (s∈pt)
def act(n:Nat)(s:av3):C2 n s=some (s_ s):=by
 unfold s_;by_cases h:s∈pt
 ·simp only [h,avM];simp only [pt,List.mem_cons,List.not_mem_nil,or_false]at h;rcases h with rfl|rfl|rfl|rfl|rfl|rfl|rfl|rfl|rfl|rfl|rfl|rfl|rfl|rfl|rfl|rfl|rfl|rfl|rfl|rfl|rfl|rfl|rfl|rfl|rfl<;>rfl
 ·simp only [h,avN];simp only [pt,List.mem_cons,List.not_mem_nil,or_false,not_or]at h;simp only [C2,ix,Po,h,avN,avP]
def anm(n:Nat)(l:List av3)(s:av3)(hs:l.length≤4611686018427387904):∀m i,l.length<i+m→i≤l.length→Ev n l s m (i:Int)=some (decide (s∈l.drop i)):=by
 intro m;induction m with
 |zero=>intro i h ab;omega
 |succ m aJ=>
  intro i hm hi;simp only [Ev,SF,SE];by_cases h:i<l.length
  ·rw [fo l i default h,eb (by omega),aJ (i+1) (by omega) (by omega)]
   simp only [h,b1 h,avU,avV,avM,avO,aT,List.mem_cons];by_cases he:l.getD i default=s
   ·simp only [he,avM,avO,true_or]
   ·simp only [he,avN,avP,show¬ s=l.getD i default from λx=>he x.symm,false_or]
  ·rw [gE l i h];simp [h]
def ann(n:Nat):SD n=some pt:=rfl
def ano{n:Nat}(l:List av3)(s:av3)(h:l.length<n)(hs:l.length≤4611686018427387904):SG n l s=some (decide (s∈l)):=anm n l s hs n 0 (by omega) (by omega)
def acu{n:Nat}(s:av3)(h:25<n):Ew n s=some (s_ s):=by
 unfold Ew;simp only [ann,an];rw [ano pt s (by show 25<_;omega) (by decide)]
 rfl
def lS(c:UInt8):Bool:=decide (97≤c.toNat)&&decide (c.toNat≤122)
def Ug(n:Nat)(c:UInt8):AC n ((c.toNat:Nat):Int)=some (lS c):=by
 simp only [AC,el,s',lR,lS]
def anp{x:Nat}(h:x<256):IntKind.i32.wrap (x:Int)=x:=by rw [IntKind.wrap_i32];omega
def acv(n:Nat)(c:UInt8):C3 n (IntKind.i32.wrap ((c.toNat:Nat):Int))=some (lS c):=by
 rw [anp c.toNat_lt];simp only [C3,el,s',lR,lS]
def acw(n:Nat)(c:UInt8):Ex n ((c.toNat:Nat):Int)=some (fS c):=by
 simp only [Ex,Ug,an,SH,el,dH,s',lR,fx];unfold fS lS;by_cases h:97≤c.toNat∧c.toNat≤122
 ·simp [h.1,h.2]
 ·have:(decide (97≤c.toNat)&&decide (c.toNat≤122))=false:=by simpa using h
  rw [this];simp only [avR,avO,an,Bool.false_or,h,false_or,Bool.decide_or,Bool.decide_and]
def LL(s:av3):hH s≤s.length:=by unfold hH;exact(List.takeWhile_prefix _).length_le
def uM(c:UInt8)(s:av3):hH (c::s)=bif fS c then hH s+1 else 0:=by
 unfold hH;cases h:fS c<;>simp [List.takeWhile,h]
def anq(n:Nat)(s:av3)(hs:s.length≤4611686018427387904):∀m i,s.length<i+m→i≤s.length→Ey n s m (i:Int)=some (((i+hH (s.drop i):Nat):Int)):=by
 intro m;induction m with
 |zero=>intro i h ab;omega
 |succ m aJ=>
  intro i hm hi;simp only [Ey,SJ,SI];by_cases h:i<s.length
  ·rw [fo s i 0 h,eb (by omega),aJ (i+1) (by omega) (by omega)]
   simp only [h,b1 h,avU,avV,avM,avO,aT,av0,acw,an,uM];cases fS (s.getD i 0)
   ·rfl
   ·simp only [avO,Option.some.injEq];omega
  ·rw [gE s i h];simp [h,hH]
def acx{n:Nat}{s:av3}(i:Nat)(h:s.length<n)(hi:i≤s.length)(hs:s.length≤4611686018427387904):KF n s (i:Int)=some (((i+hH (s.drop i):Nat):Int)):=anq n s hs n i (by omega) hi
def gy(s:av3):Bool:=
 match s with
 |[]=>false
 |c::l=>decide (l.length≤15)&&lS c&&decide (hH (c::l)=l.length+1) && !s_ (c::l)
def A6{n:Nat}(s:av3)(h:s.length<n)(ab:25<n)(hs:s.length≤4611686018427387904):sX n s=some (gy s):=by
 unfold sX;cases s with
 |nil=>rfl
 |cons c l=>
  simp only [acu _ ab,el,s',lR,avS,show 1≤l.length+1 by omega,avM,Bool.true_and,mi (show 0<l.length+1 by omega),av0,aT,List.getD_cons_zero,Ug]
  rw [show(0:Int)=((0:Nat):Int)from rfl,acx 0 h (by omega) hs]
  simp only [List.drop_zero,Nat.zero_add,gy,Int.ofNat_inj,show(l.length+1≤16)=(l.length≤15)by rw [eq_iff_iff];omega]
  cases decide (l.length≤15)<;>simp only [Bool.false_and,avP,an,Bool.true_and,avO]
  cases lS c<;>simp only [Bool.false_and,avP,an,Bool.true_and,avO,Int.ofNat_inj]
  cases decide (hH (c::l)=l.length+1)<;>simp only [Bool.false_and,avP,an,Bool.true_and,avO]
def acy(n:Nat)(s:av3)(h:s.length≤140737488351232):yS n s=some ((hH s:Nat):Int):=by
 unfold yS;simp only [h,avM,aT]
def A7(n:Nat)(s:av3)(h:s.length≤140737488351232):sI n s=some (gy s):=by
 unfold sI;cases s with
 |nil=>rfl
 |cons c l=>
  simp only [act,el,s',lR,avS,reduceCtorEq,avN,avR,Bool.true_and,mi (show 0<l.length+1 by omega),av0,aT,List.getD_cons_zero,acv,acy _ _ h]
  simp only [gy,Int.ofNat_inj,show(l.length+1≤16)=(l.length≤15)by rw [eq_iff_iff];omega]
  cases decide (l.length≤15)<;>simp only [Bool.false_and,avP,an,Bool.true_and,avO]
  cases lS c<;>simp only [Bool.false_and,avP,an,Bool.true_and,avO,Int.ofNat_inj]
  cases decide (hH (c::l)=l.length+1)<;>simp only [Bool.false_and,avP,an,Bool.true_and,avO]
def jJ(op:Int):Int:=bif decide (op<1)||decide (27<op)then -1 else bif decide (op≤3)||decide (25≤op)then 0 else bif decide (op=9)||decide (op=18)||decide (20≤op)then 1 else 2
def anr(n:Nat)(op:Int):H6 n op=some (jJ op):=by
 simp only [H6,jJ,dH];cases decide (op<1)||decide (27<op)<;>simp only [avO,avP]
 cases decide (op≤3)||decide (25≤op)<;>simp only [avO,avP]
 cases decide (op=9)||decide (op=18)||decide (20≤op)<;>rfl
def ans(n:Nat)(op:Int):EA n op=some (jJ op):=by
 by_cases h:1≤op∧op≤27
 ·obtain rfl|rfl|rfl|rfl|rfl|rfl|rfl|rfl|rfl|rfl|rfl|rfl|rfl|rfl|rfl|rfl|rfl|rfl|rfl|rfl|rfl|rfl|rfl|rfl|rfl|rfl|rfl:op=1∨op=2∨op=3∨op=4∨op=5∨op=6∨op=7∨op=8∨op=9∨op=10∨op=11∨op=12∨op=13∨op=14∨op=15∨op=16∨op=17∨op=18∨op=19∨op=20∨op=21∨op=22∨op=23∨op=24∨op=25∨op=26∨op=27:=by omega
  all_goals rfl
 ·have ha:jJ op = -1:=by
   unfold jJ;by_cases Z:op<1
   ·simp [Z]
   ·simp [show 27<op by omega]
  have hb:(decide (4≤op)&&decide (op≤19))=false:=by
   by_cases Z:4≤op
   ·simp [Z];omega
   ·simp [Z]
  simp only [EA,uB,s0,SW,el,hb,ha,show¬ op=1 by omega,show¬ op=2 by omega,show¬ op=3 by omega,show¬ op=25 by omega,show¬ op=26 by omega,show¬ op=27 by omega,show¬ op=9 by omega,show¬ op=18 by omega,show¬ op=20 by omega,show¬ op=21 by omega,show¬ op=22 by omega,show¬ op=23 by omega,show¬ op=24 by omega,avN,avP]
def pu(e:Expr)(depth:Int):Int:=
 if jJ e.Op<0∨(e.Op≠1∧e.N≠0)∨(e.Op≠2∧e.Op≠3∧e.S≠[])then 1
 else if e.Op=3∧gy e.S=false then 7
 else if e.N<0∨(e.Op=2∧jv e.S=false)∨(e.ax.length:Int)≠jJ e.Op then 1
 else if 12<depth then 2 else 0
def ant{n:Nat}(e:Expr)(depth:Int)(h:e.S.length<n)(hs:e.S.length≤140737488351232):H7 n e depth=some (pu e depth):=by
 obtain⟨Op,N,S,ax⟩:=e;simp only at h hs
 simp only [H7,anr,an,A7 _ _ hs,acs h (by omega),pu]
 by_cases Z:jJ Op<0
 ·simp [Z]
 by_cases ab:Op=1
 ·subst ab;by_cases aX:S=[]
  ·by_cases bW:N<0
   ·simp [Z,aX,bW]
   ·by_cases cZ:(ax.length:Int)=jJ 1
    ·by_cases dr:12<depth<;>simp [Z,aX,bW,cZ,dr]
    ·simp [Z,aX,bW,cZ]
  ·simp [Z,aX]
 ·by_cases aj:N=0
  ·by_cases aD:Op=3
   ·subst aD;cases hn:gy S
    ·simp [Z,aj,hn]
    ·by_cases cZ:(ax.length:Int)=jJ 3
     ·by_cases dr:12<depth<;>simp [Z,aj,hn,cZ,dr]
     ·simp [Z,aj,hn,cZ]
   ·by_cases aX:Op=2
    ·subst aX;cases hn:jv S
     ·simp [Z,aj,hn]
     ·by_cases cZ:(ax.length:Int)=jJ 2
      ·by_cases dr:12<depth<;>simp [Z,aj,hn,cZ,dr]
      ·simp [Z,aj,hn,cZ]
    ·by_cases bW:S=[]
     ·by_cases cZ:(ax.length:Int)=jJ Op
      ·by_cases dr:12<depth<;>simp [Z,ab,aj,aD,aX,bW,cZ,dr]
      ·simp [Z,ab,aj,aD,aX,bW,cZ]
     ·simp [Z,ab,aj,aD,aX,bW]
  ·simp [Z,ab,aj]
def anu{n:Nat}(e:Expr)(depth:Int)(h:e.S.length<n)(ab:25<n)(hs:e.S.length≤140737488351232):KK n e depth=some (pu e depth):=by
 obtain⟨Op,N,S,ax⟩:=e;simp only at h hs
 simp only [KK,ans,an,A6 S h ab (by omega),anl h (by omega),pu]
 clear ab;by_cases Z:jJ Op<0
 ·simp [Z]
 by_cases ab:Op=1
 ·subst ab;by_cases aX:S=[]
  ·by_cases bW:N<0
   ·simp [Z,aX,bW]
   ·by_cases cZ:(ax.length:Int)=jJ 1
    ·by_cases dr:12<depth<;>simp [Z,aX,bW,cZ,dr]
    ·simp [Z,aX,bW,cZ]
  ·simp [Z,aX]
 ·by_cases aj:N=0
  ·by_cases aD:Op=3
   ·subst aD;cases hn:gy S
    ·simp [Z,aj,hn]
    ·by_cases cZ:(ax.length:Int)=jJ 3
     ·by_cases dr:12<depth<;>simp [Z,aj,hn,cZ,dr]
     ·simp [Z,aj,hn,cZ]
   ·by_cases aX:Op=2
    ·subst aX;cases hn:jv S
     ·simp [Z,aj,hn]
     ·by_cases cZ:(ax.length:Int)=jJ 2
      ·by_cases dr:12<depth<;>simp [Z,aj,hn,cZ,dr]
      ·simp [Z,aj,hn,cZ]
    ·by_cases bW:S=[]
     ·by_cases cZ:(ax.length:Int)=jJ Op
      ·by_cases dr:12<depth<;>simp [Z,ab,aj,aD,aX,bW,cZ,dr]
      ·simp [Z,ab,aj,aD,aX,bW,cZ]
     ·simp [Z,ab,aj,aD,aX,bW]
  ·simp [Z,ab,aj]
mutual
def di:Expr→Nat
 |⟨_,_,S,ax⟩=>30+S.length+mE ax
def mE:List Expr→Nat
 |[]=>0
 |x::l=>di x+1+mE l
end
def qo(e:Expr):di e=30+e.S.length+mE e.ax:=by cases e;rfl
def Fq:∀l:List Expr,l.length≤mE l
 |[]=>Nat.le_refl _
 |x::l=>by have:=Fq l;simp only [mE,avS];omega
def Fr:∀(l:List Expr) (i:Nat),i<l.length→di (l.getD i default)<mE l
 |[],i,h=>by simp at h
 |x::l,0,h=>by simp only [mE,List.getD_cons_zero];omega
 |x::l,i+1,h=>by have:=Fr l i (by simpa using h);simp only [mE,List.getD_cons_succ];omega
def acz:∀(n:Nat) (e:Expr),di e≤n→di e≤140737488351232→xe n e e=some true:=by
 intro n;induction n with
 |zero=>intro e h;rw [qo]at h;omega
 |succ n aJ=>
  intro e h aa;have uN:=qo e;have uO:=Fq e.ax;simp only [xe,R_,avM,avQ,avP]
  have gS:∀m i,e.ax.length<i+m→i≤e.ax.length→Em n (xe n) e e m (i:Int)=some true:=by
   intro m;induction m with
   |zero=>intro i Z ab;omega
   |succ m li=>
    intro i Z ab;simp only [Em,R',R9];by_cases hi:i<e.ax.length
    ·have hg:=Fr e.ax i hi;simp only [hi,b1 hi,avU,avV,avM,avO,aT,aJ (e.ax.getD i default) (by omega) (by omega),an,eb (show i≤4611686018427387904 by omega),avQ,avP]
     exact li (i+1) (by omega) (by omega)
    ·simp only [hi,avV,avN,avP]
  exact gS n 0 (by omega) (by omega)
open Go Go.Ab Go.Proofs
def iA(c:UInt8):Bool:=decide (48≤c.toNat)&&decide (c.toNat≤57)
def val(u:Nat)(l:av3):Nat:=l.foldl (λu c=>u*10+(c.toNat-48)) u
def Fs(u:Nat):val u []=u:=rfl
def Ft(u:Nat)(c:UInt8)(l:av3):val u (c::l)=val (u*10+(c.toNat-48)) l:=by unfold val;rw [List.foldl_cons]
def acA(l:av3):∀(u:Nat),u≤val u l:=by
 induction l with
 |nil=>intro u;simp only [Fs,Nat.le_refl]
 |cons c l aJ=>
  intro u;rw [Ft];have Z:u≤u*10+(c.toNat-48):=by omega
  exact Nat.le_trans Z (aJ _)
def qp(c:UInt8):iA c=true↔48≤c.toNat∧c.toNat≤57:=by simp [iA]
def anv(l:av3):∀u,l.all iA=true→Lib.parseUintM 18446744073709551615 u l=(if val u l≤18446744073709551615 then .ok (val u l)else .range)∨18446744073709551615<u:=by
 induction l with
 |nil=>
  intro u _;by_cases h:u≤18446744073709551615
  ·left;rw [Fs,if_pos h];rfl
  ·right;omega
 |cons c l aJ=>
  intro u h;simp only [List.all_cons,Bool.and_eq_true,qp]at h;left
  rw [Ft];simp only [Lib.parseUintM,h.1,and_self,av1];have hg:=acA l (u*10+(c.toNat-48));have pw:=aJ (u*10+(c.toNat-48)) h.2;generalize val (u*10+(c.toNat-48)) l=w at hg pw ⊢
  by_cases Z:1844674407370955162≤u
  ·rw [if_pos Z,if_neg (by omega)]
  ·rw [if_neg Z];by_cases ab:18446744073709551615<u*10+(c.toNat-48)
   ·rw [if_pos ab,if_neg (by omega)]
   ·rw [if_neg ab];rcases pw with aj|aj
    ·exact aj
    ·exact absurd aj ab
def nT(w:av3):Int×Int:=
 if w.all iA=true∧(w.head? ≠ some 48∨w.length=1) then
  if val 0 w≤9223372036854775807 then(((val 0 w:Nat):Int),0) else(0,3)
 else(0,5)
def acB(c:UInt8)(l:av3)(h:(c::l).all iA=true):CZ (c::l)=if val 0 (c::l)≤9223372036854775807 then .inl (val 0 (c::l):Nat)else .inr 9223372036854775807:=by
 have hc:48≤c.toNat∧c.toNat≤57:=by
  simp only [List.all_cons,Bool.and_eq_true,qp]at h;exact h.1
 have Z:Lib.parseIntB 64 (c::l)=_:=Lib.parseIntB_plain 64 c l (by omega) (by omega)
 have ab:Lib.parseUintB 64 (c::l)=(if val 0 (c::l)≤18446744073709551615 then .ok (val 0 (c::l))else .range):=by
  unfold Lib.parseUintB;rw [if_neg (by simp)]
  rcases anv (c::l) 0 h with aj|aj
  ·exact aj
  ·omega
 have aD:Lib.intSat 64 (c::l)=9223372036854775807:=by rw [Lib.intSat_other 64 c l (by omega)];rfl
 rw [ab]at Z;unfold CZ;rw [Z,aD];by_cases aX:val 0 (c::l)≤18446744073709551615
 ·rw [if_pos aX];by_cases bW:val 0 (c::l)≤9223372036854775807
  ·rw [if_pos bW];simp only [Lib.signlessC];rw [if_neg (by omega)]
  ·rw [if_neg bW];simp only [Lib.signlessC];rw [if_pos (by omega)]
 ·rw [if_neg aX,if_neg (by omega)];rfl
def anw{c:UInt8}(h:48≤c.toNat∧c.toNat≤57):IntKind.u8.wrap (((c.toNat:Nat):Int)-48)=((c.toNat-48:Nat):Int):=by rw [IntKind.wrap_u8];omega
def acC{x:Nat}(h:x≤18446744073709551615):IntKind.u64.wrap (x:Int)=x:=by rw [IntKind.wrap_u64];omega
def anx{x:Nat}(h:x≤9223372036854775807):av5 (x:Int)=x:=by(try unfold av5);rw [IntKind.wrap_i64];omega
def anz(n:Nat)(s:av3)(hs:s.length≤4611686018427387904)(hd:s.all iA=true)(h0:s.head? ≠ some 45):
 ∀(m i u:Nat),s.length<i+m→i≤s.length→u≤9223372036854775807→Le n s s 9223372036854775807 m (u:Int) (i:Int)=some (if val u (s.drop i)≤9223372036854775807 then(((val u (s.drop i):Nat):Int),(0:Int)) else(0,3)):=by
 intro m;induction m with
 |zero=>intro i u h ab;omega
 |succ m aJ=>
  intro i u hm hi hu;simp only [Le,aaA];by_cases h:i<s.length
  ·have hc:48≤(s.getD i 0).toNat∧(s.getD i 0).toNat≤57:=by
    rw [←qp];have:=List.all_eq_true.1 hd s[i] (List.getElem_mem h)
    simpa [List.getD,h]using this
   have au:=acA (s.drop (i+1)) (u*10+((s.getD i 0).toNat-48));rw [fo s i 0 h,eb (by omega),Ft]
   simp only [h,b1 h,avU,avV,avM,avO,aT,anw hc];rw [acC (show(s.getD i 0).toNat-48≤18446744073709551615 by omega)]
   have e1:IntKind.u64.wrap (9223372036854775807-(((s.getD i 0).toNat-48:Nat):Int))=((9223372036854775807-((s.getD i 0).toNat-48):Nat):Int):=by rw [IntKind.wrap_u64];omega
   have e2:IntKind.u64.wrap (Int.tdiv ((9223372036854775807-((s.getD i 0).toNat-48):Nat):Int) 10)=(((9223372036854775807-((s.getD i 0).toNat-48)) / 10:Nat):Int):=by
    rw [show(Int.tdiv ((9223372036854775807-((s.getD i 0).toNat-48):Nat):Int) 10)=(((9223372036854775807-((s.getD i 0).toNat-48)) / 10:Nat):Int)from rfl]
    exact acC (by omega)
   rw [e1,e2];simp only [avV];by_cases aj:(9223372036854775807-((s.getD i 0).toNat-48)) / 10<u
   ·simp only [aj,avM,avO];rw [if_neg (by omega)]
   ·simp only [aj,avN,avP]
    have e3:IntKind.u64.wrap (IntKind.u64.wrap ((u:Int)*10)+(((s.getD i 0).toNat-48:Nat):Int))=((u*10+((s.getD i 0).toNat-48):Nat):Int):=by
     rw [IntKind.wrap_u64,IntKind.wrap_u64];omega
    rw [e3];exact aJ (i+1) _ (by omega) (by omega) (by omega)
  ·rw [gE s i h,Fs];simp only [h,avV,avN,avP,hu,av1,aaz]
   have:(bif (decide (0<((s.length:Nat):Int))) then(decide ((((s.getD 0 0).toNat:Nat):Int)=45))else false)=false:=by
    cases s with
    |nil=>rfl
    |cons c l=>
     simp only [List.head?_cons,ne_eq,Option.some.injEq]at h0;simp only [List.getD_cons_zero,fx];have:¬ c.toNat=45:=λe=>h0 (UInt8.toNat_inj.1 e)
     simp [this]
   rw [this];simp only [avP,anx hu]
def anA(n:Nat)(s:av3)(hs:s.length≤4611686018427387904):∀m i,s.length<i+m→i≤s.length→EO n s m (i:Int)=some ((s.drop i).all iA&&decide (0<s.length)&&(!decide (s.head? = some 48)||decide (s.length=1))):=by
 intro m;induction m with
 |zero=>intro i h ab;omega
 |succ m aJ=>
  intro i hm hi;simp only [EO,aax,aaw];by_cases h:i<s.length
  ·rw [fo s i 0 h,eb (by omega),aJ (i+1) (by omega) (by omega)]
   simp only [h,b1 h,avU,avV,avM,avO,aT,av0,List.all_cons,ps,fp,dH];cases hd:iA (s.getD i 0)
   ·have:(decide ((s.getD i 0).toNat<48)||decide (57<(s.getD i 0).toNat))=true:=by
     have:¬ (48≤(s.getD i 0).toNat∧(s.getD i 0).toNat≤57):=λx=>by rw [(qp _).2 x]at hd;cases hd
     by_cases Z:(s.getD i 0).toNat<48
     ·simp only [Z,avM,Bool.true_or]
     ·simp only [show 57<(s.getD i 0).toNat by omega,avM,av0]
    rw [this];rfl
   ·have Z:=(qp _).1 hd
    have:(decide ((s.getD i 0).toNat<48)||decide (57<(s.getD i 0).toNat))=false:=by
     simp only [show¬ (s.getD i 0).toNat<48 by omega,show¬ 57<(s.getD i 0).toNat by omega,avN,Bool.or_self]
    rw [this];simp only [avP,Bool.true_and]
  ·rw [gE s i h];cases s with
   |nil=>
    simp only [avT,avV,Nat.not_lt_zero,avN,avP];rfl
   |cons c l=>
    rw [avS]at h;simp only [h,avN,avP,avV,avS,fp,show 0<l.length+1 by omega,avM,avQ,Bool.false_or,mi (show 0<l.length+1 by omega),aT,avO,List.getD_cons_zero,fx,List.all_nil,Bool.true_and,List.head?_cons,Option.some.injEq,dH]
    have:decide (c.toNat=48)=decide (c=48):=by
     rw [decide_eq_decide];exact⟨λe=>UInt8.toNat_inj.1 e,λe=>by subst e;rfl⟩
    rw [this]
def anB{n:Nat}(c:UInt8)(l:av3)(h:l.length+1<n)(hs:l.length+1≤4611686018427387904)(hc:c.toNat≠45):Tw n (c::l)=some (nT (c::l)):=by
 unfold Tw Tv aay;have hd:=anA n (c::l) hs n 0 (by simp only [avS];omega) (by omega)
 have Uh:(bif (decide (0<(((c::l).length:Nat):Int))) then(decide (((((c::l).getD 0 0).toNat:Nat):Int)=45))else false)=false:=by
  simp only [List.getD_cons_zero,fx,hc,avN];cases decide (0<(((c::l).length:Nat):Int))<;>rfl
 have hd:EO n (c::l) n 0=_:=hd;have hin:(!(decide ((0:Int)<(((c::l).length:Nat):Int)))||aM 0 (c::l).length)=true:=by rw [mi (show 0<(c::l).length by simp)];simp only [av0]
 rw [Uh,hd,hin];simp only [avR,avS,mi (show 0<l.length+1 by omega),av0,aT,avP,an,List.drop_zero,show(0<l.length+1)=True by simp,avM,Bool.and_true]
 unfold nT;by_cases Z:(c::l).all iA=true∧((c::l).head? ≠ some 48∨(c::l).length=1)
 ·rw [if_pos Z]
  have:((c::l).all iA&&(!decide ((c::l).head? = some 48)||decide (l.length+1=1)))=true:=by
   rw [Z.1];rcases Z.2 with ab|ab
   ·simp only [ab,avN,avR,Bool.true_or,Bool.and_self]
   ·simp only [show l.length+1=1 from ab,avM,av0,Bool.and_self]
  rw [this]
  have bm:(c::l).head? ≠ some 45:=by
   intro e;simp only [List.head?_cons,Option.some.injEq]at e;subst e;exact hc rfl
  have:=anz n (c::l) hs Z.1 bm n 0 0 (by simp only [avS];omega) (by omega) (by omega)
  simpa using this
 ·rw [if_neg Z]
  have:((c::l).all iA&&(!decide ((c::l).head? = some 48)||decide (l.length+1=1)))=false:=by
   cases ab:(c::l).all iA
   ·rfl
   ·by_cases aj:(c::l).head? = some 48
    ·by_cases aD:l.length+1=1
     ·exact absurd ⟨ab,Or.inr aD⟩ Z
     ·simp only [aj,aD,avM,avN,avQ,Bool.or_self,Bool.and_false]
    ·exact absurd ⟨ab,Or.inl aj⟩ Z
  rw [this];rfl
open Go Go.Ab Go.Proofs
def dl(l:av3):Nat:=(l.takeWhile iA).length
def Ui(c:UInt8)(l:av3):dl (c::l)=bif iA c then dl l+1 else 0:=by
 unfold dl;cases h:iA c<;>simp [List.takeWhile,h]
def anC(l:av3):dl l≤l.length:=by unfold dl;exact(List.takeWhile_prefix _).length_le
def acD(l:av3):dl l=l.length↔l.all iA=true:=by
 induction l with
 |nil=>simp [dl]
 |cons c l aJ=>
  rw [Ui];cases h:iA c
  ·simp [h]
  ·simp [h,aJ]
def anD(n:Nat)(s:av3)(b:Bool)(hs:s.length≤4611686018427387904):∀m i,s.length<i+m→i≤s.length→zK n s s b m (i:Int)=DV n s s b ((i+dl (s.drop i):Nat):Int):=by
 intro m;induction m with
 |zero=>intro i h ab;omega
 |succ m aJ=>
  intro i hm hi;simp only [zK,QN];by_cases h:i<s.length
  ·rw [fo s i 0 h,eb (by omega),aJ (i+1) (by omega) (by omega),Ui]
   simp only [h,b1 h,avU,avV,avM,avO,aT,s',lR,el];rw [show(decide (48≤(s.getD i 0).toNat)&&decide ((s.getD i 0).toNat≤57))=iA (s.getD i 0)from rfl]
   cases iA (s.getD i 0)
   ·rfl
   ·simp only [avO];rw [show i+1+dl (s.drop (i+1))=i+(dl (s.drop (i+1))+1)by omega]
  ·rw [gE s i h];simp only [h,avV,avN,avP];rfl
def anE{n:Nat}{s:av3}(h:s.length≤281474976710656):yT n s 10 64=some (CZ s):=by
 unfold yT;rw [decide_eq_true (show(10:Int)=10∧(64:Int)=64∧s.length≤281474976710656 from⟨rfl,rfl,h⟩)]
 rfl
def anF{n:Nat}(c:UInt8)(l:av3)(h:l.length+1<n)(hs:l.length+1≤140737488351232)(hc:iA c=true):I' n (c::l)=some (nT (c::l)):=by
 have l_:=(qp c).1 hc;have dk:¬ c.toNat=45:=by omega
 unfold I' I9
 have Uh:(bif (decide (0<(((c::l).length:Nat):Int))) then(decide (((((c::l).getD 0 0).toNat:Nat):Int)=45))else false)=false:=by
  simp only [List.getD_cons_zero,fx,dk,avN];cases decide (0<(((c::l).length:Nat):Int))<;>rfl
 have hin:(!(decide ((0:Int)<(((c::l).length:Nat):Int)))||aM 0 (c::l).length)=true:=by rw [mi (show 0<(c::l).length by simp)];simp only [av0]
 have gS:=anD n (c::l) false (by simp only [avS];omega) n 0 (by simp only [avS];omega) (by omega)
 have gS:zK n (c::l) (c::l) false n 0=_:=gS;rw [Uh,hin,gS];simp only [aT,avP,List.drop_zero,Nat.zero_add];have Z:1≤dl (c::l):=by rw [Ui,hc];simp
 have hlen:(c::l).length=l.length+1:=rfl;have hle:=anC (c::l);unfold DV;simp only [mi (show 0<(c::l).length by simp),av0,aT,fx,show¬ dl (c::l)=0 by omega,avN,avP,avV,List.getD_cons_zero,fp,dH]
 unfold nT;by_cases ha:(c::l).all iA=true
 ·have hd:=(acD _).2 ha;simp only [hd,Nat.lt_irrefl,avN,Bool.false_or,ha,true_and];by_cases Uj:c=48
  ·subst Uj;by_cases e6:l=[]
   ·subst e6;simp only [List.head?_cons,avS,avT];rw [if_pos (by simp)]
    simp only [yT,acB _ _ ha];rw [if_pos (by decide)]
    rfl
   ·have:1<((48::l:av3)).length:=by
     cases l with
     |nil=>exact absurd rfl e6
     |cons _ _=>simp
    simp only [this,avM,avO];rw [if_neg (by simp [e6])]
    rfl
  ·have anG:¬ c.toNat=48:=λe=>Uj (UInt8.toNat_inj.1 e)
   simp only [anG,avN,avP];rw [if_pos (show(c::l).head? ≠ some 48∨(c::l).length=1 from Or.inl (by simpa using Uj))]
   rw [anE (by simp only [avS];omega),acB _ _ ha]
   by_cases av:val 0 (c::l)≤9223372036854775807
   ·rw [if_pos av,if_pos av];rfl
   ·rw [if_neg av,if_neg av];rfl
 ·have hd:dl (c::l)<(c::l).length:=by
   have:¬ dl (c::l)=(c::l).length:=λe=>ha ((acD _).1 e)
   omega
  simp only [hd,avM,Bool.true_or,avO];rw [if_neg (λx=>ha x.1)]
def lj(w:av3):Token×Int:=
 match w with
 |[]=>(⟨0,[],0,0⟩,0)
 |c::_=>
  if lS c=true then
   if s_ w=true then(⟨2,w,0,0⟩,0)else if gy w=true then(⟨1,w,0,0⟩,0) else(⟨0,[],0,0⟩,2)
  else if(nT w).2=0 then(⟨3,[],(nT w).1,0⟩,0) else(⟨0,[],0,0⟩,(nT w).2)
def anH{n:Nat}(c:UInt8)(l:av3)(h:l.length+1<n)(hs:l.length+1≤140737488351232)(hw:fS c=true):I_ n (c::l)=some (lj (c::l)):=by
 unfold I_ lj;simp only [mi (show 0<(c::l).length by simp),aT,List.getD_cons_zero,fx,acv,an,act,A7 _ _ (show(c::l).length≤140737488351232 from hs)]
 by_cases Z:c.toNat=95
 ·have e:c=95:=UInt8.toNat_inj.1 Z;subst e
  have anI:nT (95::l)=(0,5):=by
   unfold nT;rw [if_neg (by simp [show iA 95=false from rfl])]
  simp only [Z,avM,avO];rw [if_neg (by decide),anI]
  rfl
 ·simp only [Z,avN,avP];cases aa:lS c
  ·have hd:iA c=true:=by
    unfold fS at hw;have hw:=of_decide_eq_true hw;unfold lS at aa;rw [qp];simp only [Bool.and_eq_false_iff,decide_eq_false_iff_not]at aa;omega
   simp only [avP,anF c l h hs hd,an,Bool.false_eq_true,av2];by_cases aX:(nT (c::l)).2=0
   ·simp only [aX,avM,avQ,avP,av1]
   ·simp only [aX,avN,avR,avO,av2]
  ·simp only [avO,av1];cases s_ (c::l)
   ·cases gy (c::l)<;>rfl
   ·rfl
def anJ{n:Nat}(c:UInt8)(l:av3)(h:l.length+1<n)(ab:25<n)(hs:l.length+1≤140737488351232)(hw:fS c=true):Tx n (c::l)=some (lj (c::l)):=by
 unfold Tx lj
 have hc:c.toNat≠45:=by
  unfold fS at hw;have hw:=of_decide_eq_true hw;omega
 simp only [mi (show 0<(c::l).length by simp),aT,List.getD_cons_zero,fx,Ug,an,acu _ ab,A6 (c::l) h ab (show(c::l).length≤4611686018427387904 by simp only [avS];omega),anB c l h (by omega) hc]
 cases aa:lS c
 ·simp only [avP,an,Bool.false_eq_true,av2];by_cases aX:(nT (c::l)).2=0
  ·simp only [aX,avM,avQ,avP,av1]
  ·simp only [aX,avN,avR,avO,av2]
 ·simp only [avO,av1];cases s_ (c::l)
  ·cases gy (c::l)<;>rfl
  ·rfl
open Go Go.Ab Go.Proofs
def up(k:Nat):Int ⊕ (av3×Nat)→Int ⊕ (av3×Nat)
 |.inl e=>.inl e
 |.inr p=>.inr (p.1,p.2+k)
def gz:av3→av3→Int ⊕ (av3×Nat)
 |[],acc=>.inl 6
 |[c],acc=>if c.toNat=34 then .inr (acc,1)else if c.toNat=92 then .inl 6 else if okB c=false then .inl 5 else if acc.length=64 then .inl 2 else .inl 6
 |c::d::l,acc=>
  if c.toNat=34 then .inr (acc,1)
  else if c.toNat=92 then
   if d.toNat≠34∧d.toNat≠92 then .inl 5 else if acc.length=64 then .inl 2 else up 2 (gz l (acc++[d]))
  else if okB c=false then .inl 5
  else if acc.length=64 then .inl 2
  else up 1 (gz (d::l) (acc++[c]))
def fV(l:av3):List Int:=l.map λc=>((c.toNat:Nat):Int)
def Uk(l:av3):jX (fV l)=l:=by
 unfold jX fV;rw [List.map_map]
 conv=>rhs;rw [←List.map_id l]
 refine List.map_congr_left λc _=>?_
 simp
def Ul(l:av3):nB (fV l)=true:=by
 unfold nB fV;rw [List.all_eq_true];intro x hx;obtain⟨c,_,rfl⟩:=List.mem_map.1 hx;have:=c.toNat_lt
 simp only [Bool.and_eq_true,decide_eq_true_eq];omega
def LM(l:av3):(fV l).length=l.length:=by simp [fV]
def Um(l:av3)(c:UInt8):fV l++[((c.toNat:Nat):Int)]=fV (l++[c]):=by simp [fV]
def xx(z:Int)(i:Nat):Int ⊕ (av3×Nat)→av3×Int×Int
 |.inl e=>([],z,e)
 |.inr p=>(p.1,((i+p.2:Nat):Int),0)
def LN(z:Int)(i k:Nat)(r:Int ⊕ (av3×Nat)):xx z i (up k r)=xx z (i+k) r:=by
 cases r with
 |inl e=>rfl
 |inr p=>simp only [up,xx];rw [show i+(p.2+k)=i+k+p.2 by omega]
def acE{k:Nat}(h:k≤65):room k 1=true:=by simp [room];omega
def A8(c:UInt8)(l acc:av3)(h:c.toNat≠92):gz (c::l) acc=if c.toNat=34 then .inr (acc,1)else if okB c=false then .inl 5 else if acc.length=64 then .inl 2 else up 1 (gz l (acc++[c])):=by
 cases l with
 |nil=>
  simp only [gz];by_cases Z:c.toNat=34
  ·simp only [Z,av1]
  ·simp only [Z,h,av2,up]
 |cons d l =>
  simp only [gz];by_cases Z:c.toNat=34
  ·simp only [Z,av1]
  ·simp only [Z,h,av2]
def anK{d:UInt8}(h:¬ (d.toNat≠34∧d.toNat≠92)):okB d=true:=by
 unfold okB;simp only [Bool.and_eq_true,decide_eq_true_eq];omega
def acF(p:Prop)[Decidable p]:(!decide p)=decide (¬ p):=by by_cases h:p<;>simp [h]
def anL(n:Nat)(s:av3)(hs:s.length≤4611686018427387904):∀(m i:Nat) (acc:av3),s.length<i+m→i≤s.length→acc.length≤64→
 zJ n s m (fV acc) (i:Int)=some (xx 0 i (gz (s.drop i) acc)):=by
 intro m;induction m with
 |zero=>intro i acc h ab;omega
 |succ m aJ=>
  intro i acc hm hi ha;simp only [zJ,QK,I7,QJ,I6];by_cases h:i<s.length
  ·rw [fo s i 0 h,eb (by omega)]
   simp only [h,b1 h,avU,avV,Int.ofNat_inj,avM,avO,aT,ps,fp,fx,dH,A5,LM];generalize hc:s.getD i 0=c
   by_cases ho:c.toNat=34
   ·simp only [ho,avM,avO,Ul,aT,Uk];rw [A8 c _ _ (by omega),if_pos ho]
    rfl
   ·by_cases nU:c.toNat=92
    ·simp only [nU,avM,avO,show¬ (92=34)by omega,avN,avP]
     by_cases Fu:i+1=s.length
     ·simp only [Fu,avM,avO];rw [gE s s.length (by omega)]
      simp only [gz,ho,av2,nU,av1];rfl
     ·have cS:i+1<s.length:=by omega
      rw [fo s (i+1) 0 cS,eb (by omega)]
      simp only [Fu,avN,avP,b1 cS,aT];generalize s.getD (i+1) 0=d
      simp only [gz,ho,av2,nU,av1,el,acF,show¬ (92=34)by omega]
      by_cases hd:d.toNat≠34∧d.toNat≠92
      ·rw [if_pos hd];simp only [hd.1,hd.2,avM,not_false_eq_true,Bool.and_self,avO];rfl
      ·rw [if_neg hd];have:(decide (¬ d.toNat=34)&&decide (¬ d.toNat=92))=false:=by rw [←Bool.decide_and];exact decide_eq_false hd
       simp only [this,avP,anK hd,avQ];by_cases qq:acc.length=64
       ·simp only [qq,avM,avO,av1];rfl
       ·simp only [qq,avN,avP,av2,avS,avT,acE (show acc.length+(0+1)≤65 by omega),aT,Um]
        rw [aJ (i+1+1) (acc++[d]) (by omega) (by omega) (by simp only [avW,avS,avT];omega),LN]
    ·simp only [ho,nU,avN,avP];rw [A8 c _ _ nU,if_neg ho];cases cP:okB c
     ·simp only [avR,avO,av1];rfl
     ·simp only [avQ,avP,av2,Bool.true_eq_false];by_cases qq:acc.length=64
      ·simp only [qq,avM,avO,av1];rfl
      ·simp only [qq,avN,avP,av2,avS,avT,acE (show acc.length+(0+1)≤65 by omega),aT,Um]
       rw [aJ (i+1) (acc++[c]) (by omega) (by omega) (by simp only [avW,avS,avT];omega),LN]
  ·rw [gE s i h];simp only [h,avV,avN,avP];rfl
def Un{k:Nat}(h:k≤9223372036854775807):b3 k=true:=by simp [b3];omega
def acG(s:av3)(i:Nat)(h:i<s.length):(s.take (i+1)).drop i=[s.getD i 0]:=by
 rw [fo (s.take (i+1)) i 0 (by simp;omega),gE _ _ (by simp;omega)]
 simp [List.getD,h]
def anM(n:Nat)(s:av3)(hs:s.length≤4611686018427387904):∀(m i:Nat) (acc:av3),s.length<i+m→i≤s.length→acc.length≤64→
 ∃z,Lf n s m (i:Int) acc=some (xx z i (gz (s.drop i) acc)):=by
 intro m;induction m with
 |zero=>intro i acc h ab;omega
 |succ m aJ=>
  intro i acc hm hi ha;simp only [Lf,aaC,Ty,aaB];by_cases h:i<s.length
  ·rw [fo s i 0 h,eb (by omega)]
   simp only [h,b1 h,avU,avV,Int.ofNat_inj,avM,avO,aT,ps,fp,fx,dH,A5,LM,Fp (Nat.le_succ i) h,acG s i h];generalize hc:s.getD i 0=c
   by_cases ho:c.toNat=34
   ·simp only [ho,avM,avO];rw [A8 c _ _ (by omega),if_pos ho]
    exact⟨0,rfl⟩
   ·by_cases nU:c.toNat=92
    ·simp only [nU,avM,avO,show¬ (92=34)by omega,avN,avP]
     by_cases Fu:i+1=s.length
     ·simp only [Fu,avM,avO];rw [gE s s.length (by omega)]
      simp only [gz,ho,av2,nU,av1];exact⟨_,rfl⟩
     ·have cS:i+1<s.length:=by omega
      rw [fo s (i+1) 0 cS,eb (by omega)]
      simp only [Fu,avN,avP,b1 cS,aT,av0,avU,acG s (i+1) cS,Fp (Nat.le_succ (i+1)) cS];generalize s.getD (i+1) 0=d
      simp only [gz,ho,av2,nU,av1,el,acF,show¬ (92=34)by omega]
      by_cases hd:d.toNat≠34∧d.toNat≠92
      ·rw [if_pos hd];simp only [hd.1,hd.2,avM,not_false_eq_true,Bool.and_self,avO];exact⟨_,rfl⟩
      ·rw [if_neg hd];have:(decide (¬ d.toNat=34)&&decide (¬ d.toNat=92))=false:=by rw [←Bool.decide_and];exact decide_eq_false hd
       simp only [this,avP];by_cases qq:acc.length=64
       ·simp only [qq,avM,avO,av1];exact⟨_,rfl⟩
       ·simp only [qq,avN,avP,av2,avS,avT,Un (show acc.length+(0+1)≤9223372036854775807 by omega),aT]
        obtain⟨z,dG⟩:=aJ (i+1+1) (acc++[d]) (by omega) (by omega) (by simp only [avW,avS,avT];omega)
        exact⟨z,by rw [dG,LN]⟩
    ·simp only [ho,nU,avN,avP];rw [A8 c _ _ nU,if_neg ho];cases cP:okB c
     ·simp only [avR,avO,av1];exact⟨_,rfl⟩
     ·simp only [avQ,avP,av2,Bool.true_eq_false];by_cases qq:acc.length=64
      ·simp only [qq,avM,avO,av1];exact⟨_,rfl⟩
      ·simp only [qq,avN,avP,av2,avS,avT,Un (show acc.length+(0+1)≤9223372036854775807 by omega),aT]
       obtain⟨z,dG⟩:=aJ (i+1) (acc++[c]) (by omega) (by omega) (by simp only [avW,avS,avT];omega)
       exact⟨z,by rw [dG,LN]⟩
  ·rw [gE s i h];simp only [h,avV,avN,avP];exact⟨_,rfl⟩
open Go Go.Ab Go.Proofs
def two:List av3:=[[61,61],[33,61],[60,61],[62,61],[43,43]]
def px:av3:=[40,41,123,125,44,59,58,61,60,62,43,45,42,47,37]
def marks:List av3:=two++px.map λc=>[c]
def kW(l w:av3):Bool:=decide (w.length≤l.length∧l.take w.length=w)
def lT(l:av3):av3:=(marks.find? (kW l)).getD []
def find_eq{α β:Type}[DecidableEq β](x:β)(p:α→Bool)(f:α→β)(L:List α)(h:∀w,w∈L→p w=decide (x=f w))(ba:∀v w,v∈L→w∈L→f v=f w→v=w):
 (∃v,v∈L∧x=f v∧L.find? p=some v)∨((∀v,v∈L→x≠f v)∧L.find? p=none):=by
 cases au:L.find? p with
 |none=>
  right
  rw [List.find?_eq_none]at au;refine⟨λv av e=>au v av ?_,rfl⟩
  rw [h v av];exact decide_eq_true e
 |some v=>
  left
  have av:=List.mem_of_find?_eq_some au;have:=List.find?_some au
  rw [h v av]at this;exact⟨v,av,of_decide_eq_true this,rfl⟩
def anN(a c:UInt8)(t:av3):kW (a::t) [c]=decide (a=c):=by
 unfold kW;rw [decide_eq_decide];simp
def anO(a b:UInt8)(t:av3)(w:av3)(h:w∈two):kW (a::b::t) w=decide ([a,b]=w):=by
 have:w.length=2:=by
  simp only [two,List.mem_cons,List.not_mem_nil,or_false]at h;rcases h with rfl|rfl|rfl|rfl|rfl<;>rfl
 unfold kW;rw [decide_eq_decide,this];simp
def anP(a:UInt8)(w:av3)(h:w∈two):kW [a] w=false:=by
 have:w.length=2:=by
  simp only [two,List.mem_cons,List.not_mem_nil,or_false]at h;rcases h with rfl|rfl|rfl|rfl|rfl<;>rfl
 unfold kW;rw [this];simp
def acH(a:UInt8)(t:av3):((px.map λc=>[c]).find? (kW (a::t))).getD []=if a∈px then[a] else[]:=by
 rw [List.find?_map];have Z:((λw=>kW (a::t) w)∘λc=>[c])=λc=>decide (a=c):=by funext c;exact anN a c t
 have Z:(kW (a::t)∘λc=>[c])=λc=>decide (a=c):=Z
 rw [Z];rcases find_eq a (λc=>decide (a=c)) (λc=>c) px (λ_ _=>rfl) (λ_ _ _ _ e=>e) with⟨v,av,rfl,ab⟩|⟨hn,ab⟩
 ·rw [ab,if_pos av];rfl
 ·rw [ab,if_neg λhm=>hn a hm rfl];rfl
def Uo(a b:UInt8)(t:av3):lT (a::b::t)=if[a,b]∈two then[a,b]else if a∈px then[a] else[]:=by
 unfold lT marks;rw [List.find?_append];rcases find_eq [a,b] (kW (a::b::t)) (λc=>c) two (λw hw=>anO a b t w hw) (λ_ _ _ _ e=>e) with⟨v,av,rfl,ab⟩|⟨hn,ab⟩
 ·rw [ab,if_pos av];rfl
 ·rw [ab,if_neg λhm=>hn _ hm rfl]
  exact acH a (b::t)
def acI(a:UInt8):lT [a]=if a∈px then[a] else[]:=by
 unfold lT marks;rw [List.find?_append]
 have:two.find? (kW [a])=none:=by
  rw [List.find?_eq_none];intro w hw;rw [anP a w hw];exact Bool.false_ne_true
 rw [this];exact acH a []
def acJ(a:UInt8):∀l:av3,Lib.indexByte l a = -1∧a∉l∨0≤Lib.indexByte l a∧a∈l
 |[]=>Or.inl ⟨rfl,by simp⟩
 |b::l=>by
  unfold Lib.indexByte;by_cases h:b=a
  ·subst h;right;simp
  ·have cS:(b == a)=false:=by simp [h]
   rw [cS];simp only [Bool.false_eq_true,av2];rcases acJ a l with⟨Z,ab⟩|⟨Z,ab⟩
   ·left
    rw [Z];refine⟨rfl,?_⟩
    simp only [List.mem_cons,not_or];exact⟨λe=>h e.symm,ab⟩
   ·right
    have:(Lib.indexByte l a == -1)=false:=by
     simp only [beq_eq_false_iff_ne,ne_eq];omega
    rw [this];simp only [Bool.false_eq_true,av2];exact⟨by omega,List.mem_cons_of_mem _ ab⟩
def anQ(a:UInt8):(((a.toNat:Nat):Int)).toNat.toUInt8=a:=by
 (simp only [avU]);exact UInt8.ofNat_toNat
def acK(n:Nat)(a:UInt8)(t:av3):DU n (a::t)=some (if a∈px then[a] else[]):=by
 unfold DU QM HI;simp only [reduceCtorEq,avN,avR,mi (show 0<(a::t).length by simp),av0,aT,avO,an,List.getD_cons_zero,anQ]
 rw [show([40,41,123,125,44,59,58,61,60,62,43,45,42,47,37]:av3)=px from rfl]
 rcases acJ a px with⟨Z,ab⟩|⟨Z,ab⟩
 ·rw [Z,if_neg ab];rfl
 ·rw [if_pos ab];have hu:gV 1 (a::t).length=true:=xw (i:=1) (show 1≤(a::t).length by simp)
  simp only [Z,avM,avO,hu,aT,List.take_succ_cons,List.take_zero]
def anR(n:Nat)(a:UInt8)(t:av3):I8 n (a::t)=some (lT (a::t)):=by
 unfold I8;cases t with
 |nil=>
  rw [acI];exact acK n a []
 |cons b t=>
  rw [Uo];have ab:decide ((2:Int)≤(((a::b::t).length:Nat):Int))=true:=decide_eq_true (by simp only [avS];omega)
  have hu:gV 2 (a::b::t).length=true:=xw (i:=2) (show 2≤(a::b::t).length by simp)
  simp only [ab,avO,hu,aT,wU,acK];rw [show(a::b::t).take 2=[a,b]from rfl]
  generalize [a,b]=w
  by_cases h:w∈two
  ·rw [if_pos h];simp only [two,List.mem_cons,List.not_mem_nil,or_false]at h;rcases h with rfl|rfl|rfl|rfl|rfl<;>rfl
  ·rw [if_neg h];simp only [two,List.mem_cons,List.not_mem_nil,or_false,not_or]at h;simp only [h,avN,avP]
def anS(n:Nat):aav n=some marks:=rfl
def Up(w:av3)(h:w∈marks):1≤w.length∧w.length≤2:=by
 have:∀w,w∈marks→decide (1≤w.length∧w.length≤2)=true:=by decide
 exact of_decide_eq_true (this w h)
def anT(i:Nat):Option av3→Token×Int×Int
 |none=>(⟨0,[],0,0⟩,(i:Int),5)
 |some w=>(⟨5,w,0,0⟩,((i+w.length:Nat):Int),0)
def acL(s:av3)(i k:Nat):(s.take (i+k)).drop i=(s.drop i).take k:=by
 rw [List.drop_take];congr 1;omega
def anU(n:Nat)(s:av3)(at_:Nat)(L:List av3)(hs:s.length≤4611686018427387904)(ha:at_≤s.length)(dc:L.length≤100)(hw:∀w,w∈L→w.length≤2):
 ∀m i,L.length<i+m→i≤L.length→EP n s (at_:Int) L m (i:Int)=some (anT at_ ((L.drop i).find? (kW (s.drop at_)))):=by
 intro m;induction m with
 |zero=>intro i h ab;omega
 |succ m aJ=>
  intro i hm hi;simp only [EP,aaF,aaE];by_cases h:i<L.length
  ·(rw [fo L i default h,eb (by omega),aJ (i+1) (by omega) (by omega)];simp only [avU])
   have Uq:(L.getD i default).length≤2:=hw _ (by simp [List.getD,h])
   generalize L.getD i default=w at Uq
   simp only [h,b1 h,avV,avM,avO,aT,av0];have e1:av5 ((at_:Int)+((w.length:Nat):Int))=((at_+w.length:Nat):Int):=by rw [wr]<;>omega
   simp only [e1,avU,acL,Int.ofNat_le];by_cases Z:at_+w.length≤s.length
   ·simp only [Z,avM,avQ,Bool.false_or,Fp (Nat.le_add_right at_ w.length) Z,aT,avO];by_cases ab:(s.drop at_).take w.length=w
    ·have:kW (s.drop at_) w=true:=decide_eq_true ⟨by simp;omega,ab⟩
     simp only [ab,avM,avO,List.find?_cons,this];rfl
    ·have:kW (s.drop at_) w=false:=decide_eq_false λx=>ab x.2
     simp only [ab,avN,avP,List.find?_cons,this]
   ·have:kW (s.drop at_) w=false:=decide_eq_false λx=>by have:=x.1;simp at this;omega
    simp only [Z,avN,avR,Bool.true_or,aT,avP,List.find?_cons,this]
  ·rw [gE L i h];simp only [h,avV,avN,avP];rfl
open Go Go.Ab Go.Proofs
def xy:Int ⊕ (av3×Nat)→Token×Nat×Int
 |.inl e=>(⟨4,[],0,0⟩,0,e)
 |.inr p=>(⟨4,p.1,0,0⟩,p.2+1,0)
def fW(l:av3):Token×Nat×Int:=
 match l with
 |[]=>(⟨0,[],0,0⟩,0,0)
 |c::t=>
  if fS c=true then((lj ((c::t).take (hH (c::t)))).1,hH (c::t),(lj ((c::t).take (hH (c::t)))).2)
  else if c.toNat=34 then xy (gz t [])
  else if lT (c::t)=[] then(⟨0,[],0,0⟩,0,5) else(⟨5,lT (c::t),0,0⟩,(lT (c::t)).length,0)
def Fv:∀(l acc:av3) (e:Int),gz l acc = .inl e→e≠0
 |[],acc,e,h=>by simp only [gz,Sum.inl.injEq]at h;omega
 |[c],acc,e,h=>by
  simp only [gz]at h
  (repeat' split at h)<;>simp only [reduceCtorEq,Sum.inl.injEq]at h<;>omega
 |c::d::l,acc,e,h=>by
  simp only [gz]at h;split at h
  ·cases h
  ·split at h
   ·split at h
    ·simp only [Sum.inl.injEq]at h;omega
    ·split at h
     ·simp only [Sum.inl.injEq]at h;omega
     ·cases au:gz l (acc++[d]) with
      |inl aZ=>rw [au]at h;simp only [up,Sum.inl.injEq]at h;subst h;exact Fv l _ _ au
      |inr p=>rw [au]at h;cases h
   ·split at h
    ·simp only [Sum.inl.injEq]at h;omega
    ·split at h
     ·simp only [Sum.inl.injEq]at h;omega
     ·cases au:gz (d::l) (acc++[c]) with
      |inl aZ=>rw [au]at h;simp only [up,Sum.inl.injEq]at h;subst h;exact Fv (d::l) _ _ au
      |inr p=>rw [au]at h;cases h
def Ur:∀(l acc:av3) (p:av3×Nat),gz l acc = .inr p→1≤p.2∧p.2≤l.length∧p.1.length≤acc.length+p.2
 |[],acc,e,h=>by simp only [gz,reduceCtorEq]at h
 |[c],acc,p,h=>by
  simp only [gz]at h;split at h
  ·simp only [Sum.inr.injEq]at h;subst h;simp
  ·(repeat' split at h)<;>simp only [reduceCtorEq]at h
 |c::d::l,acc,p,h=>by
  simp only [gz]at h;split at h
  ·simp only [Sum.inr.injEq]at h;subst h;simp
  ·split at h
   ·split at h
    ·simp only [reduceCtorEq]at h
    ·split at h
     ·simp only [reduceCtorEq]at h
     ·cases au:gz l (acc++[d]) with
      |inl aZ=>rw [au]at h;simp only [up,reduceCtorEq]at h
      |inr q=>
       rw [au]at h;simp only [up,Sum.inr.injEq]at h;subst h;have:=Ur l _ _ au
       simp only [avW,avS,avT]at this ⊢;omega
   ·split at h
    ·simp only [reduceCtorEq]at h
    ·split at h
     ·simp only [reduceCtorEq]at h
     ·cases au:gz (d::l) (acc++[c]) with
      |inl aZ=>rw [au]at h;simp only [up,reduceCtorEq]at h
      |inr q=>
       rw [au]at h;simp only [up,Sum.inr.injEq]at h;subst h;have:=Ur (d::l) _ _ au
       simp only [avW,avS,avT]at this ⊢;omega
def anV(l:av3):lT l=[]∨(1≤(lT l).length∧(lT l).length≤l.length):=by
 unfold lT;cases h:marks.find? (kW l) with
 |none=>left;rfl
 |some w=>
  right
  have Z:=Up w (List.mem_of_find?_eq_some h);have ab:=List.find?_some h;have:=(of_decide_eq_true ab).1
  exact⟨Z.1,this⟩
def anW(w:av3):(lj w).1.Text.length≤w.length:=by
 cases w with
 |nil=>simp [lj]
 |cons c l=>
  unfold lj;simp only
  (repeat' split)<;>simp
def acM(l:av3)(aa:l≠[])(h:(fW l).2.2=0):1≤(fW l).2.1∧(fW l).2.1≤l.length∧(fW l).1.Text.length≤(fW l).2.1:=by
 cases l with
 |nil=>exact absurd rfl aa
 |cons c t=>
  unfold fW at h ⊢;simp only at h ⊢
  split at h
  ·rename_i hw;rw [if_pos hw];simp only
   have Z:=LL (c::t);refine⟨by rw [uM,hw];simp,Z,?_⟩
   refine Nat.le_trans (anW _) ?_;simp only [List.length_take];omega
  ·rename_i hw;rw [if_neg hw];split at h
   ·rename_i ho;rw [if_pos ho];cases au:gz t [] with
    |inl e=>rw [au]at h;exact absurd h (Fv t [] e au)
    |inr p=>
     have:=Ur t [] p au
     simp only [xy,avS,avT]at this ⊢;omega
   ·rename_i ho;rw [if_neg ho];split at h
    ·simp only at h;omega
    ·rename_i hm;rw [if_neg hm];have:=(anV (c::t)).resolve_left hm
     simp only
     exact⟨this.1,this.2,Nat.le_refl _⟩
def acN(c:UInt8)(t:av3)(h:fS c=true):∃k,hH (c::t)=k+1∧(c::t).take (hH (c::t))=c::t.take k∧k≤t.length:=by
 refine⟨hH t,by rw [uM,h];rfl,by rw [uM,h];rfl,LL t⟩
def anX{c:UInt8}(h:c.toNat=34):fS c=false:=by
 unfold fS;exact decide_eq_false (by omega)
def acO{n:Nat}(c:UInt8)(t:av3)(h:t.length+1<n)(hs:t.length+1≤140737488351232):
 zL n (c::t)=some ((fW (c::t)).1,(((fW (c::t)).2.1:Nat):Int),(fW (c::t)).2.2):=by
 unfold zL;rw [acy n (c::t) hs,an];unfold fW;simp only
 cases hw:fS c
 ·have h0:hH (c::t)=0:=by rw [uM,hw];rfl
  rw [h0];simp only [show decide ((0:Int)<((0:Nat):Int))=false from rfl,avP,mi (show 0<(c::t).length by simp),aT,List.getD_cons_zero,fx,Bool.false_eq_true,av2]
  by_cases ho:c.toNat=34
  ·rw [if_pos ho];simp only [ho,avM,avO];unfold QL;have:=anL n (c::t) (by simp only [avS];omega) n 1 [] (by simp only [avS];omega) (by simp) (by simp)
   rw [show zJ n (c::t) n ([]:List Int) 1=_ from this,List.drop_succ_cons,List.drop_zero]
   cases gz t [] with
   |inl e=>rfl
   |inr p=>simp only [xx,xy,an];rw [Nat.add_comm 1 p.2]
  ·rw [if_neg ho];simp only [ho,avN,avP,anR,an];by_cases hm:lT (c::t)=[]
   ·rw [if_pos hm];simp only [hm,avM,avO];rfl
   ·rw [if_neg hm];simp only [hm,avN,avP]
 ·obtain⟨k,hk,xz,Hs⟩:=acN c t hw;rw [if_pos rfl];simp only [fp,show 0<hH (c::t)by omega,avM,avO,xw (LL (c::t)),aT,avU]
  rw [xz,anH c (t.take k) (by simp only [List.length_take];omega) (by simp only [List.length_take];omega) hw]
  rfl
def anY{n:Nat}(s:av3)(i:Nat)(hi:i<s.length)(h:s.length<n)(ab:100<n)(hs:s.length≤140737488351232):
 ∃t z,Tz n s (i:Int)=some (t,z,(fW (s.drop i)).2.2)∧((fW (s.drop i)).2.2=0→t=(fW (s.drop i)).1∧z=((i+(fW (s.drop i)).2.1:Nat):Int)):=by
 unfold Tz;have hd:=fo s i 0 hi
 (simp only [avU])
 generalize hc:s.getD i 0=c at hd
 generalize aF:s.drop (i+1)=t at hd
 have vY:t.length+(i+1)=s.length:=by rw [←aF,List.length_drop];omega
 rw [hd];unfold fW;simp only [b1 hi,aT,fx];by_cases ho:c.toNat=34
 ·simp only [anX ho,Bool.false_eq_true,av2,ho,avM,avO,av1];unfold aaD;rw [eb (by omega)]
  obtain⟨z,dG⟩:=anM n s (by omega) n (i+1) [] (by omega) (by omega) (by simp)
  rw [dG,aF];cases au:gz t [] with
  |inl e=>exact⟨_,_,rfl,λbG=>absurd bG (Fv _ _ _ au)⟩
  |inr p=>exact⟨_,_,rfl,λ_=>⟨rfl,by simp only [xy,xx];rw [show i+1+p.2=i+(p.2+1)by omega]⟩⟩
 ·simp only [ho,avN,avP,av2,acw,an];cases hw:fS c
  ·simp only [avP,Bool.false_eq_true,av2,anS,an];have:=anU n s i marks (by omega) (by omega) (by decide) (λw hw=>(Up w hw).2) n 0 (by have:marks.length=20:=rfl;omega) (by omega)
   rw [show EP n s (i:Int) marks n 0=_ from this,List.drop_zero,hd]
   unfold lT;cases au:marks.find? (kW (c::t)) with
   |none=>exact⟨_,_,rfl,λbG=>absurd bG (by decide)⟩
   |some w=>
    have dk:¬ w=[]:=λe=>by have:=(Up w (List.mem_of_find?_eq_some au)).1;rw [e]at this;simp at this
    simp only [Option.getD_some,dk,av2];exact⟨_,_,rfl,λ_=>⟨rfl,rfl⟩⟩
  ·obtain⟨k,hk,xz,Hs⟩:=acN c t hw;have Uq:=LL (c::t);simp only [avS]at Uq;simp only [avO,av1,acx i h (by omega) (show s.length≤4611686018427387904 by omega),an,hd,Fp (Nat.le_add_right i (hH (c::t))) (show i+hH (c::t)≤s.length by omega),aT,avU,acL]
   rw [xz,anJ c (t.take k) (by simp only [List.length_take];omega) (by omega) (by simp only [List.length_take];omega) hw]
   exact⟨_,_,rfl,λ_=>⟨rfl,rfl⟩⟩
open Go Go.Ab Go.Proofs
def i7:Bool→av3→Nat
 |_,[]=>0
 |false,c::l=>if c.toNat=35 then 1+i7 true l else if c.toNat=32∨c.toNat=9∨c.toNat=10 then 1+i7 false l else 0
 |true,c::l=>if c.toNat=10 then 1+i7 false l else 1+i7 true l
def gT:av3→Nat
 |[]=>0
 |c::l=>if c.toNat=10 then 0 else 1+gT l
def Us:∀l,gT l≤l.length
 |[]=>Nat.le_refl _
 |c::l=>by have:=Us l;simp only [gT];split<;>simp only [avS]<;>omega
def Ut:∀l,i7 true l=gT l+i7 false (l.drop (gT l))
 |[]=>rfl
 |c::l=>by
  by_cases h:c.toNat=10
  ·simp only [i7,gT,h,av1,List.drop_zero,Nat.zero_add,show¬ (10=35)by omega,av2,or_true]
  ·simp only [i7,gT,h,av2];rw [Ut l,Nat.add_comm 1 (gT l),List.drop_succ_cons];omega
def anZ(n:Nat)(s:av3)(ak:Int→av8)(hs:s.length≤4611686018427387904):∀m i,s.length<i+m→i≤s.length→Lb n ak s m (i:Int)=ak ((i+gT (s.drop i):Nat):Int):=by
 intro m;induction m with
 |zero=>intro i h ab;omega
 |succ m aJ=>
  intro i hm hi;simp only [Lb,aat];by_cases h:i<s.length
  ·(rw [fo s i 0 h,eb (by omega),aJ (i+1) (by omega) (by omega)];simp only [avU])
   generalize s.getD i 0=c
   simp only [h,b1 h,avV,avM,avO,aT,av0,fx,gT];by_cases hG:c.toNat=10
   ·simp only [hG,avM,avQ,avP,av1];rfl
   ·simp only [hG,avN,avR,avO,av2];rw [show i+(1+gT (s.drop (i+1)))=i+1+gT (s.drop (i+1))by omega]
  ·rw [gE s i h];simp only [h,avV,avN,avP,avR,Bool.true_or,aT];rfl
def an0(n:Nat)(s:av3)(hs:s.length≤4611686018427387904)(hn:s.length<n):∀m i,s.length<i+m→i≤s.length→Lc n s m (i:Int)=some ((i+i7 false (s.drop i):Nat):Int):=by
 intro m;induction m with
 |zero=>intro i h ab;omega
 |succ m aJ=>
  intro i hm hi;simp only [Lc,aau,aas];by_cases h:i<s.length
  ·have gM:=Us (s.drop i);rw [anZ n s _ hs n i (by omega) hi]
   rw [fo s i 0 h]at gM ⊢
   (rw [eb (by omega),aJ (i+1) (by omega) (by omega)];simp only [avU])
   have vY:(s.drop (i+1)).length=s.length-(i+1):=List.length_drop;generalize s.getD i 0=c at gM ⊢
   simp only [h,b1 h,avV,avM,avO,aT,av0,fx,dH];by_cases uP:c.toNat=35
   ·have e:gT (c::s.drop (i+1))=1+gT (s.drop (i+1)):=by simp only [gT,uP,show¬ (35=10)by omega,av2]
    rw [e]at gM ⊢;simp only [avS,vY]at gM;rw [aJ (i+(1+gT (s.drop (i+1)))) (by omega) (by omega)]
    simp only [uP,avM,avO,i7,av1];rw [Ut,List.drop_drop]
    congr 2
    rw [show i+(1+gT (s.drop (i+1)))=i+1+gT (s.drop (i+1))by omega]
    omega
   ·simp only [uP,avN,avP,i7,av2];by_cases hb:c.toNat=32∨c.toNat=9∨c.toNat=10
    ·have:(decide (c.toNat=32)||decide (c.toNat=9)||decide (c.toNat=10))=true:=by
      rcases hb with hb|hb|hb<;>simp [hb]
     rw [if_pos hb,this,avO]
     congr 2;omega
    ·have:(decide (c.toNat=32)||decide (c.toNat=9)||decide (c.toNat=10))=false:=by
      simp only [not_or]at hb;simp only [hb.1,hb.2.1,hb.2.2,avN,Bool.or_self]
     rw [if_neg hb,this,avP];rfl
  ·rw [gE s i h];simp only [h,avV,avN,avP];rfl
def fd(s:av3)(i:Nat):Nat:=(s.take i).count 10
def acP(s:av3)(i k:Nat)(h:(10:UInt8)∉(s.drop i).take k):fd s (i+k)=fd s i:=by
 unfold fd;rw [List.take_add,List.count_append,List.count_eq_zero.2 h];rfl
def acQ(s:av3)(i:Nat)(h:i<s.length):fd s (i+1)=fd s i+(if(s.getD i 0).toNat=10 then 1 else 0):=by
 unfold fd;rw [List.take_add,List.count_append,fo s i 0 h,List.take_succ_cons,List.take_zero]
 congr 1
 generalize s.getD i 0=c
 by_cases hc:c.toNat=10
 ·rw [if_pos hc];obtain rfl:c=10:=UInt8.toNat_inj.1 hc;rfl
 ·rw [if_neg hc];refine List.count_eq_zero.2 λhm=>?_
  simp only [List.mem_cons,List.not_mem_nil,or_false]at hm;exact hc (by rw [←hm];rfl)
def an1(n:Nat)(s:av3)(a:Nat)(hs:s.length≤4611686018427387904)(ha:a≤s.length):∀m i,a<i+m→i≤a→La n s (a:Int) m ((fd s i:Nat):Int) (i:Int)=some ((fd s a:Nat):Int):=by
 intro m;induction m with
 |zero=>intro i h ab;omega
 |succ m aJ=>
  intro i hm hi;simp only [La,aar,aaq,Tt];by_cases h:i<a
  ·have hle:fd s i≤i:=by unfold fd;exact Nat.le_trans List.count_le_length (by simp;omega)
   have km:=acQ s i (by omega)
   have pw:=aJ (i+1) (by omega) (by omega)
   rw [km]at pw
   (rw [eb (by omega),eb (by omega)];simp only [avU])
   generalize s.getD i 0=c at pw
   simp only [h,b1 (show i<s.length by omega),avV,avM,avO,aT,fx]
   by_cases hG:c.toNat=10
   ·rw [if_pos hG]at pw;simp only [hG,avM,avO];exact pw
   ·rw [if_neg hG]at pw;simp only [hG,avN,avP];exact pw
  ·obtain rfl:i=a:=by omega
   simp only [Nat.lt_irrefl,avV,avN,avP]
def an2{n:Nat}(s:av3)(a:Nat)(hs:s.length≤4611686018427387904)(ha:a≤s.length)(hn:s.length<n):Tu n s (a:Int)=some ((fd s a:Nat):Int):=by
 unfold Tu;exact an1 n s a hs ha n 0 (by omega) (by omega)
def Uu:∀(l acc:av3) (p:av3×Nat),gz l acc = .inr p→(10:UInt8)∉l.take p.2
 |[],acc,e,h=>by simp only [gz,reduceCtorEq]at h
 |[c],acc,p,h=>by
  simp only [gz]at h;split at h
  ·rename_i hc;simp only [Sum.inr.injEq]at h;subst h;intro hm;simp only [List.take_succ_cons,List.take_zero,List.mem_cons,List.not_mem_nil,or_false]at hm;rw [←hm]at hc;exact absurd hc (by decide)
  ·(repeat' split at h)<;>simp only [reduceCtorEq]at h
 |c::d::l,acc,p,h=>by
  simp only [gz]at h;split at h
  ·rename_i hc;simp only [Sum.inr.injEq]at h;subst h;intro hm;simp only [List.take_succ_cons,List.take_zero,List.mem_cons,List.not_mem_nil,or_false]at hm;rw [←hm]at hc;exact absurd hc (by decide)
  ·split at h
   ·rename_i ho nU;split at h
    ·simp only [reduceCtorEq]at h
    ·rename_i hd;split at h
     ·simp only [reduceCtorEq]at h
     ·cases au:gz l (acc++[d]) with
      |inl aZ=>rw [au]at h;simp only [up,reduceCtorEq]at h
      |inr q=>
       rw [au]at h;simp only [up,Sum.inr.injEq]at h;subst h;have:=Uu l _ _ au
       intro hm;simp only [List.take_succ_cons,List.mem_cons]at hm;rcases hm with hm|hm|hm
       ·rw [←hm]at nU;exact absurd nU (by decide)
       ·rw [←hm]at hd;exact absurd (show(10:UInt8).toNat≠34∧(10:UInt8).toNat≠92 by decide) hd
       ·exact this hm
   ·split at h
    ·simp only [reduceCtorEq]at h
    ·rename_i cP;split at h
     ·simp only [reduceCtorEq]at h
     ·cases au:gz (d::l) (acc++[c]) with
      |inl aZ=>rw [au]at h;simp only [up,reduceCtorEq]at h
      |inr q=>
       rw [au]at h;simp only [up,Sum.inr.injEq]at h;subst h;have:=Uu (d::l) _ _ au
       intro hm;rw [List.take_succ_cons,List.mem_cons]at hm;rcases hm with hm|hm
       ·rw [←hm]at cP;exact cP (by decide)
       ·exact this hm
def an3(l:av3)(aa:l≠[])(h:(fW l).2.2=0):(10:UInt8)∉l.take (fW l).2.1:=by
 cases l with
 |nil=>exact absurd rfl aa
 |cons c t=>
  unfold fW at h ⊢;simp only at h ⊢
  split at h
  ·rename_i hw;rw [if_pos hw];simp only
   intro hm
   have e:(c::t).take (hH (c::t))=(c::t).takeWhile fS:=by
    unfold hH;exact(List.prefix_iff_eq_take.1 (List.takeWhile_prefix fS)).symm
   rw [e]at hm;have:=List.all_eq_true.1 (List.all_takeWhile (p:=fS) (l:=c::t)) _ hm
   exact absurd this (by decide)
  ·rename_i hw;rw [if_neg hw];split at h
   ·rename_i ho;rw [if_pos ho];cases au:gz t [] with
    |inl e=>rw [au]at h;exact absurd h (Fv t [] e au)
    |inr p=>
     simp only [xy];intro hm;rw [List.take_succ_cons,List.mem_cons]at hm;rcases hm with hm|hm
     ·rw [←hm]at ho;exact absurd ho (by decide)
     ·exact Uu _ _ _ au hm
   ·rename_i ho;rw [if_neg ho];split at h
    ·simp only at h;omega
    ·rename_i hm;rw [if_neg hm];simp only
     unfold lT at hm ⊢;cases au:marks.find? (kW (c::t)) with
     |none=>rw [au]at hm;exact absurd rfl hm
     |some w=>
      simp only [Option.getD_some];have ab:=List.find?_some au;rw [(of_decide_eq_true ab).2];have:∀w,w∈marks→decide ((10:UInt8)∉w)=true:=by decide
      exact of_decide_eq_true (this w (List.mem_of_find?_eq_some au))
def acR:∀l:av3,(10:UInt8)∉l.take (gT l)
 |[]=>by simp
 |c::l=>by
  by_cases h:c.toNat=10
  ·simp [gT,h]
  ·have:=acR l
   simp only [gT,h,av2];rw [Nat.add_comm,List.take_succ_cons,List.mem_cons];intro hm;rcases hm with hm|hm
   ·rw [←hm]at h;exact h rfl
   ·exact this hm
open Go Go.Ab Go.Proofs
def lU:List Token→Nat
 |[]=>0
 |t::l=>60+t.Text.length+lU l
def Uv:∀l m:List Token,lU (l++m)=lU l+lU m
 |[],m=>by simp [lU]
 |t::l,m=>by rw [List.cons_append,lU,lU,Uv l m];omega
def LO:∀l:List Token,60*l.length≤lU l
 |[]=>Nat.le_refl _
 |t::l=>by have:=LO l;simp only [lU,avS];omega
def an4(n:Nat)(src:av3)(ak:List Token→Int→Int→Option (List Token×Int×Int))(out:List Token)(j':Int)(hs:src.length≤4611686018427387904):
 ∀m i,src.length<i+m→i≤src.length→DX n ak src out j' m (i:Int)=ak out j' ((i+gT (src.drop i):Nat):Int):=by
 intro m;induction m with
 |zero=>intro i h ab;omega
 |succ m aJ=>
  intro i hm hi;simp only [DX,QP,QO];by_cases h:i<src.length
  ·(rw [fo src i 0 h,eb (by omega),aJ (i+1) (by omega) (by omega)];simp only [avU])
   generalize src.getD i 0=c
   simp only [h,b1 h,avV,avM,avO,aT,av0,fx,gT];by_cases hG:c.toNat=10
   ·simp only [hG,avM,avQ,avP,av1];rfl
   ·simp only [hG,avN,avR,avO,av2];rw [show i+(1+gT (src.drop (i+1)))=i+1+gT (src.drop (i+1))by omega]
  ·rw [gE src i h];simp only [h,avV,avN,avP,avR,Bool.true_or,aT];rfl
def clone{n:Nat}{s:av3}(h:s.length≤281474976710656):Ja n s=some s:=by
 unfold Ja HH;simp only [h,avM,aT,an]
def acS{k:Nat}(h:k≤1000000000000):room k 40=true:=by simp [room];omega
def acT{n:Nat}(s:av3)(i:Nat)(hs:s.length≤4611686018427387904)(hn:s.length<n)(hi:i≤s.length):Ld n s (i:Int)=some ((i+i7 false (s.drop i):Nat):Int):=an0 n s hs hn n i (by omega) hi
def an5(
 G:Token→Prop) (p8:∀(s:av3) (j':Int),s≠[]→(fW s).2.2=0→G ⟨(fW s).1.Kind,(fW s).1.Text,(fW s).1.N,j'⟩) (n:Nat) (src:av3) (hs:src.length≤1000000000) (hn:src.length<n) (rE:100<n):∀(k i m m2:Nat) (out:List Token),src.length-i=k→i≤src.length→src.length<i+m→src.length<i+m2→lU out≤61*i→(∀t,t∈out→G t)→
 ∃r,sT n src m out ((fd src i+1:Nat):Int) (i:Int)=some r∧EQ n src m2 out ((i+i7 false (src.drop i):Nat):Int)=some r∧(r.2.2=0→lU r.1≤61*src.length∧∀t,t∈r.1→G t):=by
 intro k;induction k using Nat.strongRecOn with
 |_ k acU=>
  intro i m m2 out hk hi hm au8 hw Uw;cases m with
  |zero=>omega
  |succ m=>
   simp only [sT,zO,zM];by_cases h:i<src.length
   ·have hd:=fo src i 0 h;have km:=acQ src i h;have au9:fd src i≤i:=by unfold fd;exact Nat.le_trans List.count_le_length (by simp;omega)
    simp only [zN,DW]
    (rw [an4 n src _ out _ (by omega) n i (by omega) hi,eb (by omega),eb (by omega)];simp only [avU])
    have vY:(src.drop (i+1)).length=src.length-(i+1):=List.length_drop;have gM:=Us (src.drop i);have an6:=acR (src.drop i);have Ux:∀(j:Nat),i<j→j≤src.length→_:=λj hj vM=>acU (src.length-j) (by omega) j m m2 out rfl vM (by omega) (by omega) (by omega) Uw
    generalize hc:src.getD i 0=c at hd km
    simp only [h,b1 h,avV,avM,avO,aT,fx];by_cases hG:c.toNat=10
    ·simp only [hG,avM,avO];obtain⟨r,Z,ab,aj⟩:=Ux (i+1) (by omega) (by omega)
     rw [km,if_pos hG]at Z;refine⟨r,Z,?_,aj⟩
     rw [hd];simp only [i7,hG,show¬ (10=35)by omega,av2,or_true,av1]
     rw [show i+(1+i7 false (src.drop (i+1)))=i+1+i7 false (src.drop (i+1))by omega]
     exact ab
    ·have an7:fd src (i+1)=fd src i:=by rw [km,if_neg hG];rfl
     simp only [hG,avN,avP];by_cases hb:c.toNat=32∨c.toNat=9
     ·obtain⟨r,Z,ab,aj⟩:=Ux (i+1) (by omega) (by omega)
      rw [an7]at Z;refine⟨r,?_,?_,aj⟩
      ·rcases hb with hb|hb
       ·simp only [hb,avM,avO];exact Z
       ·simp only [hb,show¬ (9=32)by omega,avN,avM,avO,avP];exact Z
      ·rw [hd];simp only [i7];rw [if_neg (by omega),if_pos (by omega),show i+(1+i7 false (src.drop (i+1)))=i+1+i7 false (src.drop (i+1))by omega]
       exact ab
     ·have cy:¬ c.toNat=32:=λe=>hb (Or.inl e)
      have eV:¬ c.toNat=9:=λe=>hb (Or.inr e)
      simp only [cy,eV,avN,avP];by_cases uP:c.toNat=35
      ·simp only [uP,avM,avO];have e:gT (src.drop i)=1+gT (src.drop (i+1)):=by rw [hd];simp only [gT,hG,av2]
       obtain⟨r,Z,ab,aj⟩:=Ux (i+gT (src.drop i)) (by omega) (by simp only [List.length_drop]at gM;omega)
       rw [acP src i _ an6]at Z;refine⟨r,Z,?_,aj⟩
       rw [hd];simp only [i7,uP,av1]
       rw [Ut,List.drop_drop,show i+(1+(gT (src.drop (i+1))+i7 false (src.drop (i+1+gT (src.drop (i+1))))))=i+gT (src.drop i)+i7 false (src.drop (i+gT (src.drop i))) by
        rw [e,show i+(1+gT (src.drop (i+1)))=i+1+gT (src.drop (i+1))by omega];omega]
       exact ab
      ·simp only [uP,avN,avP,xw (Nat.le_of_lt h),aT]
       have an8:i7 false (src.drop i)=0:=by
        rw [hd];simp only [i7];rw [if_neg uP,if_neg (by omega)]
       rw [an8,show i+0=i from rfl]
       cases m2 with
       |zero=>omega
       |succ m2=>
        simp only [EQ,TA];have dk:src.drop i≠[]:=by rw [hd];simp
        obtain⟨t,z,hE,ir⟩:=anY (n:=n) src i h (by omega) rE (by omega)
        have ba:zL n (src.drop i)=some ((fW (src.drop i)).1,(((fW (src.drop i)).2.1:Nat):Int),(fW (src.drop i)).2.2):=by
         rw [hd];exact acO c (src.drop (i+1)) (by omega) (by omega)
        rw [ba,hE,an2 src i (by omega) hi hn]
        simp only [h,avV,avM,avO,an];rw [eb (by omega)]
        by_cases he:(fW (src.drop i)).2.2=0
        ·have cP:=acM _ dk he;have Uy:=an3 _ dk he;have au':(src.drop i).length=src.length-i:=List.length_drop;obtain⟨rfl,rfl⟩:=ir he;have fJ:=p8 (src.drop i) ((fd src i+1:Nat):Int) dk he;generalize fW (src.drop i)=T at he cP Uy fJ
         obtain⟨t,kk,e⟩:=T;simp only at he cP Uy fJ
         subst he;have GI:=LO out;simp only [avM,avQ,avP,clone (show t.Text.length≤281474976710656 by omega),an,avS,avT,acS (show out.length+(0+1)≤1000000000000 by omega),aT]
         rw [show av5 ((i:Int)+((kk:Nat):Int))=((i+kk:Nat):Int)by rw [wr]<;>omega,acT src (i+kk) (by omega) hn (by omega),an]
         obtain⟨r,Z,ab,aj⟩:=acU (src.length-(i+kk)) (by omega) (i+kk) m m2 (out++[⟨t.Kind,t.Text,t.N,((fd src i+1:Nat):Int)⟩]) rfl (by omega) (by omega) (by omega) (by rw [Uv];simp only [lU];omega) (λbY eO=>by
          rcases List.mem_append.1 eO with cS|cS
          ·exact Uw bY cS
          ·obtain rfl:=List.mem_singleton.1 cS;exact fJ)
         rw [acP src i _ Uy]at Z;exact⟨r,Z,ab,aj⟩
        ·simp only [he,avN,avR,avO];exact⟨_,rfl,rfl,λbG=>absurd bG he⟩
   ·rw [gE src i h];simp only [i7,Nat.add_zero];cases m2 with
    |zero=>omega
    |succ m2=>
     simp only [EQ,TA,aaG,h,avV,avN,avP];exact⟨_,rfl,rfl,λ_=>⟨by simp only;omega,Uw⟩⟩
def an9(G:Token→Prop)(p8:∀(s:av3) (j':Int),s≠[]→(fW s).2.2=0→G ⟨(fW s).1.Kind,(fW s).1.Text,(fW s).1.N,j'⟩){n:Nat}(src:av3)(hn:src.length≤16384→src.length<n)(rE:100<n):
 ∃r,wV n src=some r∧aaH n src=some r∧(r.2.2=0→lU r.1≤61*src.length∧src.length≤16384∧∀t,t∈r.1→G t):=by
 unfold wV aaH;simp only [fp];by_cases h:16384<src.length
 ·simp only [h,avM,avO];exact⟨_,rfl,rfl,λe=>absurd e (by decide)⟩
 ·simp only [h,avN,avP];have hn:=hn (by omega)
  have:=acT (n:=n) src 0 (by omega) hn (by omega)
  rw [show Ld n src 0=_ from this,an]
  obtain⟨r,Z,ab,aj⟩:=an5 G p8 n src (by omega) hn rE (src.length-0) 0 n n [] rfl (by omega) (by omega) (by omega) (by simp [lU]) (λt aF=>by cases aF)
  exact⟨r,Z,ab,λe=>⟨(aj e).1,by omega,(aj e).2⟩⟩
def an'(s:av3)(j':Int)(hs:s≠[])(h:(fW s).2.2=0):(fW s).1.Kind=5→(fW s).1.Text∈marks:=by
 cases s with
 |nil=>exact absurd rfl hs
 |cons c t=>
  unfold fW at h ⊢;simp only at h ⊢
  split
  ·intro hk;exfalso
   revert hk
   generalize (c::t).take (hH (c::t))=w
   cases w with
   |nil=>intro hk;simp [lj]at hk
   |cons d w=>
    unfold lj;simp only
    (repeat' split)<;>(intro hk;simp at hk)
  ·split
   ·cases gz t []<;>(intro hk;exfalso;simp [xy]at hk)
   ·split
    ·rename_i hm;intro hk;exfalso;simp at hk
    ·rename_i hm;intro _;simp only
     unfold lT at hm ⊢;cases au:marks.find? (kW (c::t)) with
     |none=>rw [au]at hm;exact absurd rfl hm
     |some w=>exact List.mem_of_find?_eq_some au
open Go Go.Ab Go.Proofs
def hI(l:List Token)(i:Nat)(w:av3):Bool:=
 decide (i<l.length)&&((decide ((l.getD i default).Kind=2)||decide ((l.getD i default).Kind=5))&&decide ((l.getD i default).Text=w))
def Uz{l:List Token}{i:Nat}{w:av3}(h:hI l i w=true):i<l.length:=by
 unfold hI at h;simp only [Bool.and_eq_true,decide_eq_true_eq]at h;exact h.1
def xA(n:Nat)(l:List Token)(i:Nat)(w:av3):uu n w ⟨l,(i:Int)⟩=some (hI l i w):=by
 unfold uu hI;simp only [avU,Int.ofNat_le,dH,el];by_cases h:i<l.length
 ·simp only [show¬ l.length≤i by omega,avN,avP,b1 h,aT,h,avM,Bool.true_and]
 ·simp only [show l.length≤i by omega,avM,avO,h,avN,Bool.false_and]
def acV(l:List Token)(i:Nat):Int:=
 if i<l.length then(l.getD i default).lJ else if l.length=0 then 1 else(l.getD (l.length-1) default).lJ
def tK(l:List Token)(i:Nat)(c:Int):V:=.iface 379 (.agg [.int .i64 (acV l i),.int .i64 c])
def A9(l:List Token)(i:Nat)(c:Int):Int:=if i<l.length then c else 6
def LP(n:Nat)(l:List Token)(i:Nat)(c:Int)(aa:l.length≤4611686018427387904):sU n c ⟨l,(i:Int)⟩=some (.bl (tK l i (A9 l i c)) ()):=by
 unfold sU QR QQ tK acV A9;simp only [avU,avV];by_cases h:i<l.length
 ·simp only [h,b1 h,avM,avO,aT,av1]
 ·simp only [h,avN,avP,av2];by_cases h0:l.length=0
  ·simp only [h0,av1];rfl
  ·have:av5 (((l.length:Nat):Int)-1)=((l.length-1:Nat):Int):=by rw [wr]<;>omega
   rw [this];simp only [fx,h0,avN,avP,b1 (show l.length-1<l.length by omega),aT,avU,av2]
def Fw(n:Nat)(l:List Token)(i:Nat)(w:av3)(hi:i≤4611686018427387904):kO n w ⟨l,(i:Int)⟩=some (hI l i w,(((bif hI l i w then i+1 else i):Nat):Int)):=by
 unfold kO;rw [xA,an,eb hi];cases hI l i w<;>rfl
def A'(n:Nat)(l:List Token)(i:Nat)(w:av3)(hi:i≤4611686018427387904)(aa:l.length≤4611686018427387904):
 kP n w ⟨l,(i:Int)⟩=some (bif hI l i w then .ret () ((i+1:Nat):Int)else .bl (tK l i (A9 l i 5)) (i:Int)):=by
 unfold kP;rw [Fw n l i w hi,an];cases hI l i w
 ·simp only [avR,avO,avP];rw [LP n l i 5 aa,an];rfl
 ·rfl
def rF:List (av3×Int×Int):=[([111,114],1,17),([97,110,100],2,16),([61,61],4,10),([33,61],4,11),([60],4,12),([60,61],4,13),([62],4,14),([62,61],4,15),([43,43],5,19),([43],6,4),([45],6,5),([42],7,6),([47],7,7),([37],7,8)]
def LQ:Option (av3×Int×Int)→Int×Int
 |none=>(0,0)
 |some r=>r.2
def ta(l:List Token)(i:Nat):Int×Int:=LQ (rF.find? λr=>hI l i r.1)
def UA{l:List Token}{i:Nat}(h:i<l.length)(hk:(l.getD i default).Kind=2∨(l.getD i default).Kind=5)(w:av3):hI l i w=decide ((l.getD i default).Text=w):=by
 unfold hI;have:(decide ((l.getD i default).Kind=2)||decide ((l.getD i default).Kind=5))=true:=by rcases hk with hk|hk<;>rw [decide_eq_true hk]<;>simp
 rw [this,decide_eq_true h];rfl
def LR{l:List Token}{i:Nat}(h:¬ (i<l.length∧((l.getD i default).Kind=2∨(l.getD i default).Kind=5)))(w:av3):hI l i w=false:=by
 unfold hI;by_cases Z:i<l.length
 ·by_cases ab:(l.getD i default).Kind=2
  ·exact absurd ⟨Z,Or.inl ab⟩ h
  ·by_cases aj:(l.getD i default).Kind=5
   ·exact absurd ⟨Z,Or.inr aj⟩ h
   ·rw [decide_eq_false ab,decide_eq_false aj];simp
 ·rw [decide_eq_false Z];rfl
def UB(n:Nat)(l:List Token)(i:Nat):Jc n ⟨l,(i:Int)⟩=some (ta l i):=by
 unfold Jc ta
 (simp only [avU])
 simp only [Int.ofNat_le,el];by_cases h:i<l.length
 ·simp only [show¬ l.length≤i by omega,avN,avP,b1 h,aT]
  by_cases hk:(l.getD i default).Kind=2∨(l.getD i default).Kind=5
  ·have ig:((!decide ((l.getD i default).Kind=2)) && !decide ((l.getD i default).Kind=5))=false:=by
    rcases hk with hk|hk<;>rw [decide_eq_true hk]<;>simp
   rw [ig];simp only [avP,UA h hk];generalize (l.getD i default).Text=w
   by_cases hw:w∈rF.map (·.1)
   ·simp only [rF,List.map_cons,List.map_nil,List.mem_cons,List.not_mem_nil,or_false]at hw;rcases hw with rfl|rfl|rfl|rfl|rfl|rfl|rfl|rfl|rfl|rfl|rfl|rfl|rfl|rfl<;>rfl
   ·simp only [rF,List.map_cons,List.map_nil,List.mem_cons,List.not_mem_nil,or_false,not_or]at hw;simp only [hw,avN,avP,rF,List.find?_cons,List.find?_nil];rfl
  ·have ig:((!decide ((l.getD i default).Kind=2)) && !decide ((l.getD i default).Kind=5))=true:=by
    simp only [not_or]at hk;rw [decide_eq_false hk.1,decide_eq_false hk.2];rfl
   rw [ig];simp only [avO,LR (λx=>hk x.2),rF,List.find?_cons,List.find?_nil]
   rfl
 ·simp only [show l.length≤i by omega,avM,avO,LR (λx=>h x.1),rF,List.find?_cons,List.find?_nil]
  rfl
open Go Go.Ab Go.Proofs
def qr:List (av3×Int):=[([116,101,120,116],20),([108,101,110],21),([103,101,116,105,110,116],22),([103,101,116,115,116,114],23),([104,97,115],24),([110,111,119],25),([114,97,110,100,111,109],26),([110,111,100,101],27)]
def call2:Option (av3×Int)→Int
 |none=>0
 |some r=>r.2
def LS(l:List Token)(i:Nat):Int:=call2 (qr.find? λr=>hI l i r.1)
def lk(l:List Token):Prop:=∀t,t∈l→t.Kind=5→t.Text∈marks
def UC(n:Nat)(l:List Token)(i:Nat)(hg:lk l):Je n ⟨l,(i:Int)⟩=some (LS l i):=by
 unfold Je LS
 (simp only [avU])
 simp only [Int.ofNat_le,dH];by_cases h:i<l.length
 ·simp only [show¬ l.length≤i by omega,avN,Bool.false_or,b1 h,aT]
  by_cases hk:(l.getD i default).Kind=2
  ·simp only [hk,avM,avQ,avP,UA h (Or.inl hk)];generalize (l.getD i default).Text=w
   by_cases hw:w∈qr.map (·.1)
   ·simp only [qr,List.map_cons,List.map_nil,List.mem_cons,List.not_mem_nil,or_false]at hw;rcases hw with rfl|rfl|rfl|rfl|rfl|rfl|rfl|rfl<;>rfl
   ·simp only [qr,List.map_cons,List.map_nil,List.mem_cons,List.not_mem_nil,or_false,not_or]at hw;simp only [hw,avN,avP,qr,List.find?_cons,List.find?_nil];rfl
  ·simp only [hk,avN,avR,avO];by_cases aX:(l.getD i default).Kind=5
   ·have hm:(l.getD i default).Text∈marks:=hg _ (by simp [List.getD,h]) aX
    simp only [UA h (Or.inr aX)];generalize (l.getD i default).Text=w at hm
    have:∀w,w∈marks→qr.find? (λr=>decide (w=r.1))=none:=by decide
    rw [this w hm];rfl
   ·have:∀w,hI l i w=false:=LR (λx=>by rcases x.2 with e|e;exact hk e;exact aX e)
    simp only [this,qr,List.find?_cons,List.find?_nil];rfl
 ·simp only [show l.length≤i by omega,avM,Bool.true_or,aT,avO,LR (λx=>h x.1),qr,List.find?_cons,List.find?_nil]
  rfl
def UD(n:Nat)(l:List Token)(i d:Nat)(aa:l.length≤4611686018427387904)(hd:d≤24):zP n (d:Int) ⟨l,(i:Int)⟩=some (if d=24 then .bl (tK l i (A9 l i 2)) ()else .ret ((d+1:Nat):Int) ()):=by
 unfold zP Jd;simp only [s'];by_cases h:d=24
 ·simp only [show 24≤d by omega,avM,avO,LP n l i 2 aa,an,h,av1];rfl
 ·simp only [show¬ 24≤d by omega,avN,avP,h,av2]
  rw [eb (by omega)]
open Go Go.Ab Go.Proofs
def Fx(n:Nat):h5 (n+1)=uv n (h5 n) (oE n) (m_ n) (oF n):=rfl
def an_(n:Nat):oE (n+1)=Jg n (h5 n) (oE n) (m_ n) (oF n):=rfl
def aoa(n:Nat):m_ (n+1)=Ji n (h5 n) (oE n) (m_ n) (oF n):=rfl
def aob(n:Nat):oF (n+1)=Jj n (h5 n) (oE n) (m_ n) (oF n):=rfl
section
variable {l:List Token}
theorem acW{i:Nat}(h:i≤1000000000):av5 (((i+1:Nat):Int)-1)=(i:Int):=by rw [wr]<;>omega
end
open Go Go.Ab Go.Proofs
def i8(e:Expr):(⟨e.Op,e.N,e.S,e.ax⟩:Expr)=e:=by cases e;rfl
section
variable {l:List Token}
end
open Go Go.Ab Go.Proofs
open Go Go.Ab Go.Proofs
def aoc(n:Nat)(l:List Token)(i:Nat)(kd:Int)(aa:l.length≤1000000000)(hi:i≤l.length):
 qg n kd ⟨l,(i:Int)⟩=some (if i<l.length∧(l.getD i default).Kind=kd then .ret (l.getD i default) ((i+1:Nat):Int)else .bl (tK l i (A9 l i 5)) (i:Int)):=by
 unfold qg Jk
 (rw [eb (by omega),acW (by omega)];simp only [avU])
 simp only [Int.ofNat_le,dH];by_cases h:i<l.length
 ·simp only [show¬ l.length≤i by omega,avN,Bool.false_or,b1 h,aT,h,true_and]
  by_cases hk:(l.getD i default).Kind=kd
  ·rw [if_pos hk];simp only [hk,avM,avQ,avP]
  ·rw [if_neg hk];simp only [hk,avN,avR,avO,LP n l i 5 (by omega),an,aG.on]
 ·rw [if_neg (λx=>h x.1)]
  simp only [show l.length≤i by omega,avM,Bool.true_or,aT,avO,LP n l i 5 (by omega),an,aG.on]
section
variable {α:Type} {wt:α→Nat} {l:List Token}
end
mutual
def fst:Stmt→Nat
 |⟨_,Name,_,A,B,Body,bB⟩=>80+Name.length+di A+di B+dC Body+dC bB
def dC:List Stmt→Nat
 |[]=>0
 |x::l=>fst x+1+dC l
end
def mF(s:Stmt):(⟨s.Op,s.Name,s.Max,s.A,s.B,s.Body,s.bB⟩:Stmt)=s:=by cases s;rfl
def fst_eq(s:Stmt):fst s=80+s.Name.length+di s.A+di s.B+dC s.Body+dC s.bB:=by cases s;rfl
def UE:∀l m:List Stmt,dC (l++m)=dC l+dC m
 |[],m=>by simp [dC]
 |x::l,m=>by rw [List.cons_append,dC,dC,UE l m];omega
def tb:∀l:List Stmt,80*l.length≤dC l
 |[]=>Nat.le_refl _
 |x::l=>by have:=tb l;have:=fst_eq x;simp only [dC,avS];omega
def aod(n:Nat)(s:Stmt)(l:List Token)(i:Nat)(hi:i≤4611686018427387904)(aa:l.length≤4611686018427387904):
 rx n s ⟨l,(i:Int)⟩=some (bif hI l i [59]then .ret s ((i+1:Nat):Int)else .bl (tK l i (A9 l i 5)) (i:Int)):=by
 unfold rx;rw [A' n l i _ hi aa];cases hI l i [59]
 ·rfl
 ·simp only [an,avO,aG.on,i8,mF]
open Go Go.Ab Go.Proofs
def aoe(n:Nat):ry (n+1)=Jn n (ry n) (w5 n) (zS n):=rfl
def tc(n:Nat):w5 (n+1)=pn n (ry n) (w5 n) (zS n):=rfl
def aof(n:Nat):zS (n+1)=Ju n (ry n) (w5 n) (zS n):=rfl
section
variable {l:List Token}
theorem aog{k:Nat}(h:k≤100000000000):room k 192=true:=by simp [room];omega
end
open Go Go.Ab Go.Proofs
section
variable {l:List Token}
end
open Go Go.Ab Go.Proofs
section
variable {l:List Token}
end
open Go Go.Ab Go.Proofs
section
variable {l:List Token}
end
open Go Go.Ab Go.Proofs
section
variable {l:List Token}
theorem acX{k:Nat}(h:k≤100000000000):room k 24=true:=by simp [room];omega
end
open Go Go.Ab Go.Proofs
def h8:List Param→Nat
 |[]=>0
 |p::l=>60+p.Name.length+h8 l
def A_:∀l:List Param,60*l.length≤h8 l
 |[]=>Nat.le_refl _
 |t::l=>by have:=A_ l;simp only [h8,avS];omega
section
variable {l:List Token}
def aoh(p:bg):Nat:=p.Name.length+h8 p.Params+dC p.Body
end
open Go Go.Ab Go.Proofs
mutual
def g':Expr→Int→Int
 |⟨Op,N,S,ax⟩,d=>if pu ⟨Op,N,S,ax⟩ d=0 then td ax (av5 (d+1))else pu ⟨Op,N,S,ax⟩ d
def td:List Expr→Int→Int
 |[],d=>0
 |x::l,d=>if g' x d=0 then td l d else g' x d
end
def acY(e:Expr)(d:Int):g' e d=if pu e d=0 then td e.ax (av5 (d+1))else pu e d:=by cases e;rfl
def acZ:∀(n:Nat) (e:Expr) (d:Int),di e≤n→di e≤140737488351232→y9 n e d=some (g' e d)∧AE n e d=some (g' e d):=by
 intro n;induction n with
 |zero=>intro e d h;rw [qo]at h;omega
 |succ n aJ=>
  intro e d h aa;have uN:=qo e;have uO:=Fq e.ax;simp only [y9,AE,PR,S1];rw [ant e d (by omega) (by omega),anu e d (by omega) (by omega) (by omega),acY]
  simp only [an];by_cases h0:pu e d=0
  ·rw [if_pos h0];simp only [h0,avM,avQ,avP]
   have gS:∀m i,e.ax.length<i+m→i≤e.ax.length→Dc n (y9 n) d e m (i:Int)=some (td (e.ax.drop i) (av5 (d+1)))∧EC n (AE n) d e m (i:Int)=some (td (e.ax.drop i) (av5 (d+1))):=by
    intro m;induction m with
    |zero=>intro i Z ab;omega
    |succ m li=>
     intro i Z ab;simp only [Dc,PQ,PP,EC,S0,SZ];by_cases hi:i<e.ax.length
     ·have hg:=Fr e.ax i hi;obtain⟨hE,ir⟩:=aJ (e.ax.getD i default) (av5 (d+1)) (by omega) (by omega)
      obtain⟨aoi,rE⟩:=li (i+1) (by omega) (by omega)
      (rw [fo e.ax i default hi,eb (by omega)];simp only [avU];rw [hE,ir,aoi,rE])
      simp only [hi,b1 hi,avV,avM,avO,aT,an,td];by_cases ai:g' (e.ax.getD i default) (av5 (d+1))=0
      ·simp only [ai,avM,avQ,avP,av1,and_self]
      ·simp only [ai,avN,avR,avO,av2,and_self]
     ·rw [gE e.ax i hi];simp only [hi,avV,avN,avP,td,and_self]
   exact gS n 0 (by omega) (by omega)
  ·rw [if_neg h0];simp only [h0,avN,avR,avO,and_self]
def ac0{n:Nat}(e:Expr)(h:di e≤n)(aa:di e≤140737488351232):Dd n e=some (g' e 1):=by
 simp only [Dd,(acZ n e 1 h aa).1,an]
def ac1{n:Nat}(e:Expr)(h:di e≤n)(aa:di e≤140737488351232):ED n e=some (g' e 1):=by
 simp only [ED,(acZ n e 1 h aa).2,an]
def ng(e:Expr):Bool:=decide (e.Op=0)&&decide (e.N=0)&&decide (e.S=[])&&decide (e.ax.length=0)
def ac2(n:Nat)(e:Expr):y' n e=some (ng e):=by
 simp only [y',ng,el,fx]
def ac3(n:Nat)(e:Expr):sY n e=some (ng e):=by
 simp only [sY,ng,el,fx]
def j_(op:Int):k_×Bool:=
 if op=1∨op=2 then(⟨true,true,false,false,false,false⟩,true)
 else if op=3 then(⟨false,true,true,false,false,false⟩,true)
 else if op=4∨op=7 then(⟨false,true,false,false,false,false⟩,true)
 else if op=5 then(⟨false,true,false,false,true,true⟩,true)
 else if op=6 then(⟨true,true,true,true,true,false⟩,true)
 else if op=8 then(⟨false,false,false,true,false,false⟩,true)
 else(⟨false,false,false,false,false,false⟩,false)
def aoj(n:Nat)(op:Int):Ia n op=some (j_ op):=by
 by_cases h:1≤op∧op≤8
 ·obtain rfl|rfl|rfl|rfl|rfl|rfl|rfl|rfl:op=1∨op=2∨op=3∨op=4∨op=5∨op=6∨op=7∨op=8:=by omega
  all_goals rfl
 ·have e:j_ op=(⟨false,false,false,false,false,false⟩,false):=by
   unfold j_;rw [if_neg (by omega),if_neg (by omega),if_neg (by omega),if_neg (by omega),if_neg (by omega),if_neg (by omega)]
  rw [e];simp only [Ia,H_,H9,PS,show¬ op=1 by omega,show¬ op=2 by omega,show¬ op=3 by omega,show¬ op=4 by omega,show¬ op=5 by omega,show¬ op=6 by omega,show¬ op=7 by omega,show¬ op=8 by omega,avN,avP]
def aok(n:Nat)(op:Int)(h:1≤op∧op≤8):EE n op=some ((j_ op).1.name,(j_ op).1.max,(j_ op).1.a,(j_ op).1.b,(j_ op).1.body,(j_ op).1.other):=by
 obtain rfl|rfl|rfl|rfl|rfl|rfl|rfl|rfl:op=1∨op=2∨op=3∨op=4∨op=5∨op=6∨op=7∨op=8:=by omega
 all_goals rfl
def aol(n:Nat)(op:Int)(h:¬ (1≤op∧op≤8)):EE n op=some (false,true,false,false,false,false):=by
 simp only [EE,KM,KL,S2,show¬ op=1 by omega,show¬ op=2 by omega,show¬ op=3 by omega,show¬ op=4 by omega,show¬ op=5 by omega,show¬ op=6 by omega,show¬ op=7 by omega,avN,avP]
def Ba(s:Stmt)(u:k_):Bool:=
 (!u.name && !decide (s.Name=[]))||(!u.a && !ng s.A)||(!u.b && !ng s.B)||(!u.max && !decide (s.Max=0))||(!u.body&&decide (0<s.Body.length))||(!u.other&&decide (0<s.bB.length))
def rG(s:Stmt):Bool:=if s.Op=6 then decide (1≤s.Max)&&decide (s.Max≤16)else if s.Op=8 then decide (0≤s.Max)&&decide (s.Max≤999)else true
def kx(s:Stmt)(d:Int):Int:=
 if(j_ s.Op).2=false∨Ba s (j_ s.Op).1=true∨rG s=false then 1
 else if(j_ s.Op).1.name=true∧gy s.Name=false then 7
 else if(j_ s.Op).1.a=true∧g' s.A 1≠0 then g' s.A 1
 else if(j_ s.Op).1.b=true∧g' s.B 1≠0 then g' s.B 1
 else if 12<d then 2 else 0
open Go Go.Ab Go.Proofs
def aom(n:Nat)(s:Stmt)(u:k_):H8 n s u=some (!Ba s u&&rG s):=by
 have hm:(bif decide (s.Op=6)then some (bif decide (1≤s.Max)then decide (s.Max≤16)else false)else bif decide (s.Op=8)then some (bif decide (0≤s.Max)then decide (s.Max≤999)else false)else some true)=some (rG s):=by
  unfold rG;by_cases bW:s.Op=6
  ·simp only [bW,avM,avO,av1,el]
  ·by_cases dr:s.Op=8
   ·simp only [dr,show¬ (8:Int)=6 by omega,avM,avN,avO,avP,av1,av2,el]
   ·simp only [bW,dr,avN,avP,av2]
 unfold H8 Ba;rw [hm];simp only [ac2,i8,el,dH,fp];generalize decide (s.Name=[])=x
 generalize ng s.A=y
 generalize ng s.B=z
 generalize decide (s.Max=0)=w
 generalize decide (0<s.Body.length)=p
 generalize decide (0<s.bB.length)=q
 generalize rG s=r
 obtain⟨mG,a,b,kf,k5,xB⟩:=u;cases mG<;>cases x<;>cases a<;>cases y<;>cases b<;>cases z<;>simp only [avQ,avR,Bool.and_true,Bool.and_false,Bool.true_and,Bool.false_and,av0,Bool.or_false,Bool.true_or,Bool.false_or,avO,avP,an]<;>(cases ((!kf && !w)||(!k5&&p)||(!xB&&q))<;>simp_all)
def aon{n:Nat}(s:Stmt)(d:Int)(aS:di s.A≤n)(cW:di s.B≤n)(uQ:di s.A≤140737488351232)(mH:di s.B≤140737488351232)(aV:s.Name.length≤140737488351232):Ie n s d=some (kx s d):=by
 unfold Ie Ic Ib kx;simp only [aoj,an,i8,mF,aom,A7 n s.Name aV,ac0 s.A aS uQ,ac0 s.B cW mH];generalize (j_ s.Op)=U
 obtain⟨u,aoo⟩:=U;obtain⟨mG,a,b,kf,k5,xB⟩:=u;simp only
 generalize Ba s ⟨mG,a,b,kf,k5,xB⟩=m
 generalize rG s=r
 cases aoo
 ·simp
 ·cases m
  ·cases r
   ·simp
   ·generalize gy s.Name=x
    simp only [avQ,avR,avO,avP,an,Bool.true_and,Bool.and_true,Bool.true_eq_false,Bool.false_eq_true,or_self,av2];cases mG
    ·simp only [avP,an,Bool.false_eq_true,false_and,av2];cases a
     ·simp only [avP,Bool.false_eq_true,false_and,av2];cases b
      ·by_cases gP:12<d<;>simp [gP]
      ·by_cases hb:g' s.B 1=0<;>by_cases gP:12<d<;>simp [hb,gP]
     ·by_cases ha:g' s.A 1=0
      ·cases b
       ·by_cases gP:12<d<;>simp [ha,gP]
       ·by_cases hb:g' s.B 1=0<;>by_cases gP:12<d<;>simp [ha,hb,gP]
      ·simp [ha]
    ·cases x
     ·simp
     ·simp only [avO,an,avQ,avP,Bool.true_eq_false,and_false,av2];cases a
      ·simp only [avP,Bool.false_eq_true,false_and,av2];cases b
       ·by_cases gP:12<d<;>simp [gP]
       ·by_cases hb:g' s.B 1=0<;>by_cases gP:12<d<;>simp [hb,gP]
      ·by_cases ha:g' s.A 1=0
       ·cases b
        ·by_cases gP:12<d<;>simp [ha,gP]
        ·by_cases hb:g' s.B 1=0<;>by_cases gP:12<d<;>simp [ha,hb,gP]
       ·simp [ha]
  ·simp
def aop(s:Stmt):((decide (s.Op=6)&&(decide (s.Max<1)||decide (16<s.Max)))||(decide (s.Op=8)&&(decide (s.Max<0)||decide (999<s.Max)))) = !rG s:=by
 unfold rG;by_cases bW:s.Op=6
 ·simp only [bW,av1,avM,Bool.true_and,show¬ (6:Int)=8 by omega,avN,Bool.false_and,Bool.or_false]
  by_cases Z:s.Max<1
  ·simp only [Z,show¬ 1≤s.Max by omega,avM,avN,Bool.true_or,Bool.false_and,avR]
  ·by_cases ab:16<s.Max
   ·simp only [Z,ab,show¬ s.Max≤16 by omega,avM,avN,av0,Bool.and_false,avR]
   ·simp only [Z,ab,show s.Max≤16 by omega,show 1≤s.Max by omega,avM,avN,Bool.or_self,Bool.and_self,avQ]
 ·by_cases dr:s.Op=8
  ·simp only [dr,show¬ (8:Int)=6 by omega,av1,av2,avM,avN,Bool.true_and,Bool.false_and,Bool.false_or]
   by_cases Z:s.Max<0
   ·simp only [Z,show¬ 0≤s.Max by omega,avM,avN,Bool.true_or,Bool.false_and,avR]
   ·by_cases ab:999<s.Max
    ·simp only [Z,ab,show¬ s.Max≤999 by omega,avM,avN,av0,Bool.and_false,avR]
    ·simp only [Z,ab,show s.Max≤999 by omega,show 0≤s.Max by omega,avM,avN,Bool.or_self,Bool.and_self,avQ]
  ·simp only [bW,dr,av2,avN,Bool.false_and,Bool.or_self,avQ]
def aoq(a y b z pre P Q:Bool)(G:Bool→av8):
 (Option.bind (bif (!pre && !a)then some y else some default) λr2=>Option.bind (bif (!(pre||(!a && !r2)) && !b)then some z else some default) λr3=>G ((((pre||(!a && !r2))||(!b && !r3))||P)||Q))=G ((((pre||(!a && !y))||(!b && !z))||P)||Q):=by
 cases pre<;>cases a<;>cases y<;>cases b<;>cases z<;>rfl
def aor{n:Nat}(s:Stmt)(d:Int)(hn:25<n)(aS:di s.A≤n)(cW:di s.B≤n)(uQ:di s.A≤140737488351232)(mH:di s.B≤140737488351232)(aV:s.Name.length<n)(aos:s.Name.length≤140737488351232):KP n s d=some (kx s d):=by
 unfold KP KO KN kx;by_cases d':1≤s.Op∧s.Op≤8
 ·have UF:(
   j_ s.Op).2=true:=by
   have:s.Op=1∨s.Op=2∨s.Op=3∨s.Op=4∨s.Op=5∨s.Op=6∨s.Op=7∨s.Op=8:=by omega
   rcases this with e|e|e|e|e|e|e|e<;>rw [e]<;>rfl
  simp only [aok n s.Op d',an,i8,mF,ac3,A6 s.Name aV hn (by omega),ac1 s.A aS uQ,ac1 s.B cW mH,UF,show¬ s.Op<1 by omega,show¬ 8<s.Op by omega,avN,avP,el,dH,Bool.or_self,Bool.false_or,aop,fp]
  generalize rG s=r
  unfold Ba;generalize (j_ s.Op).1=u
  generalize decide (s.Name=[])=hM
  generalize ng s.A=y
  generalize ng s.B=z
  generalize decide (s.Max=0)=w
  generalize decide (0<s.Body.length)=p
  generalize decide (0<s.bB.length)=q
  generalize gy s.Name=x
  obtain⟨mG,a,b,kf,k5,xB⟩:=u;simp only
  have hm:((!mG && !hM)||(!a && !y)||(!b && !z)||(!kf && !w)||(!k5&&p)||(!xB&&q))=((((((!mG && !hM)||(!kf && !w))||(!a && !y))||(!b && !z))||(!k5&&p))||(!xB&&q)):=by
   generalize (!mG && !hM)=c1
   generalize (!kf && !w)=c2
   generalize (!a && !y)=c3
   generalize (!b && !z)=c4
   cases c1<;>cases c2<;>cases c3<;>cases c4<;>rfl
  rw [hm];clear hm;generalize ((!mG && !hM)||(!kf && !w))=pre
  generalize (!k5&&p)=c1
  generalize (!xB&&q)=c2
  refine(aoq a y b z pre c1 c2 (λc=>bif c then some 1 else bif !r then some 1 else Option.bind (bif mG then some x else some default) λbj=>bif (mG && !bj)then some 7 else
   bif a then(bif !decide (g' s.A 1=0)then some (g' s.A 1)else bif b then(bif !decide (g' s.B 1=0)then some (g' s.B 1)else bif decide (12<d)then some 2 else some 0)else bif decide (12<d)then some 2 else some 0)
   else bif b then(bif !decide (g' s.B 1=0)then some (g' s.B 1)else bif decide (12<d)then some 2 else some 0)else bif decide (12<d)then some 2 else some 0)).trans ?_
  generalize ((((pre||(!a && !y))||(!b && !z))||c1)||c2)=m
  cases m
  ·cases r
   ·simp
   ·simp only [avQ,avR,avO,avP,an,Bool.true_and,Bool.and_true,Bool.true_eq_false,Bool.false_eq_true,or_self,av2];cases mG
    ·simp only [avP,an,Bool.false_eq_true,false_and,av2,Bool.false_and];cases a
     ·simp only [avP,Bool.false_eq_true,false_and,av2];cases b
      ·by_cases gP:12<d<;>simp [gP]
      ·by_cases hb:g' s.B 1=0<;>by_cases gP:12<d<;>simp [hb,gP]
     ·by_cases ha:g' s.A 1=0
      ·cases b
       ·by_cases gP:12<d<;>simp [ha,gP]
       ·by_cases hb:g' s.B 1=0<;>by_cases gP:12<d<;>simp [ha,hb,gP]
      ·simp [ha]
    ·cases x
     ·simp
     ·simp only [avO,an,avQ,avP,Bool.true_eq_false,and_false,av2,Bool.and_false];cases a
      ·simp only [avP,Bool.false_eq_true,false_and,av2];cases b
       ·by_cases gP:12<d<;>simp [gP]
       ·by_cases hb:g' s.B 1=0<;>by_cases gP:12<d<;>simp [hb,gP]
      ·by_cases ha:g' s.A 1=0
       ·cases b
        ·by_cases gP:12<d<;>simp [ha,gP]
        ·by_cases hb:g' s.B 1=0<;>by_cases gP:12<d<;>simp [ha,hb,gP]
       ·simp [ha]
  ·simp
 ·have UF:(j_ s.Op).2=false:=by
   unfold j_;rw [if_neg (by omega),if_neg (by omega),if_neg (by omega),if_neg (by omega),if_neg (by omega),if_neg (by omega)]
  have hb:(decide (s.Op<1)||decide (8<s.Op))=true:=by
   by_cases Z:s.Op<1
   ·rw [decide_eq_true Z];rfl
   ·rw [decide_eq_true (show 8<s.Op by omega)];simp
  simp only [aol n s.Op d',an,UF,hb,dH,el,Bool.true_or,avQ,Bool.false_and,avP,avO,true_or,av1]
open Go Go.Ab Go.Proofs
def uR(before:List Param):List Param→Int
 |[]=>0
 |x::l=>if gy x.Name=false then 7 else if x.fy<1∨3<x.fy then 10 else if(before.any λy=>decide (y.Name=x.Name))=true then 8 else uR (before++[x]) l
def aot(n:Nat)(s:List Param)(b:Param)(hs:s.length≤4611686018427387904):∀m i,s.length<i+m→i≤s.length→
 ∃r,y6 n s b m (i:Int)=some r∧(decide (0≤r)=(s.drop i).any λy=>decide (y.Name=b.Name)):=by
 intro m;induction m with
 |zero=>intro i h ab;omega
 |succ m aJ=>
  intro i hm hi;simp only [y6,PI,PH,PG];by_cases h:i<s.length
  ·obtain⟨r,Z,ab⟩:=aJ (i+1) (by omega) (by omega)
   (rw [fo s i default h,eb (by omega)];simp only [avU];rw [Z])
   generalize s.getD i default=c
   simp only [h,b1 h,avV,avM,avO,aT,an,List.any_cons];by_cases hc:c.Name=b.Name
   ·simp only [hc,avM,avO,Bool.true_or];exact⟨_,rfl,decide_eq_true (by omega)⟩
   ·simp only [hc,avN,avP,Bool.false_or];exact⟨r,rfl,ab⟩
  ·rw [gE s i h];simp only [h,avV,avN,avP];exact⟨-1,rfl,rfl⟩
def aou{n:Nat}(s:List Param)(b:Param)(hs:s.length≤4611686018427387904)(hn:s.length<n):H4 n s b=some (s.any λy=>decide (y.Name=b.Name)):=by
 unfold H4 PJ;obtain⟨r,Z,ab⟩:=aot n s b hs n 0 (by omega) (by omega)
 rw [show y6 n s b n 0=_ from Z,an,ab,List.drop_zero]
def xC{α:Type}[Inhabited α](l:List α)(i:Nat)(h:i<l.length):l.take (i+1)=l.take i++[l.getD i default]:=by
 rw [List.take_add,fo l i default h,List.take_succ_cons,List.take_zero]
def UG:∀(l:List Param) (i:Nat),i<l.length→(l.getD i default).Name.length<h8 l
 |[],i,h=>by simp at h
 |x::l,0,h=>by simp only [h8,List.getD_cons_zero];omega
 |x::l,i+1,h=>by have:=UG l i (by simpa using h);simp only [h8,List.getD_cons_succ];omega
def aov(n:Nat)(l:List Param)(ba:h8 l<n)(tL:h8 l≤140737488351232):∀m i,l.length<i+m→i≤l.length→y7 n l m (i:Int)=some (uR (l.take i) (l.drop i)):=by
 have hlen:=A_ l;intro m;induction m with
 |zero=>intro i h ab;omega
 |succ m aJ=>
  intro i hm hi;simp only [y7,PL,PK];by_cases h:i<l.length
  ·have hg:=UG l i h
   (rw [fo l i default h,eb (by omega)];simp only [avU];rw [aJ (i+1) (by omega) (by omega),xC l i h])
   generalize l.getD i default=c at hg
   rw [A7 n c.Name (by omega),aou (l.take i) c (by simp;omega) (by simp;omega)]
   simp only [h,b1 h,avV,avM,avO,aT,an,xw hi,dH,uR];cases gy c.Name
   ·simp
   ·by_cases aF:c.fy<1∨3<c.fy
    ·have:(decide (c.fy<1)||decide (3<c.fy))=true:=by rcases aF with aF|aF<;>rw [decide_eq_true aF]<;>simp
     simp [this,aF]
    ·have:(decide (c.fy<1)||decide (3<c.fy))=false:=by rw [decide_eq_false (λe=>aF (Or.inl e)),decide_eq_false (λe=>aF (Or.inr e))];rfl
     rw [this];simp only [avQ,avP,Bool.true_eq_false,av2,aF];cases ((l.take i).any λy=>decide (y.Name=c.Name))<;>rfl
  ·rw [gE l i h];simp only [h,avV,avN,avP];rfl
def aow(n:Nat)(ak:Int→av8)(l:List Param)(i:Nat)(h:i<l.length)(hs:l.length≤4611686018427387904):∀m k,i<k+m→k≤i→
 AD n ak l (i:Int) m (k:Int)=if(((l.take i).drop k).any λy=>decide (y.Name=(l.getD i default).Name))=true then some 8 else ak ((i+1:Nat):Int):=by
 intro m;induction m with
 |zero=>intro k Z ab;omega
 |succ m aJ=>
  intro k hm hk;simp only [AD,SU,ST];by_cases G':k<i
  ·have e:(l.take i).drop k=l.getD k default::(l.take i).drop (k+1):=by
    rw [fo (l.take i) k default (by simp;omega)]
    congr 1
    simp [List.getD,G']
   (rw [e,eb (by omega),aJ (k+1) (by omega) (by omega)];simp only [avU])
   generalize l.getD k default=c
   simp only [G',b1 h,b1 (show k<l.length by omega),avV,avM,avO,aT,List.any_cons]
   by_cases hc:c.Name=(l.getD i default).Name
   ·simp only [hc,avM,avO,Bool.true_or,av1]
   ·simp only [hc,avN,avP,Bool.false_or]
  ·obtain rfl:k=i:=by omega
   rw [gE (l.take k) k (by simp;omega),eb (by omega)]
   simp only [avV,Nat.lt_irrefl,avN,avP,List.any_nil,Bool.false_eq_true,av2]
def aox(n:Nat)(l:List Param)(hn:25<n)(ba:h8 l<n)(tL:h8 l≤140737488351232):∀m i,l.length<i+m→i≤l.length→uA n l m (i:Int)=some (uR (l.take i) (l.drop i)):=by
 have hlen:=A_ l;intro m;induction m with
 |zero=>intro i h ab;omega
 |succ m aJ=>
  intro i hm hi;simp only [uA,SV,SS];by_cases h:i<l.length
  ·have hg:=UG l i h;have aD:=aow n (uA n l m) l i h (by omega) n 0 (by omega) (by omega)
   rw [show AD n (uA n l m) l (i:Int) n 0=_ from aD,List.drop_zero]
   (rw [fo l i default h];simp only [avU];rw [aJ (i+1) (by omega) (by omega),xC l i h])
   generalize l.getD i default=c at hg
   rw [A6 c.Name (by omega) hn (by omega)]
   simp only [h,b1 h,avV,avM,avO,aT,an,av0,dH,uR];cases gy c.Name
   ·simp
   ·by_cases aF:c.fy<1∨3<c.fy
    ·have:(decide (c.fy<1)||decide (3<c.fy))=true:=by rcases aF with aF|aF<;>rw [decide_eq_true aF]<;>simp
     simp [this,aF]
    ·have:(decide (c.fy<1)||decide (3<c.fy))=false:=by rw [decide_eq_false (λe=>aF (Or.inl e)),decide_eq_false (λe=>aF (Or.inr e))];rfl
     rw [this];simp only [avQ,avP,Bool.true_eq_false,av2,aF];cases ((l.take i).any λy=>decide (y.Name=c.Name))<;>rfl
  ·rw [gE l i h];simp only [h,avV,avN,avP];rfl
def qs(l:List Param):Int:=if 6<l.length then 2 else uR [] l
def aoy{n:Nat}(l:List Param)(ba:h8 l<n)(tL:h8 l≤140737488351232):H5 n l=some (qs l):=by
 have hlen:=A_ l;unfold H5 qs;have:=aov n l ba tL n 0 (by omega) (by omega)
 rw [show y7 n l n 0=_ from this]
 simp only [fp];by_cases h:6<l.length
 ·simp only [h,avM,avO,av1]
 ·simp only [h,avN,avP,av2,List.take_zero,List.drop_zero]
def aoz{n:Nat}(l:List Param)(hn:25<n)(ba:h8 l<n)(tL:h8 l≤140737488351232):KI n l=some (qs l):=by
 have hlen:=A_ l;unfold KI qs;have:=aox n l hn ba tL n 0 (by omega) (by omega)
 rw [show uA n l n 0=_ from this]
 simp only [fp];by_cases h:6<l.length
 ·simp only [h,avM,avO,av1]
 ·simp only [h,avN,avP,av2,List.take_zero,List.drop_zero]
open Go Go.Ab Go.Proofs
mutual
def te:Expr→Nat→Nat
 |⟨_,_,_,ax⟩,k=>if k=0 then 0 else qt ax (k-1)
def qt:List Expr→Nat→Nat
 |[],k=>k
 |x::l,k=>qt l (te x k)
end
def ac4(e:Expr)(k:Nat):te e k=if k=0 then 0 else qt e.ax (k-1):=by cases e;rfl
mutual
def Fy:∀(e:Expr) (k:Nat),te e k≤k
 |⟨_,_,_,ax⟩,k=>by
  have:=UH ax (k-1)
  simp only [te];split<;>omega
def UH:∀(l:List Expr) (k:Nat),qt l k≤k
 |[],k=>Nat.le_refl _
 |x::l,k=>by
  have Z:=Fy x k;have ab:=UH l (te x k);simp only [qt];omega
end
def ka(e:Expr)(k:Nat):Nat:=if k=0∨ng e=true then k else te e k
def LT(e:Expr)(k:Nat):ka e k≤k:=by unfold ka;split;exact Nat.le_refl _;exact Fy e k
mutual
def qu:Stmt→Int→Nat×Int→Nat×Int
 |⟨Op,Name,Max,A,B,Body,bB⟩,d,r=>
  h9 bB (av5 (d+1)) (h9 Body (av5 (d+1)) (ka B (ka A (r.1-1)),if r.2=0 then kx ⟨Op,Name,Max,A,B,Body,bB⟩ d else r.2))
def h9:List Stmt→Int→Nat×Int→Nat×Int
 |[],d,r=>r
 |s::l,d,r=>if r.1=0 then r else h9 l d (qu s d r)
end
def ac5(s:Stmt)(d:Int)(r:Nat×Int):qu s d r=h9 s.bB (av5 (d+1)) (h9 s.Body (av5 (d+1)) (ka s.B (ka s.A (r.1-1)),if r.2=0 then kx s d else r.2)):=by cases s;rfl
mutual
def aoA:∀(s:Stmt) (d:Int) (r:Nat×Int),(qu s d r).1≤r.1
 |⟨Op,Name,Max,A,B,Body,bB⟩,d,r=>by
  have Z:=LT A (r.1-1);have ab:=LT B (ka A (r.1-1));have aj:=uS Body (av5 (d+1)) (ka B (ka A (r.1-1)),if r.2=0 then kx ⟨Op,Name,Max,A,B,Body,bB⟩ d else r.2)
  have aD:=uS bB (av5 (d+1)) (h9 Body (av5 (d+1)) (ka B (ka A (r.1-1)),if r.2=0 then kx ⟨Op,Name,Max,A,B,Body,bB⟩ d else r.2))
  simp only [qu]at *;omega
def uS:∀(l:List Stmt) (d:Int) (r:Nat×Int),(h9 l d r).1≤r.1
 |[],d,r=>Nat.le_refl _
 |s::l,d,r=>by
  have Z:=aoA s d r;have ab:=uS l d (qu s d r);simp only [h9];split
  ·exact Nat.le_refl _
  ·omega
end
def aoB:∀(n:Nat) (e:Expr) (k:Nat) (b:Int),di e≤n→di e≤140737488351232→k≤1000→y_ n e (k:Int) b=some ((te e k:Nat):Int):=by
 intro n;induction n with
 |zero=>intro e k b h;rw [qo]at h;omega
 |succ n aJ=>
  intro e k b h aa hk;have uN:=qo e;have uO:=Fq e.ax;simp only [y_,PV,fx];rw [ac4];by_cases h0:k=0
  ·rw [if_pos h0];simp only [h0,avM,avO]
  ·rw [if_neg h0];simp only [h0,avN,avP]
   have gS:∀m i k,e.ax.length<i+m→i≤e.ax.length→k≤1000→De n (y_ n) e b m ((k:Nat):Int) (i:Int)=some ((qt (e.ax.drop i) k:Nat):Int):=by
    intro m;induction m with
    |zero=>intro i k Z ab;omega
    |succ m li=>
     intro i k Z ab hk;simp only [De,PU];by_cases hi:i<e.ax.length
     ·have hg:=Fr e.ax i hi;have hle:=Fy (e.ax.getD i default) k
      (rw [fo e.ax i default hi,eb (by omega)];simp only [avU];rw [aJ _ k b (by omega) (by omega) hk])
      simp only [hi,b1 hi,avV,avM,avO,aT,an,qt];exact li (i+1) _ (by omega) (by omega) (by omega)
     ·rw [gE e.ax i hi];simp only [hi,avV,avN,avP,qt]
   rw [show av5 ((k:Int)-1)=((k-1:Nat):Int)by rw [wr]<;>omega]
   exact gS n 0 (k-1) (by omega) (by omega) (by omega)
def ac6{n:Nat}(e:Expr)(k:Nat)(b:Int)(h:di e≤n)(aa:di e≤140737488351232)(hk:k≤1000):Df n e (k:Int) b=some ((ka e k:Nat):Int):=by
 unfold Df ka PT;simp only [ac2,fx,aoB n e k b h aa hk,an];by_cases h0:k=0
 ·simp [h0]
 ·cases ng e<;>simp [h0]
open Go Go.Ab Go.Proofs
def LU:∀(l:List Stmt) (i:Nat),i<l.length→fst (l.getD i default)<dC l
 |[],i,h=>by simp at h
 |x::l,0,h=>by simp only [dC,List.getD_cons_zero];omega
 |x::l,i+1,h=>by have:=LU l i (by simpa using h);simp only [dC,List.getD_cons_succ];omega
def ac7{α β:Type}(x:α×β):(x.1,x.2)=x:=rfl
def aoC:∀(n:Nat) (l:List Stmt) (d:Int) (k:Nat) (e:Int),dC l+2≤n→dC l≤140737488351232→k≤1000→
 wy n l d (k:Int) e=some ((((h9 l d (k,e)).1:Nat):Int),(h9 l d (k,e)).2):=by
 intro n;induction n with
 |zero=>intro l d k e h;omega
 |succ n aJ=>
  intro l d k e h aa hk;have uO:=tb l;simp only [wy,PX]
  have gS:∀m i k e,l.length<i+m→i≤l.length→k≤1000→Dg n (wy n) d l m ((k:Nat):Int) e (i:Int)=some ((((h9 (l.drop i) d (k,e)).1:Nat):Int),(h9 (l.drop i) d (k,e)).2):=by
   intro m;induction m with
   |zero=>intro i k e Z ab;omega
   |succ m li=>
    intro i k e Z ab hk;simp only [Dg,PW,i8,mF];by_cases hi:i<l.length
    ·have hg:=LU l i hi
     (rw [fo l i default hi];simp only [avU])
     generalize l.getD i default=s at hg
     have mu:=fst_eq s;rw [eb (by omega)]
     simp only [hi,b1 hi,avV,avM,avO,aT,fx,h9];by_cases h0:k=0
     ·simp only [h0,avM,avO,av1]
     ·simp only [h0,avN,avP,av2]
      have av:If n s d e=some (if e=0 then kx s d else e):=by
       unfold If;simp only [i8,mF,aon s d (show di s.A≤n by omega) (show di s.B≤n by omega) (by omega) (by omega) (by omega),an]
       by_cases he:e=0
       ·simp only [he,avM,avO,av1]
       ·simp only [he,avN,avP,av2]
      rw [av,an,show av5 ((k:Int)-1)=((k-1:Nat):Int)by rw [wr]<;>omega]
      have e6:=LT s.A (k-1);have eH:=LT s.B (ka s.A (k-1));rw [ac6 s.A (k-1) _ (by omega) (by omega) (by omega),an,ac6 s.B _ _ (by omega) (by omega) (by omega),an]
      have N7:=uS s.Body (av5 (d+1)) (ka s.B (ka s.A (k-1)),if e=0 then kx s d else e)
      rw [aJ s.Body _ _ _ (by omega) (by omega) (by omega),an]
      simp only [ac7]at N7 ⊢;have au_:=uS s.bB (av5 (d+1)) (h9 s.Body (av5 (d+1)) (ka s.B (ka s.A (k-1)),if e=0 then kx s d else e))
      rw [aJ s.bB _ _ _ (by omega) (by omega) (by omega),an]
      simp only [ac7];rw [li (i+1) _ _ (by omega) (by omega) (by omega),ac5]
    ·rw [gE l i hi];simp only [hi,avV,avN,avP,h9]
  exact gS n 0 k e (by omega) (by omega) hk
open Go Go.Ab Go.Proofs
abbrev ll:=cD
def iB:Int→List ll→Int
 |e,[]=>e
 |e,v::l=>iB (if e=0∧v.qa=true then kx v.Stmt v.CX else e) l
def ac8:∀(l m:List ll) (e:Int),iB e (l++m)=iB (iB e l) m
 |[],m,e=>rfl
 |v::l,m,e=>by rw [List.cons_append,iB,iB,ac8 l m]
def UI:∀(l:List ll) (e:Int),(∀v,v∈l→v.qa=false)→iB e l=e
 |[],e,h=>rfl
 |v::l,e,h=>by
  rw [iB,h v (List.mem_cons_self),UI l _ λw hw=>h w (List.mem_cons_of_mem _ hw)]
  simp
def ac9{k:Nat}(h:k≤100000):room k 272=true:=by simp [room];omega
def aoD:∀(n:Nat) (e:Expr) (out:List ll) (root:Bool),di e≤n→di e≤140737488351232→out.length≤401→
 ∃ext,sZ n out e root=some (out++ext)∧(out++ext).length≤401∧401-(out++ext).length=te e (401-out.length)∧∀v,v∈ext→v.qa=false:=by
 intro n;induction n with
 |zero=>intro e out root h;rw [qo]at h;omega
 |succ n aJ=>
  intro e out root h aa aw;have uN:=qo e;have uO:=Fq e.ax;simp only [sZ,SM,fp];rw [ac4];by_cases h0:400<out.length
  ·simp only [h0,avM,avO];rw [if_pos (by omega)]
   exact⟨[],by simp,by simpa using aw,by simp;omega,λv av=>by cases av⟩
  ·simp only [h0,avN,avP,avS,avT,ac9 (show out.length+(0+1)≤100000 by omega),aT]
   rw [if_neg (by omega)]
   have gS:∀m i (out:List ll),e.ax.length<i+m→i≤e.ax.length→out.length≤401→
    ∃ext,Ez n (sZ n) e m out (i:Int)=some (out++ext)∧(out++ext).length≤401∧401-(out++ext).length=qt (e.ax.drop i) (401-out.length)∧∀v,v∈ext→v.qa=false:=by
    intro m;induction m with
    |zero=>intro i out Z ab;omega
    |succ m li=>
     intro i out Z ab aw;simp only [Ez,SL,SK];by_cases hi:i<e.ax.length
     ·have hg:=Fr e.ax i hi
      (rw [fo e.ax i default hi];simp only [avU])
      generalize e.ax.getD i default=a at hg
      rw [eb (by omega)]
      simp only [hi,b1 hi,avV,avM,avO,aT,lR,qt];by_cases Fz:out.length≤400
      ·simp only [Fz,avM,avO];obtain⟨ev,e1,e2,e3,ie⟩:=aJ a out false (by omega) (by omega) aw
       obtain⟨fh,f1,f2,f3,f4⟩:=li (i+1) (out++ev) (by omega) (by omega) e2
       rw [e1,an,f1];refine⟨ev++fh,by rw [List.append_assoc],by rw [←List.append_assoc];exact f2,by rw [←List.append_assoc,f3,e3],λv av=>?_⟩
       rcases List.mem_append.1 av with av|av
       ·exact ie v av
       ·exact f4 v av
      ·simp only [Fz,avN,avP];have dG:401-out.length=0:=by omega
       have ava:=Fy a 0;have yH:=UH (e.ax.drop (i+1)) (te a 0);exact⟨[],by simp,by simpa using aw,by rw [dG];simp;omega,λv av=>by cases av⟩
     ·rw [gE e.ax i hi];simp only [hi,avV,avN,avP,qt];exact⟨[],by simp,by simpa using aw,by simp,λv av=>by cases av⟩
   obtain⟨x,e1,e2,e3,ie⟩:=gS n 0 (out++[⟨false,⟨0,[],0,⟨0,0,[],[]⟩,⟨0,0,[],[]⟩,[],[]⟩,0,e,root⟩]) (by omega) (by omega) (by simp;omega)
   refine⟨⟨false,⟨0,[],0,⟨0,0,[],[]⟩,⟨0,0,[],[]⟩,[],[]⟩,0,e,root⟩::x,?_,?_,?_,?_⟩
   ·exact e1.trans (by simp)
   ·simpa using e2
   ·have:401-(out++[(⟨false,⟨0,[],0,⟨0,0,[],[]⟩,⟨0,0,[],[]⟩,[],[]⟩,0,e,root⟩:ll)]).length=401-out.length-1:=by simp;omega
    rw [this,List.drop_zero]at e3;simpa using e3
   ·intro v av;rcases List.mem_cons.1 av with rfl|av
    ·rfl
    ·exact ie v av
open Go Go.Ab Go.Proofs
def ac'{α:Type}{n:Nat}(e:Expr)(out:List ll)(G:List ll→Option α)(h:di e≤n)(aa:di e≤140737488351232)(aw:out.length≤401):
 ∃ext,(Option.bind (sY n e) λr=>bif !r then Option.bind (sZ n out e true) G else G out)=G (out++ext)∧(out++ext).length≤401∧401-(out++ext).length=ka e (401-out.length)∧∀v,v∈ext→v.qa=false:=by
 rw [ac3,an];unfold ka;cases m6:ng e
 ·obtain⟨x,e1,e2,e3,ie⟩:=aoD n e out true h aa aw;refine⟨x,?_,e2,?_,ie⟩
  ·rw [e1];rfl
  ·rw [e3];by_cases h0:401-out.length=0
   ·rw [if_pos (Or.inl h0),h0];have:=Fy e 0
    omega
   ·rw [if_neg (by simp [h0])]
 ·refine⟨[],by simp,by simpa using aw,?_,λv av=>by cases av⟩
  rw [if_pos (Or.inr rfl)];simp
def aoE:∀(n:Nat) (l:List Stmt) (d:Int) (out:List ll) (e:Int),dC l+2≤n→dC l≤140737488351232→out.length≤401→
 ∃ext,nd n out l d=some (out++ext)∧(out++ext).length≤401∧(401-(out++ext).length,iB e ext)=h9 l d (401-out.length,e)∧∀v,v∈ext→v.qa=true→fst v.Stmt<dC l:=by
 intro n;induction n with
 |zero=>intro l d out e h;omega
 |succ n aJ=>
  intro l d out e h aa aw;have uO:=tb l;simp only [nd,SQ]
  have gS:∀m i (out:List ll) (e:Int),l.length<i+m→i≤l.length→out.length≤401→
   ∃ext,uz n (nd n) l d m out (i:Int)=some (out++ext)∧(out++ext).length≤401∧(401-(out++ext).length,iB e ext)=h9 (l.drop i) d (401-out.length,e)∧∀v,v∈ext→v.qa=true→fst v.Stmt<dC l:=by
   intro m;induction m with
   |zero=>intro i out e Z ab;omega
   |succ m li=>
    intro i out e Z ab aw;simp only [uz,SP,SN,KH,KG,SO,i8,mF];by_cases hi:i<l.length
    ·have hg:=LU l i hi
     (rw [fo l i default hi];simp only [avU])
     generalize l.getD i default=s at hg
     have mu:=fst_eq s;rw [eb (by omega)]
     simp only [hi,b1 hi,avV,avM,avO,aT,lR,h9];by_cases Fz:out.length≤400
     ·rw [if_neg (by omega)]
      simp only [Fz,avM,avO,avS,avT,ac9 (show out.length+(0+1)≤100000 by omega),aT]
      obtain⟨ev,bb,a2,a3,a4⟩:=ac' (n:=n) s.A (out++[(⟨true,s,d,⟨0,0,[],[]⟩,false⟩:ll)]) (λv28=>Option.bind (sY n s.B) λiy=>bif !iy then Option.bind (sZ n v28 s.B true) λmC=>
       Option.bind (nd n mC s.Body (av5 (d+1))) λld=>Option.bind (nd n ld s.bB (av5 (d+1))) λoG=>uz n (nd n) l d m oG ((i+1:Nat):Int)
       else Option.bind (nd n v28 s.Body (av5 (d+1))) λld=>Option.bind (nd n ld s.bB (av5 (d+1))) λoG=>uz n (nd n) l d m oG ((i+1:Nat):Int)) (by omega) (by omega) (by simp;omega)
      rw [bb];obtain⟨fh,cb,jn,FA,LV⟩:=ac' (n:=n) s.B (out++[(⟨true,s,d,⟨0,0,[],[]⟩,false⟩:ll)]++ev) (λv=>Option.bind (nd n v s.Body (av5 (d+1))) λld=>Option.bind (nd n ld s.bB (av5 (d+1))) λoG=>uz n (nd n) l d m oG ((i+1:Nat):Int)) (by omega) (by omega) a2
      rw [cb];obtain⟨kb,c1,c2,c3,c4⟩:=aJ s.Body (av5 (d+1)) _ (if e=0 then kx s d else e) (by omega) (by omega) jn
      rw [c1,an];obtain⟨fI,d1,d2,d3,d4⟩:=aJ s.bB (av5 (d+1)) _ (iB (if e=0 then kx s d else e) kb) (by omega) (by omega) c2
      rw [d1,an];obtain⟨lL,f1,f2,f3,f4⟩:=li (i+1) _ (iB (iB (if e=0 then kx s d else e) kb) fI) (by omega) (by omega) d2
      rw [f1];have YN:401-(out++[(⟨true,s,d,⟨0,0,[],[]⟩,false⟩:ll)]).length=401-out.length-1:=by simp;omega
      refine⟨(⟨true,s,d,⟨0,0,[],[]⟩,false⟩:ll)::(ev++(fh++(kb++(fI++lL)))),?_,?_,?_,?_⟩
      ·simp
      ·simpa using f2
      ·have e1:iB e ((⟨true,s,d,⟨0,0,[],[]⟩,false⟩:ll)::(ev++(fh++(kb++(fI++lL)))))=iB (iB (iB (if e=0 then kx s d else e) kb) fI) lL:=by
        simp only [iB,and_true,ac8];rw [UI ev _ a4,UI fh _ LV]
       have e2:(out++(⟨true,s,d,⟨0,0,[],[]⟩,false⟩:ll)::(ev++(fh++(kb++(fI++lL))))).length=(out++[(⟨true,s,d,⟨0,0,[],[]⟩,false⟩:ll)]++ev++fh++kb++fI++lL).length:=by simp
       rw [e1,e2,f3]
       congr 1
       rw [ac5];simp only
       rw [d3,c3,FA,a3,YN]
      ·intro v av dE;simp only [List.mem_cons,List.mem_append]at av;rcases av with rfl|av|av|av|av|av
       ·exact hg
       ·rw [a4 v av]at dE;cases dE
       ·rw [LV v av]at dE;cases dE
       ·have:=c4 v av dE;omega
       ·have:=d4 v av dE;omega
       ·exact f4 v av dE
     ·rw [if_pos (by omega)]
      simp only [Fz,avN,avP];exact⟨[],by simp,by simpa using aw,by simp [iB],λv av=>by cases av⟩
    ·rw [gE l i hi];simp only [hi,avV,avN,avP,h9];exact⟨[],by simp,by simpa using aw,by simp [iB],λv av=>by cases av⟩
  exact gS n 0 out e (by omega) (by omega) aw
open Go Go.Ab Go.Proofs
def mI(p:bg):Int:=
 if gy p.Name=false then 7 else if qs p.Params≠0 then qs p.Params
 else if(h9 p.Body 1 (401,0)).2=0∧(h9 p.Body 1 (401,0)).1=0 then 2 else(h9 p.Body 1 (401,0)).2
def UJ{n:Nat}(p:bg)(aV:p.Name.length≤140737488351232)(kI:h8 p.Params<n)(LW:h8 p.Params≤140737488351232)(cW:dC p.Body+2≤n)(mH:dC p.Body≤140737488351232):Dh n p=some (mI p):=by
 unfold Dh PY mI;rw [A7 n p.Name aV,aoy p.Params kI LW];simp only [an];cases gy p.Name
 ·rfl
 ·simp only [avQ,avP,Bool.true_eq_false,av2];by_cases h:qs p.Params=0
  ·simp only [h,avM,avQ,avP,ne_eq,not_true,av2];have:=aoC n p.Body 1 401 0 cW mH (by omega)
   rw [show wy n p.Body 1 401 0=_ from this]
   have hle:=uS p.Body 1 (401,0);simp only at hle
   generalize h9 p.Body 1 (401,0)=r at hle
   obtain⟨k,e⟩:=r;simp only [an];simp only at hle
   rw [show av5 (401-((k:Nat):Int))=401-((k:Nat):Int)by rw [wr]<;>omega]
   by_cases he:e=0
   ·by_cases hk:k=0
    ·subst hk;subst he;rfl
    ·simp only [he,hk,avM,avO,and_false,av2,show¬ (400:Int)<401-((k:Nat):Int)by omega,avN,avP]
   ·simp only [he,avN,avP,false_and,av2]
  ·simp only [h,avN,avR,avO,ne_eq,not_false_iff,av1]
def ac_:∀(l:List ll) (e:Int),e≠0→iB e l=e
 |[],e,h=>rfl
 |v::l,e,h=>by rw [iB,if_neg (λx=>h x.1),ac_ l e h]
def aoF(n:Nat)(l:List ll)(hn:25<n)(B:Nat)(cW:B≤n)(mH:B≤140737488351232)(aa:l.length≤401)(hs:∀v,v∈l→v.qa=true→fst v.Stmt<B):∀m i,l.length<i+m→i≤l.length→
 AF n l m (i:Int)=some (if iB 0 (l.drop i)≠0 then iB 0 (l.drop i)else if 400<l.length then 2 else 0):=by
 intro m;induction m with
 |zero=>intro i h ab;omega
 |succ m aJ=>
  intro i hm hi;simp only [AF,S4,S3,KQ];by_cases h:i<l.length
  ·have av:l.getD i default∈l:=by
    have e:l.getD i default=l[i]:=by simp [List.getD,h]
    rw [e];exact List.getElem_mem h
   have dE:=hs _ av
   (rw [fo l i default h,eb (by omega)];simp only [avU];rw [aJ (i+1) (by omega) (by omega)])
   generalize l.getD i default=v at dE
   simp only [h,b1 h,avV,avM,avO,aT,iB];cases au:v.qa
   ·simp only [avP,Bool.false_eq_true,and_false,av2]
   ·have ba:=dE au;have uN:=fst_eq v.Stmt;rw [aor v.Stmt v.CX hn (by omega) (by omega) (by omega) (by omega) (by omega) (by omega)]
    simp only [avO,an,and_self,av1];by_cases he:kx v.Stmt v.CX=0
    ·simp only [he,avM,avQ,avP]
    ·simp only [he,avN,avR,avO];rw [ac_ _ _ he,if_pos he]
  ·rw [gE l i h];simp only [h,avV,avN,avP,iB,fp,ne_eq,not_true,av2];by_cases aD:400<l.length
   ·simp only [aD,avM,avO,av1]
   ·simp only [aD,avN,avP,av2]
def ada{n:Nat}(p:bg)(hn:500<n)(aV:p.Name.length<n)(aos:p.Name.length≤140737488351232)(kI:h8 p.Params<n)(LW:h8 p.Params≤140737488351232)(cW:dC p.Body+2≤n)(mH:dC p.Body≤140737488351232):KR n p=some (mI p):=by
 unfold KR SR mI;rw [A6 p.Name aV (by omega) (by omega),aoz p.Params (by omega) kI LW]
 simp only [an];cases gy p.Name
 ·rfl
 ·simp only [avQ,avP,Bool.true_eq_false,av2];by_cases h:qs p.Params=0
  ·simp only [h,avM,avQ,avP,ne_eq,not_true,av2];obtain⟨ext,e1,e2,e3,ie⟩:=aoE n p.Body 1 [] 0 cW mH (by simp)
   rw [List.nil_append]at e1 e2 e3;rw [e1];simp only [an];have:=aoF n ext (by omega) (dC p.Body) (by omega) mH e2 ie n 0 (by omega) (by omega)
   rw [show AF n ext n 0=_ from this,List.drop_zero,avT]at *
   rw [show 401-0=401 from rfl]at e3
   rw [←e3];simp only
   by_cases he:iB 0 ext=0
   ·simp only [he,ne_eq,not_true,av2,true_and];by_cases aD:400<ext.length
    ·rw [if_pos aD,if_pos (by omega)]
    ·rw [if_neg aD,if_neg (by omega)]
   ·rw [if_pos he,if_neg (λx=>he x.1)]
  ·simp only [h,avN,avR,avO,ne_eq,not_false_iff,av1]
def aoG:∀(n:Nat) (l:List Stmt),dC l+2≤n→dC l≤140737488351232→Al n l l=some true:=by
 intro n;induction n with
 |zero=>intro l h;omega
 |succ n aJ=>
  intro l h aa;have uO:=tb l;simp only [Al,Sc,avM,avQ,avP]
  have gS:∀m i,l.length<i+m→i≤l.length→En n (Al n) l l m (i:Int)=some true:=by
   intro m;induction m with
   |zero=>intro i Z ab;omega
   |succ m li=>
    intro i Z ab;simp only [En,Sb,Sa,i8,mF];by_cases hi:i<l.length
    ·have hg:=LU l i hi
     (rw [eb (by omega),li (i+1) (by omega) (by omega)];simp only [avU])
     generalize l.getD i default=s at hg
     have mu:=fst_eq s;simp only [hi,b1 hi,avV,avM,avQ,avO,avP,aT,acz n s.A (by omega) (by omega),acz n s.B (by omega) (by omega),aJ s.Body (by omega) (by omega),aJ s.bB (by omega) (by omega),an]
     rfl
    ·simp only [hi,avV,avN,avP]
  exact gS n 0 (by omega) (by omega)
def aoH{n:Nat}(p:bg)(kI:p.Params.length<n)(LW:p.Params.length≤140737488351232)(cW:dC p.Body+2≤n)(mH:dC p.Body≤140737488351232):Ka n p p=some true:=by
 unfold Ka;simp only [avM,avQ,avP]
 have gS:∀m i,p.Params.length<i+m→i≤p.Params.length→Eo n p p m (i:Int)=some true:=by
  intro m;induction m with
  |zero=>intro i Z ab;omega
  |succ m li=>
   intro i Z ab;simp only [Eo,Se,Sd];by_cases hi:i<p.Params.length
   ·rw [eb (by omega),li (i+1) (by omega) (by omega)]
    simp only [hi,b1 hi,avV,avM,Bool.and_self,avQ,avO,avP,aT]
   ·simp only [hi,avV,avN,avP,aoG n p.Body cW mH,an]
 exact gS n 0 (by omega) (by omega)
open Go Go.Ab Go.Proofs
def adb(p:bg):(⟨p.Name,p.Params,p.Body⟩:bg)=p:=rfl
open Go Go.Ab Go.Proofs
def dd(t:Token):Token:=⟨t.Kind,t.Text,t.N,0⟩
inductive eK:av3→List Token→Prop
 |nil:eK [] []
 |sp {c:UInt8} {s:av3} {T:List Token}:(c.toNat=10∨c.toNat=32)→eK s T→eK (c::s) T
 |tok {c:UInt8} {w s:av3} {t:Token} {T:List Token}:c.toNat≠10→c.toNat≠32→c.toNat≠9→c.toNat≠35→fW (c::(w++s))=(t,w.length+1,0)→t.lJ=0→eK s T→eK (c::(w++s)) (t::T)
def drop_cons{src s:av3}{c:UInt8}{i:Nat}(h:src.drop i=c::s):i<src.length∧src.getD i 0=c∧src.drop (i+1)=s:=by
 have hi:i<src.length:=by
  by_cases hi:i<src.length
  ·exact hi
  ·rw [gE src i hi]at h;cases h
 rw [fo src i 0 hi]at h;injection h with Z ab;exact⟨hi,Z,ab⟩
def aoI(n:Nat)(src:av3)(hs:src.length≤1000000000)(hn:src.length<n)(rE:100<n){s:av3}{T:List Token}(h:eK s T):
 ∀(i m:Nat) (out:List Token) (j':Nat),src.drop i=s→i≤src.length→src.length<i+m→lU out≤61*i→1≤j'→j'≤i+1→
 ∃l,sT n src m out (j':Int) (i:Int)=some (out++l,0,0)∧l.map dd=T∧∀t,t∈l→1≤t.lJ:=by
 induction h with
 |nil=>
  intro i m out j' hd hi hm hw Z ab;obtain⟨m,rfl⟩:∃j,m=j+1:=⟨m-1,by omega⟩
  have h:¬ i<src.length:=λh=>by rw [fo src i 0 h]at hd;cases hd
  simp only [sT,zO,zM,h,avV,avN,avP];exact⟨[],by simp,rfl,λt aF=>by cases aF⟩
 | @sp c s T hc aC aJ=>
  intro i m out j' hd hi hm hw Z ab;obtain⟨m,rfl⟩:∃j,m=j+1:=⟨m-1,by omega⟩
  obtain⟨h,hg,jk⟩:=drop_cons hd;simp only [sT,zO,zM,zN,DW]
  (rw [eb (by omega),eb (by omega)];simp only [avU];rw [hg])
  simp only [h,b1 h,avV,avM,avO,aT,fx];rcases hc with hc|hc
  ·simp only [hc,avM,avO];exact aJ (i+1) m out (j'+1) jk (by omega) (by omega) (by omega) (by omega) (by omega)
  ·simp only [hc,show¬ (32=10)by omega,avN,avM,avO,avP]
   exact aJ (i+1) m out j' jk (by omega) (by omega) (by omega) (by omega) (by omega)
 | @tok c w s t T uT aoJ c9 aoK aF aa aC aJ=>
  intro i m out j' hd hi hm hw Z ab;obtain⟨m,rfl⟩:∃j,m=j+1:=⟨m-1,by omega⟩
  obtain⟨h,hg,jk⟩:=drop_cons hd;have hlen:(src.drop i).length=src.length-i:=List.length_drop;have Of:w.length+s.length+1=src.length-i:=by rw [←hlen,hd];simp
  have cP:=acM (c::(w++s)) (by simp) (by rw [aF])
  rw [aF]at cP;simp only at cP
  have ba:zL n (src.drop i)=some (t,((w.length+1:Nat):Int),0):=by
   rw [hd,acO c (w++s) (by simp;omega) (by simp;omega),aF]
  simp only [sT,zO,zM,zN,DW]
  (simp only [avU];rw [hg,ba])
  have GI:=LO out;simp only [h,b1 h,avV,avM,avO,aT,fx,uT,aoJ,c9,aoK,avN,avP,xw hi,an,avQ,clone (show t.Text.length≤281474976710656 by omega),avS,avT,acS (show out.length+(0+1)≤1000000000000 by omega)]
  rw [show av5 ((i:Int)+((w.length+1:Nat):Int))=((i+(w.length+1):Nat):Int)by rw [wr]<;>omega]
  obtain⟨l,e1,e2,e3⟩:=aJ (i+(w.length+1)) m (out++[⟨t.Kind,t.Text,t.N,(j':Int)⟩]) j' (by
   rw [←List.drop_drop,hd,List.drop_succ_cons,List.drop_left]) (by omega) (by omega) (by rw [Uv];simp only [lU];omega) Z (by omega)
  refine⟨⟨t.Kind,t.Text,t.N,(j':Int)⟩::l,by rw [e1];simp,?_,?_⟩
  ·rw [List.map_cons,e2]
   congr 1
   unfold dd;rw [←aa]
  ·intro bY eO;rcases List.mem_cons.1 eO with rfl|eO
   ·simp only;omega
   ·exact e3 bY eO
def aoL{n:Nat}{s:av3}{T:List Token}(h:eK s T)(hs:s.length≤16384)(hn:s.length<n)(rE:100<n):
 ∃l,wV n s=some (l,0,0)∧l.map dd=T∧(∀t,t∈l→1≤t.lJ)∧lk l∧lU l≤61*s.length:=by
 obtain⟨l,e1,e2,e3⟩:=aoI n s (by omega) hn rE h 0 n [] 1 rfl (by omega) (by omega) (by simp [lU]) (by omega) (by omega)
 have e:wV n s=some (l,0,0):=by
  unfold wV;simp only [fp,show¬ 16384<s.length by omega,avN,avP]
  exact e1
 obtain⟨r,t1,t2,t3⟩:=an9 (λt=>t.Kind=5→t.Text∈marks) (λs j' Z ab=>an' s j' Z ab) (n:=n) s (by omega) (by omega)
 rw [e]at t1;obtain rfl:=Option.some.inj t1;obtain⟨g1,g2,g3⟩:=t3 rfl;exact⟨l,e,e2,e3,g3,g1⟩
open Go Go.Ab Go.Proofs
def aoM(u:Nat):Lib.decDigits u=if u<10 then[UInt8.ofNat (48+u)]else Lib.decDigits (u / 10)++[UInt8.ofNat (48+u % 10)]:=by
 rw [Lib.decDigits];split<;>rfl
def adc{k:Nat}(h:k<10):(UInt8.ofNat (48+k)).toNat=48+k:=by
 rw [UInt8.toNat_ofNat'];omega
def aoN(u:Nat)(l m:av3):val u (l++m)=val (val u l) m:=by unfold val;rw [List.foldl_append]
def ade:∀(u:Nat),(Lib.decDigits u).all iA=true∧val 0 (Lib.decDigits u)=u∧(∃c l,Lib.decDigits u=c::l∧(c=48→u=0))∧(u<10→(Lib.decDigits u).length=1):=by
 intro u;induction u using Nat.strongRecOn with
 |_ u aJ=>
  rw [aoM];by_cases h:u<10
  ·rw [if_pos h];have e:=adc h;refine⟨?_,?_,⟨_,_,rfl,λh0=>?_⟩,λ_=>rfl⟩
   ·simp only [List.all_cons,List.all_nil,Bool.and_true,qp,e];omega
   ·rw [Ft,Fs,e];omega
   ·rw [h0]at e;have:(48:UInt8).toNat=48:=rfl
    omega
  ·rw [if_neg h];obtain⟨Z,ab,⟨c,l,aj,aD⟩,aX⟩:=aJ (u / 10) (by omega)
   have e:=adc (show u % 10<10 by omega)
   refine⟨?_,?_,⟨c,l++[UInt8.ofNat (48+u % 10)],by rw [aj];rfl,λh0=>?_⟩,λh0=>absurd h0 h⟩
   ·rw [List.all_append,Z];simp only [List.all_cons,List.all_nil,Bool.and_true,Bool.true_and,qp,e];omega
   ·rw [aoN,ab,Ft,Fs,e];omega
   ·have:=aD h0;omega
def aoO(u:Nat)(h:u≤9223372036854775807):nT (Lib.decDigits u)=((u:Int),0):=by
 obtain⟨Z,ab,⟨c,l,aj,aD⟩,aX⟩:=ade u;unfold nT;rw [if_pos,ab,if_pos h];refine⟨Z,?_⟩
 by_cases hc:c=48
 ·exact Or.inr (aX (by have:=aD hc;omega))
 ·left;rw [aj];simpa using hc
def adf{c:UInt8}(h:iA c=true):fS c=true:=by
 rw [qp]at h;unfold fS;exact decide_eq_true (by omega)
def adg{c:UInt8}(h:lS c=true):fS c=true:=by
 unfold lS at h;simp only [Bool.and_eq_true,decide_eq_true_eq]at h;unfold fS;exact decide_eq_true (by omega)
def aoP{α:Type}{p q:α→Bool}(h:∀a,p a=true→q a=true){l:List α}(aa:l.all p=true):l.all q=true:=by
 rw [List.all_eq_true]at aa ⊢;exact λa ha=>h a (aa a ha)
def nV(r:av3):Prop:=∀c,r.head? = some c→fS c=false
def aoQ{w r:av3}(hw:w.all fS=true)(ai:nV r):hH (w++r)=w.length:=by
 induction w with
 |nil=>
  cases r with
  |nil=>rfl
  |cons c r=>rw [List.nil_append,uM,ai c rfl];rfl
 |cons c w aJ=>
  simp only [List.all_cons,Bool.and_eq_true]at hw;rw [List.cons_append,uM,hw.1,aJ hw.2];rfl
def UK{c:UInt8}{w r:av3}(hw:(c::w).all fS=true)(ai:nV r)(h0:(lj (c::w)).2=0):fW (c::(w++r))=((lj (c::w)).1,w.length+1,0):=by
 have hc:fS c=true:=by simp only [List.all_cons,Bool.and_eq_true]at hw;exact hw.1
 have aa:=aoQ hw ai;have aF:(c::(w++r)).take (w.length+1)=c::w:=by simp
 rw [List.cons_append]at aa;unfold fW;simp only [hc,av1,aa,avS,aF,h0]
def aoR{w:av3}(h:w∈pt):∃c l,w=c::l∧lS c=true∧w.all fS=true:=by
 simp only [pt,List.mem_cons,List.not_mem_nil,or_false]at h;rcases h with rfl|rfl|rfl|rfl|rfl|rfl|rfl|rfl|rfl|rfl|rfl|rfl|rfl|rfl|rfl|rfl|rfl|rfl|rfl|rfl|rfl|rfl|rfl|rfl|rfl<;>exact⟨_,_,rfl,rfl,rfl⟩
def aoS{w:av3}:hH w=w.length→w.all fS=true:=by
 induction w with
 |nil=>intro;rfl
 |cons c w aJ=>
  intro h;rw [uM]at h;cases hc:fS c
  ·rw [hc]at h;simp at h
  ·rw [hc]at h;simp only [avO,avS]at h;rw [List.all_cons,hc,aJ (by omega)];rfl
def LX{w:av3}(h:gy w=true):∃c l,w=c::l∧lS c=true∧w.all fS=true∧s_ w=false∧w.length≤16:=by
 cases w with
 |nil=>cases h
 |cons c l=>
  simp only [gy,Bool.and_eq_true,decide_eq_true_eq,Bool.not_eq_true']at h;obtain⟨⟨⟨Z,ab⟩,aj⟩,aD⟩:=h;exact⟨c,l,rfl,ab,aoS (by simpa using aj),aD,by simp;omega⟩
def gF:av3→av3
 |[]=>[]
 |c::l=>if c.toNat=34∨c.toNat=92 then 92::c::gF l else c::gF l
def quo(s:av3):av3:=34::(gF s++[34])
def adh:∀(s acc r:av3),s.all okB=true→acc.length+s.length≤64→gz (gF s++34::r) acc = .inr (acc++s,(gF s).length+1)
 |[],acc,r,h,aa=>by
  simp only [gF,List.nil_append,List.append_nil,avT];rw [A8 34 r acc (by decide),if_pos (by decide)]
 |c::s,acc,r,h,aa=>by
  simp only [List.all_cons,Bool.and_eq_true]at h;simp only [avS]at aa;have aJ:=adh s (acc++[c]) r h.2 (by simp;omega)
  simp only [gF];by_cases hc:c.toNat=34∨c.toNat=92
  ·rw [if_pos hc,List.cons_append,List.cons_append];simp only [gz];rw [if_neg (by decide),if_pos (by decide),if_neg (by omega),if_neg (by omega),aJ]
   simp only [up,avS,List.append_assoc,List.singleton_append]
  ·rw [if_neg hc,List.cons_append,A8 c _ acc (λe=>hc (Or.inr e)),if_neg (λe=>hc (Or.inl e)),if_neg (by rw [h.1];decide),if_neg (by omega),aJ]
   simp only [up,avS,List.append_assoc,List.singleton_append]
def spell(t:Token):av3:=if t.Kind=3 then Lib.decDigits t.N.toNat else if t.Kind=4 then quo t.Text else t.Text
def mJ(t:Token):Prop:=
 t.lJ=0∧((t.Kind=1∧gy t.Text=true∧t.N=0)∨(t.Kind=2∧t.Text∈pt∧t.N=0)∨(t.Kind=3∧t.Text=[]∧0≤t.N∧t.N≤9223372036854775807)∨
  (t.Kind=4∧jv t.Text=true∧t.N=0)∨(t.Kind=5∧t.Text∈marks∧t.N=0))
def Bb(t:Token)(r:av3):Prop:=(t.Kind<4→nV r)∧(t.Kind=5→∀c d,t.Text=[c]→r.head? = some d→[c,d]∉two)
def aoT{w:av3}(h:w∈marks):(w∈two∧∃a b,w=[a,b])∨∃c,w=[c]∧c∈px:=by
 unfold marks at h;rcases List.mem_append.1 h with h|h
 ·left
  refine⟨h,?_⟩
  simp only [two,List.mem_cons,List.not_mem_nil,or_false]at h;rcases h with rfl|rfl|rfl|rfl|rfl<;>exact⟨_,_,rfl⟩
 ·right
  obtain⟨c,hc,rfl⟩:=List.mem_map.1 h;exact⟨c,rfl,hc⟩
def aoU{c:UInt8}(h:c∈px):fS c=false∧c.toNat≠34∧c.toNat≠10∧c.toNat≠32∧c.toNat≠9∧c.toNat≠35:=by
 simp only [px,List.mem_cons,List.not_mem_nil,or_false]at h;rcases h with rfl|rfl|rfl|rfl|rfl|rfl|rfl|rfl|rfl|rfl|rfl|rfl|rfl|rfl|rfl<;>exact⟨rfl,by decide,by decide,by decide,by decide,by decide⟩
def aoV{a b:UInt8}(h:[a,b]∈two):fS a=false∧a.toNat≠34∧a.toNat≠10∧a.toNat≠32∧a.toNat≠9∧a.toNat≠35:=by
 simp only [two,List.mem_cons,List.not_mem_nil,or_false,List.cons.injEq,and_true]at h;rcases h with⟨rfl,rfl⟩|⟨rfl,rfl⟩|⟨rfl,rfl⟩|⟨rfl,rfl⟩|⟨rfl,rfl⟩<;>exact⟨rfl,by decide,by decide,by decide,by decide,by decide⟩
def UL{c:UInt8}(h:fS c=true):c.toNat≠10∧c.toNat≠32∧c.toNat≠9∧c.toNat≠35:=by
 unfold fS at h;have:=of_decide_eq_true h
 omega
def aoW(t:Token)(r:av3)(av:mJ t)(hb:Bb t r):∃c w,spell t=c::w∧fW (c::(w++r))=(t,w.length+1,0)∧c.toNat≠10∧c.toNat≠32∧c.toNat≠9∧c.toNat≠35:=by
 obtain⟨k,x,N,j'⟩:=t;obtain⟨rfl,av⟩:=av;simp only at av
 rcases av with⟨rfl,Z,rfl⟩|⟨rfl,Z,rfl⟩|⟨rfl,rfl,Z,ab⟩|⟨rfl,Z,rfl⟩|⟨rfl,Z,rfl⟩
 ·obtain⟨c,l,rfl,ab,aj,aD,aX⟩:=LX Z;have hw:lj (c::l)=(⟨1,c::l,0,0⟩,0):=by simp only [lj,ab,aD,Z,av1];rfl
  have:=UL (adg ab)
  exact⟨c,l,rfl,by rw [UK aj (hb.1 (by simp only;omega)) (by rw [hw]),hw],this.1,this.2.1,this.2.2.1,this.2.2.2⟩
 ·obtain⟨c,l,rfl,ab,aj⟩:=aoR Z;have hw:lj (c::l)=(⟨2,c::l,0,0⟩,0):=by simp only [lj,ab,s_,Z,avM,av1]
  have:=UL (adg ab)
  exact⟨c,l,rfl,by rw [UK aj (hb.1 (by simp only;omega)) (by rw [hw]),hw],this.1,this.2.1,this.2.2.1,this.2.2.2⟩
 ·obtain⟨u,rfl⟩:∃u:Nat,N=u:=⟨N.toNat,by omega⟩
  obtain⟨g1,g2,⟨c,l,g3,g4⟩,g5⟩:=ade u;have O5:spell ⟨3,[],(u:Int),0⟩=c::l:=by simp only [spell,av1,avU];exact g3
  have mv:(c::l).all iA=true:=by rw [←g3];exact g1
  have adi:iA c=true:=by simp only [List.all_cons,Bool.and_eq_true]at mv;exact mv.1
  have aoX:lS c=false:=by
   rw [qp]at adi;unfold lS;rw [decide_eq_false (show¬ 97≤c.toNat by omega)];rfl
  have hn:nT (c::l)=((u:Int),0):=by rw [←g3];exact aoO u (by omega)
  have hw:lj (c::l)=(⟨3,[],(u:Int),0⟩,0):=by simp only [lj,aoX,hn,av1];rfl
  have:=UL (adf adi)
  exact⟨c,l,O5,by rw [UK (aoP (λ_=>adf) mv) (hb.1 (by simp only;omega)) (by rw [hw]),hw],this.1,this.2.1,this.2.2.1,this.2.2.2⟩
 ·unfold jv at Z;simp only [Bool.and_eq_true,decide_eq_true_eq]at Z;refine⟨34,gF x++[34],rfl,?_,by decide,by decide,by decide,by decide⟩
  have:=adh x [] r Z.1 (by simp;omega)
  unfold fW;rw [List.append_assoc,List.singleton_append];simp only [show fS 34=false from rfl,Bool.false_eq_true,av2,show(34:UInt8).toNat=34 from rfl,av1,this,xy,List.nil_append,avW,avS,avT]
 ·rcases aoT Z with⟨ab,a,b,rfl⟩|⟨c,rfl,ab⟩
  ·obtain⟨g0,g1,g2,g3,g4,g5⟩:=aoV ab;refine⟨a,[b],rfl,?_,g2,g3,g4,g5⟩
   have hm:lT (a::b::r)=[a,b]:=by rw [Uo,if_pos ab]
   unfold fW;simp only [List.singleton_append,g0,Bool.false_eq_true,av2,g1,hm,reduceCtorEq,avS,avT]
  ·obtain⟨g0,g1,g2,g3,g4,g5⟩:=aoU ab;refine⟨c,[],rfl,?_,g2,g3,g4,g5⟩
   have hm:lT (c::r)=[c]:=by
    cases r with
    |nil=>rw [acI,if_pos ab]
    |cons d r=>rw [Uo,if_neg (hb.2 rfl c d rfl rfl),if_pos ab]
   unfold fW;simp only [List.nil_append,g0,Bool.false_eq_true,av2,g1,hm,reduceCtorEq,avS,avT]
def lm{t:Token}{r:av3}{T:List Token}(av:mJ t)(hb:Bb t r)(h:eK r T):eK (spell t++r) (t::T):=by
 obtain⟨c,w,e,Z,ab,aj,aD,aX⟩:=aoW t r av hb;rw [e];exact eK.tok ab aj aD aX Z av.1 h
def mK{r:av3}{T:List Token}(h:eK r T):eK (32::r) T:=eK.sp (Or.inr rfl) h
def UM{r:av3}{T:List Token}(h:eK r T):eK (10::r) T:=eK.sp (Or.inl rfl) h
open Go Go.Ab Go.Proofs
abbrev ln:=List (Option Token)
def flat:ln→av3
 |[]=>[]
 |some t::l=>spell t++flat l
 |none::l=>32::flat l
def df:ln→List Token
 |[]=>[]
 |some t::l=>t::df l
 |none::l=>df l
def mL:∀l m:ln,flat (l++m)=flat l++flat m
 |[],m=>rfl
 |some t::l,m=>by simp only [List.cons_append,flat,mL l m,List.append_assoc]
 |none::l,m=>by simp only [List.cons_append,flat,mL l m]
def tf:∀l m:ln,df (l++m)=df l++df m
 |[],m=>rfl
 |some t::l,m=>by simp only [List.cons_append,df,tf l m]
 |none::l,m=>by simp only [List.cons_append,df,tf l m]
def dK(w:av3):Token:=⟨2,w,0,0⟩
def bh(w:av3):Token:=⟨5,w,0,0⟩
def hW(w:av3):Token:=⟨1,w,0,0⟩
def nW(n:Int):Token:=⟨3,[],n,0⟩
def LY(w:av3):Token:=⟨4,w,0,0⟩
def cd(op:Int):Nat:=if op=17 then 1 else if op=16 then 2 else if op=18 then 3 else if 10≤op∧op≤15 then 4 else if op=19 then 5 else if op=4∨op=5 then 6 else if 6≤op∧op≤8 then 7 else if op=9 then 8 else 9
def nX(op:Int):Token:=
 if op=17 then dK [111,114]else if op=16 then dK [97,110,100]else if op=10 then bh [61,61]else if op=11 then bh [33,61]else if op=12 then bh [60]else if op=13 then bh [60,61]
 else if op=14 then bh [62]else if op=15 then bh [62,61]else if op=19 then bh [43,43]else if op=4 then bh [43]else if op=5 then bh [45]else if op=6 then bh [42]else if op=7 then bh [47]else bh [37]
def hJ(op:Int):Token:=
 if op=20 then dK [116,101,120,116]else if op=21 then dK [108,101,110]else if op=22 then dK [103,101,116,105,110,116]else if op=23 then dK [103,101,116,115,116,114]else if op=24 then dK [104,97,115]
 else if op=25 then dK [110,111,119]else if op=26 then dK [114,97,110,100,111,109]else dK [110,111,100,101]
def fD(op:Int)(p:ln)(least:Nat):ln:=if cd op<least then some (bh [40])::(p++[some (bh [41])])else p
def kX(Op N:Int)(S:av3)(L:List (Int×ln)):ln:=
 if Op=1 then[some (nW N)]else if Op=2 then[some (LY S)]else if Op=3 then[some (hW S)]
 else match L with
  |[]=>[some (hJ Op),some (bh [40]),some (bh [41])]
  |[a]=>if Op=18 then some (dK [110,111,116])::none::fD a.1 a.2 3 else if Op=9 then some (bh [45])::fD a.1 a.2 8 else some (hJ Op)::some (bh [40])::(a.2++[some (bh [41])])
  |a::b::_=>fD a.1 a.2 (if cd Op=4 then 5 else cd Op)++none::some (nX Op)::none::fD b.1 b.2 (cd Op+1)
mutual
def bX:Expr→ln
 |⟨Op,N,S,ax⟩=>kX Op N S (jw ax)
def jw:List Expr→List (Int×ln)
 |[]=>[]
 |x::l=>(x.Op,bX x)::jw l
end
def rb(op:Int)(n:Nat):Prop:=(1≤op∧op≤27)∧(n:Int)=jJ op
mutual
def gO:Expr→Prop
 |⟨Op,N,S,ax⟩=>rb Op ax.length∧(Op=1→0≤N∧N≤9223372036854775807)∧(Op≠1→N=0)∧(Op≠2∧Op≠3→S=[])∧(Op=2→jv S=true)∧(Op=3→gy S=true)∧FB ax
def FB:List Expr→Prop
 |[]=>True
 |x::l=>gO x∧FB l
end
mutual
def fJ:Expr→Nat
 |⟨_,_,_,ax⟩=>1+qv ax
def qv:List Expr→Nat
 |[]=>0
 |x::l=>max (fJ x) (qv l)
end
def LZ(e:Expr):gO e↔rb e.Op e.ax.length∧(e.Op=1→0≤e.N∧e.N≤9223372036854775807)∧(e.Op≠1→e.N=0)∧(e.Op≠2∧e.Op≠3→e.S=[])∧(e.Op=2→jv e.S=true)∧(e.Op=3→gy e.S=true)∧FB e.ax:=by cases e;rfl
def tg(e:Expr):fJ e=1+qv e.ax:=by cases e;rfl
def nh(p:ln):Prop:=∀r T,nV r→eK r T→eK (flat p++r) (df p++T)
def i'{c:UInt8}{r:av3}(h:fS c=false):nV (c::r):=λd hd=>by cases hd;exact h
def FC{t:Token}{r:av3}(aX:t.Kind≠5)(h:nV r):Bb t r:=⟨λ_=>h,λe=>absurd e aX⟩
def Bc{t:Token}{r:av3}:Bb t (32::r):=⟨λ_=>i' rfl,λ_ c d hc hd=>by
 cases hd;simp [two]⟩
def UN{t:Token}{r:av3}:Bb t (10::r):=⟨λ_=>i' rfl,λ_ c d hc hd=>by
 cases hd;simp [two]⟩
def FD{c:UInt8}{r:av3}(h:c≠61∧c≠33∧c≠60∧c≠62∧c≠43):Bb (bh [c]) r:=⟨λe=>by simp [bh]at e,λ_ a d ha hd=>by
 simp only [bh,List.cons.injEq,and_true]at ha;subst ha;simp [two,h]⟩
def uU{w:av3}(h:w∈pt):mJ (dK w):=⟨rfl,Or.inr (Or.inl ⟨rfl,h,rfl⟩)⟩
def py{w:av3}(h:w∈marks):mJ (bh w):=⟨rfl,Or.inr (Or.inr (Or.inr (Or.inr ⟨rfl,h,rfl⟩)))⟩
def adj{w:av3}(h:gy w=true):mJ (hW w):=⟨rfl,Or.inl ⟨rfl,h,rfl⟩⟩
def adk{n:Int}(h:0≤n)(ab:n≤9223372036854775807):mJ (nW n):=⟨rfl,Or.inr (Or.inr (Or.inl ⟨rfl,rfl,h,ab⟩))⟩
def aoY{w:av3}(h:jv w=true):mJ (LY w):=⟨rfl,Or.inr (Or.inr (Or.inr (Or.inl ⟨rfl,h,rfl⟩)))⟩
def UO{t:Token}(h:mJ t)(aX:t.Kind≠5):nh [some t]:=λr T hb aC=>by
 simp only [flat,df,List.append_nil];exact lm h (FC aX hb) aC
def L0{r:av3}{T:List Token}(h:eK r T):eK (41::r) (bh [41]::T):=lm (t:=bh [41]) (py (by decide)) (FD (by decide)) h
def UP{r:av3}{T:List Token}(h:eK r T):eK (40::r) (bh [40]::T):=lm (t:=bh [40]) (py (by decide)) (FD (by decide)) h
def aoZ{p:ln}(h:nh p):nh (some (bh [40])::(p++[some (bh [41])])):=λr T hb aC=>by
 have e:flat (some (bh [40])::(p++[some (bh [41])]))++r=40::(flat p++41::r):=by
  simp only [flat,mL,spell,bh];simp
 have e2:df (some (bh [40])::(p++[some (bh [41])]))++T=bh [40]::(df p++bh [41]::T):=by
  simp only [df,tf];simp
 rw [e,e2];exact UP (h _ _ (i' rfl) (L0 aC))
def L1{op:Int}{p:ln}(h:nh p)(k:Nat):nh (fD op p k):=by
 unfold fD;split
 ·exact aoZ h
 ·exact h
def L2{c:Prop}[Decidable c]{a b:Token}(ha:mJ a)(hb:mJ b):mJ (if c then a else b):=by
 by_cases h:c
 ·rw [if_pos h];exact ha
 ·rw [if_neg h];exact hb
def ao0{c:Prop}[Decidable c]{a b:Token}{k:Int}(ha:a.Kind=k)(hb:b.Kind=k):(if c then a else b).Kind=k:=by
 by_cases h:c
 ·rw [if_pos h];exact ha
 ·rw [if_neg h];exact hb
def ao1(op:Int):mJ (nX op):=by
 unfold nX;refine L2 (uU (by decide)) (L2 (uU (by decide)) ?_)
 repeat refine L2 (py (by decide)) ?_
 exact py (by decide)
def Bd(op:Int):mJ (hJ op)∧(hJ op).Kind=2:=by
 unfold hJ;constructor
 ·repeat refine L2 (uU (by decide)) ?_
  exact uU (by decide)
 ·repeat refine ao0 rfl ?_
  rfl
def ao2{p q:ln}{t:Token}(aF:mJ t)(hp:nh p)(au:nh q):nh (p++none::some t::none::q):=λr T hb aC=>by
 have e:flat (p++none::some t::none::q)++r=flat p++32::(spell t++32::(flat q++r)):=by
  simp only [flat,mL];simp
 have e2:df (p++none::some t::none::q)++T=df p++t::(df q++T):=by
  simp only [df,tf];simp
 rw [e,e2];exact hp _ _ (i' rfl) (mK (lm aF Bc (mK (au r T hb aC))))
def ao3{p:ln}{t:Token}(aF:mJ t)(hp:nh p):nh (some t::none::p):=λr T hb aC=>by
 have e:flat (some t::none::p)++r=spell t++32::(flat p++r):=by simp only [flat];simp
 have e2:df (some t::none::p)++T=t::(df p++T):=by simp only [df];simp
 rw [e,e2];exact lm aF Bc (mK (hp r T hb aC))
def ao4{p:ln}(hp:nh p):nh (some (bh [45])::p):=λr T hb aC=>by
 have e:flat (some (bh [45])::p)++r=spell (bh [45])++(flat p++r):=by simp only [flat];simp
 have e2:df (some (bh [45])::p)++T=bh [45]::(df p++T):=by simp only [df];simp
 rw [e,e2];exact lm (py (by decide)) (FD (by decide)) (hp r T hb aC)
def adl{p:ln}{t:Token}(aF:mJ t)(aX:t.Kind=2)(hp:∀r T,eK r T→eK (flat p++41::r) (df p++bh [41]::T)):nh (some t::some (bh [40])::(p++[some (bh [41])])):=λr T hb aC=>by
 have e:flat (some t::some (bh [40])::(p++[some (bh [41])]))++r=spell t++40::(flat p++41::r):=by simp only [flat,mL,spell,bh];simp
 have e2:df (some t::some (bh [40])::(p++[some (bh [41])]))++T=t::bh [40]::(df p++bh [41]::T):=by simp only [df,tf];simp
 rw [e,e2];exact lm aF (FC (by omega) (i' rfl)) (UP (hp r T aC))
def ao5{op:Int}(h:1≤op∧op≤27):jJ op=0∧(op≤3∨25≤op)∨jJ op=1∧(op=9∨op=18∨20≤op∧op≤24)∨jJ op=2∧(4≤op∧op≤8∨10≤op∧op≤17∨op=19):=by
 obtain rfl|rfl|rfl|rfl|rfl|rfl|rfl|rfl|rfl|rfl|rfl|rfl|rfl|rfl|rfl|rfl|rfl|rfl|rfl|rfl|rfl|rfl|rfl|rfl|rfl|rfl|rfl:op=1∨op=2∨op=3∨op=4∨op=5∨op=6∨op=7∨op=8∨op=9∨op=10∨op=11∨op=12∨op=13∨op=14∨op=15∨op=16∨op=17∨op=18∨op=19∨op=20∨op=21∨op=22∨op=23∨op=24∨op=25∨op=26∨op=27:=by omega
 all_goals first|exact Or.inl ⟨rfl,by omega⟩|exact Or.inr (Or.inl ⟨rfl,by omega⟩)|exact Or.inr (Or.inr ⟨rfl,by omega⟩)
mutual
def adm:∀e:Expr,gO e→nh (bX e)
 |⟨Op,N,S,ax⟩,h=>by
  obtain⟨⟨Z,ab⟩,aj,aD,aX,bW,cZ,dr⟩:=h;have aJ:=adn ax dr;unfold bX;unfold kX;by_cases e1:Op=1
  ·rw [if_pos e1];exact UO (adk (aj e1).1 (aj e1).2) (by simp [nW])
  by_cases e2:Op=2
  ·rw [if_neg e1,if_pos e2];exact UO (aoY (bW e2)) (by simp [LY])
  by_cases e3:Op=3
  ·rw [if_neg e1,if_neg e2,if_pos e3];exact UO (adj (cZ e3)) (by simp [hW])
  rw [if_neg e1,if_neg e2,if_neg e3]
  match ax,aJ with
  |[],_=>exact adl (p:=[]) (Bd Op).1 (Bd Op).2 (λr T aC=>L0 aC)
  |[a],aJ=>
   have ha:=aJ (a.Op,bX a) (by simp [jw])
   simp only [jw];by_cases ado:Op=18
   ·rw [if_pos ado];exact ao3 (uU (by decide)) (L1 ha 3)
   ·rw [if_neg ado];by_cases adp:Op=9
    ·rw [if_pos adp];exact ao4 (L1 ha 8)
    ·rw [if_neg adp];exact adl (Bd Op).1 (Bd Op).2 (λr T aC=>ha _ _ (i' rfl) (L0 aC))
  |a::b::_,aJ=>
   have ha:=aJ (a.Op,bX a) (by simp [jw])
   have hb:=aJ (b.Op,bX b) (by simp [jw])
   simp only [jw];exact ao2 (ao1 Op) (L1 ha _) (L1 hb _)
def adn:∀l:List Expr,FB l→∀x,x∈jw l→nh x.2
 |[],h,x,hx=>by simp [jw]at hx
 |e::l,h,x,hx=>by
  rcases List.mem_cons.1 hx with rfl|hx
  ·exact adm e h.1
  ·exact adn l h.2 x hx
end
end Go.Ab.Y

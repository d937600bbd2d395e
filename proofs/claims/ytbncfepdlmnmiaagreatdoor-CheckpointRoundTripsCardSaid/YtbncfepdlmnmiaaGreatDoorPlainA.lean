/- The plain law: what the functions compute answers as the statement says. -/
import Derived.Test.YtbncfepdlmnmiaaGreatDoorCtrB
set_option linter.all false
namespace Go.Ab.Y
open Go Go.Ab Go.Proofs
def auT{h:Decidable True}:@decide True h=true:=_root_.decide_true h
def auU{h:Decidable False}:@decide False h=false:=_root_.decide_false h
def au1:(∀n:Nat,(n:Int).toNat=n)∧∀(α:Type)(_:Inhabited α)(l:List α)(n:Nat),avb l n=l.getD n default:=⟨λ_=>rfl,λ_ _ _ _=>rfl⟩
def auV{α:Type}{a b:α}:cond true a b=a:=rfl
def auW{α:Type}{a b:α}:cond false a b=b:=rfl
def auX:(!true)=false:=rfl
def auY:(!false)=true:=rfl
def auZ{α:Type}{a:α}{l:List α}:(a::l).length=l.length+1:=rfl
def au0{α:Type}:([]:List α).length=0:=rfl
def au2{a b:Nat}:((a:Int)<b)↔a<b:=_root_.Int.ofNat_lt
def au3{α:Type}{a b:List α}:(a++b).length=a.length+b.length:=_root_.List.length_append
def au4{α:Type}{a:α}:[a].length=1:=rfl
def au5{α:Type}{b:Bool}{x y:α}:cond b x y=if b then x else y:=_root_.Bool.cond_eq_ite b x y
def au6(a:Int):¬a<a:=_root_.Int.lt_irrefl a
def au7(a:Bool):(a||true)=true:=_root_.Bool.or_true a
def au8{α:Type}{a b:α}{h:Decidable True}:@ite α True h a b=a:=_root_.if_true a b
def au9{α:Type}{a b:α}{h:Decidable False}:@ite α False h a b=b:=_root_.if_false a b
def wr{x:Int}(Z : -9223372036854775808≤x)(aa:x≤9223372036854775807):ava x=x:=by(try unfold ava);rw [IntKind.wrap_i64];omega
def c8{i:Nat}(h:i≤4611686018427387904):ava ((i:Int)+1)=((i+1:Nat):Int):=by rw [wr]<;>omega
def ea{i:Nat}(h:i≤9223372036854775806):ava ((i:Int)+1)=((i+1:Nat):Int):=by rw [wr]<;>omega
def cC{i n:Nat}(h:i<n):aI (i:Int) n=true:=by simp [aI];omega
def mm{n:Nat}(h:0<n):aI 0 n=true:=by simp [aI];omega
def AP{i n:Nat}(h:i≤n):gT (i:Int) n=true:=by simp [gT];omega
def E7{i j n:Nat}(h:i≤j)(aa:j≤n):l4 (i:Int) (j:Int) n=true:=by simp [l4];omega
@[simp] def a6 {α : Type} (x : Option α) : av true x = x := rfl
def eZ{α:Type}(l:List α)(i:Nat)(d:α)(h:i<l.length):l.drop i=l.getD i d::l.drop (i+1):=by
 rw [List.drop_eq_getElem_cons h];simp [List.getD,h]
def gE{α:Type}(l:List α)(i:Nat)(h:¬ i<l.length):l.drop i=[]:=List.drop_of_length_le (by omega)
def rP(a k:Nat):((a:Int)<(no_index (OfNat.ofNat k):Int))↔a<k:=Int.ofNat_lt
def ng(a k:Nat):((a:Int)≤(no_index (OfNat.ofNat k):Int))↔a≤k:=Int.ofNat_le
def gb(a k:Nat):((no_index (OfNat.ofNat k):Int)<(a:Int))↔k<a:=Int.ofNat_lt
def rQ(a k:Nat):((no_index (OfNat.ofNat k):Int)≤(a:Int))↔k≤a:=Int.ofNat_le
def fI(a k:Nat):((a:Int)=(no_index (OfNat.ofNat k):Int))↔a=k:=Int.ofNat_inj
def eG(a b:Bool):(bif a then true else b)=(a||b):=by cases a<;>rfl
def fk(a b:Bool):(bif a then b else false)=(a&&b):=by cases a<;>rfl
def ak{α β:Type}(a:α)(f:α→Option β):Option.bind (some a) f=f a:=rfl
def okB(c:UInt8):Bool:=decide (32≤c.toNat)&&decide (c.toNat≤126)
def jg(s:au'):Bool:=s.all okB&&decide (s.length≤64)
def AQ(c:UInt8):(decide (c.toNat<32)||decide (126<c.toNat)) = !okB c:=by
 unfold okB;by_cases h:c.toNat<32
 ·simp [h]
 ·by_cases aa:c.toNat≤126
  ·simp [aa,show 32≤c.toNat by omega,h]
  ·simp [aa];omega
def amr(n:Nat)(s:au')(hs:s.length≤9223372036854775807):∀m i,s.length<i+m→i≤s.length→zm n s m (i:Int)=some ((s.drop i).all okB&&decide (s.length≤64)):=by
 intro m;induction m with
 |zero=>intro i h aa;omega
 |succ m aM=>
  intro i hm hi;simp only [zm,OY,OX];by_cases h:i<s.length
  ·rw [eZ s i 0 h,ea (by omega),aM (i+1) (by omega) (by omega)]
   simp only [h,cC h,au1,au2,auT,auV,a6,au7,List.all_cons,rP,gb,eG,AQ];cases okB (s.getD i 0)<;>simp
  ·rw [gE s i h];simp [h,ng]
def ab_{n:Nat}{s:au'}(h:s.length<n)(hs:s.length≤9223372036854775807):OZ n s=some (jg s):=amr n s hs n 0 (by omega) (by omega)
def ams(n:Nat)(s:au')(hs:s.length≤9223372036854775807):∀m i,s.length<i+m→i≤s.length→Ee n s m (i:Int)=some ((s.drop i).all okB):=by
 intro m;induction m with
 |zero=>intro i h aa;omega
 |succ m aM=>
  intro i hm hi;simp only [Ee,RF,RE];by_cases h:i<s.length
  ·rw [eZ s i 0 h,ea (by omega),aM (i+1) (by omega) (by omega)]
   simp only [h,cC h,au1,au2,auT,auV,a6,au7,List.all_cons,rP,gb,eG,AQ];cases okB (s.getD i 0)<;>simp
  ·rw [gE s i h];simp [h,ng]
def amt{n:Nat}{s:au'}(h:s.length<n)(hs:s.length≤9223372036854775807):J1 n s=some (jg s):=by
 unfold J1;rw [show(0:Int)=((0:Nat):Int)from rfl,ams n s hs n 0 (by omega) (by omega)]
 unfold jg;simp only [List.drop_zero,gb];by_cases h:64<s.length
 ·simp [h]
 ·simp [h];omega
def u9:List au':=[[112,114,111,99],[108,101,116],[112,117,116],[100,101,108,101,116,101],[105,102],[101,108,115,101],[102,111,114],[116,111],[109,97,120],[101,109,105,116],[97,98,111,114,116],[110,111,116],[97,110,100],[111,114],[105,110,116],[115,116,114],[98,111,111,108],[116,101,120,116],[108,101,110],[103,101,116,105,110,116],[103,101,116,115,116,114],[104,97,115],[110,111,119],[114,97,110,100,111,109],[110,111,100,101]]
def u'(s:au'):Bool:=decide (s∈u9)
def aca(n:Nat)(s:au'):CI n s=some (u' s):=by
 unfold u';by_cases h:s∈u9
 ·simp only [h,auT];simp only [u9,List.mem_cons,List.not_mem_nil,or_false]at h;rcases h with rfl|rfl|rfl|rfl|rfl|rfl|rfl|rfl|rfl|rfl|rfl|rfl|rfl|rfl|rfl|rfl|rfl|rfl|rfl|rfl|rfl|rfl|rfl|rfl|rfl<;>rfl
 ·simp only [h,auU];simp only [u9,List.mem_cons,List.not_mem_nil,or_false,not_or]at h;simp only [CI,iD,OD,h,auU,auW]
def amu(n:Nat)(l:List au')(s:au')(hs:l.length≤4611686018427387904):∀m i,l.length<i+m→i≤l.length→D' n l s m (i:Int)=some (decide (s∈l.drop i)):=by
 intro m;induction m with
 |zero=>intro i h aa;omega
 |succ m aM=>
  intro i hm hi;simp only [D',Rm,Rl];by_cases h:i<l.length
  ·rw [eZ l i default h,c8 (by omega),aM (i+1) (by omega) (by omega)]
   simp only [h,cC h,au1,au2,auT,auV,a6,List.mem_cons];by_cases he:l.getD i default=s
   ·simp only [he,auT,auV,true_or]
   ·simp only [he,auU,auW,show¬ s=l.getD i default from λx=>he x.symm,false_or]
  ·rw [gE l i h];simp [h]
def amv(n:Nat):Rk n=some u9:=rfl
def amw{n:Nat}(l:List au')(s:au')(h:l.length<n)(hs:l.length≤4611686018427387904):Rn n l s=some (decide (s∈l)):=amu n l s hs n 0 (by omega) (by omega)
def acb{n:Nat}(s:au')(h:25<n):D_ n s=some (u' s):=by
 unfold D_;simp only [amv,ak];rw [amw u9 s (by show 25<_;omega) (by decide)]
 rfl
def oY(c:UInt8):Bool:=decide (97≤c.toNat)&&decide (c.toNat≤122)
def S7(n:Nat)(c:UInt8):Ap n ((c.toNat:Nat):Int)=some (oY c):=by
 simp only [Ap,fk,rQ,ng,oY]
def amx{x:Nat}(h:x<256):IntKind.i32.wrap (x:Int)=x:=by rw [IntKind.wrap_i32];omega
def acd(n:Nat)(c:UInt8):CJ n (IntKind.i32.wrap ((c.toNat:Nat):Int))=some (oY c):=by
 rw [amx c.toNat_lt];simp only [CJ,fk,rQ,ng,oY]
def ace(n:Nat)(c:UInt8):Ea n ((c.toNat:Nat):Int)=some (im c):=by
 simp only [Ea,S7,ak,Ro,fk,eG,rQ,ng,fI];unfold im oY;by_cases h:97≤c.toNat∧c.toNat≤122
 ·simp [h.1,h.2]
 ·have:(decide (97≤c.toNat)&&decide (c.toNat≤122))=false:=by simpa using h
  rw [this];simp only [auY,auV,ak,Bool.false_or,h,false_or,Bool.decide_or,Bool.decide_and]
def K6(s:au'):gI s≤s.length:=by unfold gI;exact(List.takeWhile_prefix _).length_le
def AR(c:UInt8)(s:au'):gI (c::s)=bif im c then gI s+1 else 0:=by
 unfold gI;cases h:im c<;>simp [List.takeWhile,h]
def amy(n:Nat)(s:au')(hs:s.length≤4611686018427387904):∀m i,s.length<i+m→i≤s.length→Eb n s m (i:Int)=some (((i+gI (s.drop i):Nat):Int)):=by
 intro m;induction m with
 |zero=>intro i h aa;omega
 |succ m aM=>
  intro i hm hi;simp only [Eb,Rq,Rp];by_cases h:i<s.length
  ·rw [eZ s i 0 h,c8 (by omega),aM (i+1) (by omega) (by omega)]
   simp only [h,cC h,au1,au2,auT,auV,a6,au7,ace,ak,AR];cases im (s.getD i 0)
   ·rfl
   ·simp only [auV,Option.some.injEq];omega
  ·rw [gE s i h];simp [h,gI]
def acf{n:Nat}{s:au'}(i:Nat)(h:s.length<n)(hi:i≤s.length)(hs:s.length≤4611686018427387904):JX n s (i:Int)=some (((i+gI (s.drop i):Nat):Int)):=amy n s hs n i (by omega) hi
def hr(s:au'):Bool:=
 match s with
 |[]=>false
 |c::l=>decide (l.length≤15)&&oY c&&decide (gI (c::l)=l.length+1) && !u' (c::l)
def E8{n:Nat}(s:au')(h:s.length<n)(aa:25<n)(hs:s.length≤4611686018427387904):ta n s=some (hr s):=by
 unfold ta;cases s with
 |nil=>rfl
 |cons c l=>
  simp only [acb _ aa,fk,rQ,ng,auZ,show 1≤l.length+1 by omega,auT,Bool.true_and,mm (show 0<l.length+1 by omega),au7,a6,List.getD_cons_zero,S7]
  rw [show(0:Int)=((0:Nat):Int)from rfl,acf 0 h (by omega) hs]
  simp only [List.drop_zero,Nat.zero_add,hr,Int.ofNat_inj,show(l.length+1≤16)=(l.length≤15)by rw [eq_iff_iff];omega]
  cases decide (l.length≤15)<;>simp only [Bool.false_and,auW,ak,Bool.true_and,auV]
  cases oY c<;>simp only [Bool.false_and,auW,ak,Bool.true_and,auV,Int.ofNat_inj]
  cases decide (gI (c::l)=l.length+1)<;>simp only [Bool.false_and,auW,ak,Bool.true_and,auV]
def acg(n:Nat)(s:au')(h:s.length≤140737488351232):y7 n s=some ((gI s:Nat):Int):=by
 unfold y7;simp only [h,auT,a6]
def AS(n:Nat)(s:au')(h:s.length≤140737488351232):sK n s=some (hr s):=by
 unfold sK;cases s with
 |nil=>rfl
 |cons c l=>
  simp only [aca,fk,rQ,ng,auZ,reduceCtorEq,auU,auY,Bool.true_and,mm (show 0<l.length+1 by omega),au7,a6,List.getD_cons_zero,acd,acg _ _ h]
  simp only [hr,Int.ofNat_inj,show(l.length+1≤16)=(l.length≤15)by rw [eq_iff_iff];omega]
  cases decide (l.length≤15)<;>simp only [Bool.false_and,auW,ak,Bool.true_and,auV]
  cases oY c<;>simp only [Bool.false_and,auW,ak,Bool.true_and,auV,Int.ofNat_inj]
  cases decide (gI (c::l)=l.length+1)<;>simp only [Bool.false_and,auW,ak,Bool.true_and,auV]
def jW(op:Int):Int:=bif decide (op<1)||decide (27<op)then -1 else bif decide (op≤3)||decide (25≤op)then 0 else bif decide (op=9)||decide (op=18)||decide (20≤op)then 1 else 2
def amz(n:Nat)(op:Int):H0 n op=some (jW op):=by
 simp only [H0,jW,eG];cases decide (op<1)||decide (27<op)<;>simp only [auV,auW]
 cases decide (op≤3)||decide (25≤op)<;>simp only [auV,auW]
 cases decide (op=9)||decide (op=18)||decide (20≤op)<;>rfl
def amA(n:Nat)(op:Int):Ed n op=some (jW op):=by
 by_cases h:1≤op∧op≤27
 ·obtain rfl|rfl|rfl|rfl|rfl|rfl|rfl|rfl|rfl|rfl|rfl|rfl|rfl|rfl|rfl|rfl|rfl|rfl|rfl|rfl|rfl|rfl|rfl|rfl|rfl|rfl|rfl:op=1∨op=2∨op=3∨op=4∨op=5∨op=6∨op=7∨op=8∨op=9∨op=10∨op=11∨op=12∨op=13∨op=14∨op=15∨op=16∨op=17∨op=18∨op=19∨op=20∨op=21∨op=22∨op=23∨op=24∨op=25∨op=26∨op=27:=by omega
  all_goals rfl
 ·have ha:jW op = -1:=by
   unfold jW;by_cases Z:op<1
   ·simp [Z]
   ·simp [show 27<op by omega]
  have hb:(decide (4≤op)&&decide (op≤19))=false:=by
   by_cases Z:4≤op
   ·simp [Z];omega
   ·simp [Z]
  simp only [Ed,uV,td,RD,fk,hb,ha,show¬ op=1 by omega,show¬ op=2 by omega,show¬ op=3 by omega,show¬ op=25 by omega,show¬ op=26 by omega,show¬ op=27 by omega,show¬ op=9 by omega,show¬ op=18 by omega,show¬ op=20 by omega,show¬ op=21 by omega,show¬ op=22 by omega,show¬ op=23 by omega,show¬ op=24 by omega,auU,auW]
def pM(e:Expr)(depth:Int):Int:=
 if jW e.Op<0∨(e.Op≠1∧e.N≠0)∨(e.Op≠2∧e.Op≠3∧e.S≠[])then 1
 else if e.Op=3∧hr e.S=false then 7
 else if e.N<0∨(e.Op=2∧jg e.S=false)∨(e.ax.length:Int)≠jW e.Op then 1
 else if 12<depth then 2 else 0
def amB{n:Nat}(e:Expr)(depth:Int)(h:e.S.length<n)(hs:e.S.length≤140737488351232):H2 n e depth=some (pM e depth):=by
 obtain⟨Op,N,S,ax⟩:=e;simp only at h hs
 simp only [H2,amz,ak,AS _ _ hs,ab_ h (by omega),pM]
 by_cases Z:jW Op<0
 ·simp [Z]
 by_cases aa:Op=1
 ·subst aa;by_cases bd:S=[]
  ·by_cases b':N<0
   ·simp [Z,bd,b']
   ·by_cases eb:(ax.length:Int)=jW 1
    ·by_cases d':12<depth<;>simp [Z,bd,b',eb,d']
    ·simp [Z,bd,b',eb]
  ·simp [Z,bd]
 ·by_cases am:N=0
  ·by_cases aK:Op=3
   ·subst aK;cases hn:hr S
    ·simp [Z,am,hn]
    ·by_cases eb:(ax.length:Int)=jW 3
     ·by_cases d':12<depth<;>simp [Z,am,hn,eb,d']
     ·simp [Z,am,hn,eb]
   ·by_cases bd:Op=2
    ·subst bd;cases hn:jg S
     ·simp [Z,am,hn]
     ·by_cases eb:(ax.length:Int)=jW 2
      ·by_cases d':12<depth<;>simp [Z,am,hn,eb,d']
      ·simp [Z,am,hn,eb]
    ·by_cases b':S=[]
     ·by_cases eb:(ax.length:Int)=jW Op
      ·by_cases d':12<depth<;>simp [Z,aa,am,aK,bd,b',eb,d']
      ·simp [Z,aa,am,aK,bd,b',eb]
     ·simp [Z,aa,am,aK,bd,b']
  ·simp [Z,aa,am]
def amC{n:Nat}(e:Expr)(depth:Int)(h:e.S.length<n)(aa:25<n)(hs:e.S.length≤140737488351232):J2 n e depth=some (pM e depth):=by
 obtain⟨Op,N,S,ax⟩:=e;simp only at h hs
 simp only [J2,amA,ak,E8 S h aa (by omega),amt h (by omega),pM]
 clear aa;by_cases Z:jW Op<0
 ·simp [Z]
 by_cases aa:Op=1
 ·subst aa;by_cases bd:S=[]
  ·by_cases b':N<0
   ·simp [Z,bd,b']
   ·by_cases eb:(ax.length:Int)=jW 1
    ·by_cases d':12<depth<;>simp [Z,bd,b',eb,d']
    ·simp [Z,bd,b',eb]
  ·simp [Z,bd]
 ·by_cases am:N=0
  ·by_cases aK:Op=3
   ·subst aK;cases hn:hr S
    ·simp [Z,am,hn]
    ·by_cases eb:(ax.length:Int)=jW 3
     ·by_cases d':12<depth<;>simp [Z,am,hn,eb,d']
     ·simp [Z,am,hn,eb]
   ·by_cases bd:Op=2
    ·subst bd;cases hn:jg S
     ·simp [Z,am,hn]
     ·by_cases eb:(ax.length:Int)=jW 2
      ·by_cases d':12<depth<;>simp [Z,am,hn,eb,d']
      ·simp [Z,am,hn,eb]
    ·by_cases b':S=[]
     ·by_cases eb:(ax.length:Int)=jW Op
      ·by_cases d':12<depth<;>simp [Z,aa,am,aK,bd,b',eb,d']
      ·simp [Z,aa,am,aK,bd,b',eb]
     ·simp [Z,aa,am,aK,bd,b']
  ·simp [Z,aa,am]
mutual
def cM:Expr→Nat
 |⟨_,_,S,ax⟩=>30+S.length+jE ax
def jE:List Expr→Nat
 |[]=>0
 |x::l=>cM x+1+jE l
end
def tn(e:Expr):cM e=30+e.S.length+jE e.ax:=by cases e;rfl
def K7:∀l:List Expr,l.length≤jE l
 |[]=>Nat.le_refl _
 |x::l=>by have:=K7 l;simp only [jE,auZ];omega
def K8:∀(l:List Expr) (i:Nat),i<l.length→cM (l.getD i default)<jE l
 |[],i,h=>by simp at h
 |x::l,0,h=>by simp only [jE,List.getD_cons_zero];omega
 |x::l,i+1,h=>by have:=K8 l i (by simpa using h);simp only [jE,List.getD_cons_succ];omega
open Go Go.Ab Go.Proofs
def jF(c:UInt8):Bool:=decide (48≤c.toNat)&&decide (c.toNat≤57)
def val(u:Nat)(l:au'):Nat:=l.foldl (λu c=>u*10+(c.toNat-48)) u
def K9(u:Nat):val u []=u:=rfl
def K'(u:Nat)(c:UInt8)(l:au'):val u (c::l)=val (u*10+(c.toNat-48)) l:=by unfold val;rw [List.foldl_cons]
def ach(l:au'):∀(u:Nat),u≤val u l:=by
 induction l with
 |nil=>intro u;simp only [K9,Nat.le_refl]
 |cons c l aM=>
  intro u;rw [K'];have Z:u≤u*10+(c.toNat-48):=by omega
  exact Nat.le_trans Z (aM _)
def u_(c:UInt8):jF c=true↔48≤c.toNat∧c.toNat≤57:=by simp [jF]
def amD(l:au'):∀u,l.all jF=true→Lib.parseUintM 18446744073709551615 u l=(if val u l≤18446744073709551615 then .ok (val u l)else .range)∨18446744073709551615<u:=by
 induction l with
 |nil=>
  intro u _;by_cases h:u≤18446744073709551615
  ·left;rw [K9,if_pos h];rfl
  ·right;omega
 |cons c l aM=>
  intro u h;simp only [List.all_cons,Bool.and_eq_true,u_]at h;left
  rw [K'];simp only [Lib.parseUintM,h.1,and_self,au8];have hg:=ach l (u*10+(c.toNat-48));have pN:=aM (u*10+(c.toNat-48)) h.2;generalize val (u*10+(c.toNat-48)) l=w at hg pN ⊢
  by_cases Z:1844674407370955162≤u
  ·rw [if_pos Z,if_neg (by omega)]
  ·rw [if_neg Z];by_cases aa:18446744073709551615<u*10+(c.toNat-48)
   ·rw [if_pos aa,if_neg (by omega)]
   ·rw [if_neg aa];rcases pN with am|am
    ·exact am
    ·exact absurd am aa
def pO(w:au'):Int×Int:=
 if w.all jF=true∧(w.head? ≠ some 48∨w.length=1) then
  if val 0 w≤9223372036854775807 then(((val 0 w:Nat):Int),0) else(0,3)
 else(0,5)
def aci(c:UInt8)(l:au')(h:(c::l).all jF=true):CF (c::l)=if val 0 (c::l)≤9223372036854775807 then .inl (val 0 (c::l):Nat)else .inr 9223372036854775807:=by
 have hc:48≤c.toNat∧c.toNat≤57:=by
  simp only [List.all_cons,Bool.and_eq_true,u_]at h;exact h.1
 have Z:Lib.parseIntB 64 (c::l)=_:=Lib.parseIntB_plain 64 c l (by omega) (by omega)
 have aa:Lib.parseUintB 64 (c::l)=(if val 0 (c::l)≤18446744073709551615 then .ok (val 0 (c::l))else .range):=by
  unfold Lib.parseUintB;rw [if_neg (by simp)]
  rcases amD (c::l) 0 h with am|am
  ·exact am
  ·omega
 have aK:Lib.intSat 64 (c::l)=9223372036854775807:=by rw [Lib.intSat_other 64 c l (by omega)];rfl
 rw [aa]at Z;unfold CF;rw [Z,aK];by_cases bd:val 0 (c::l)≤18446744073709551615
 ·rw [if_pos bd];by_cases b':val 0 (c::l)≤9223372036854775807
  ·rw [if_pos b'];simp only [Lib.signlessC];rw [if_neg (by omega)]
  ·rw [if_neg b'];simp only [Lib.signlessC];rw [if_pos (by omega)]
 ·rw [if_neg bd,if_neg (by omega)];rfl
def amE{c:UInt8}(h:48≤c.toNat∧c.toNat≤57):IntKind.u8.wrap (((c.toNat:Nat):Int)-48)=((c.toNat-48:Nat):Int):=by rw [IntKind.wrap_u8];omega
def acj{x:Nat}(h:x≤18446744073709551615):IntKind.u64.wrap (x:Int)=x:=by rw [IntKind.wrap_u64];omega
def amF{x:Nat}(h:x≤9223372036854775807):ava (x:Int)=x:=by(try unfold ava);rw [IntKind.wrap_i64];omega
def amG(n:Nat)(s:au')(hs:s.length≤4611686018427387904)(hd:s.all jF=true)(h0:s.head? ≠ some 45):
 ∀(m i u:Nat),s.length<i+m→i≤s.length→u≤9223372036854775807→Km n s s 9223372036854775807 m (u:Int) (i:Int)=some (if val u (s.drop i)≤9223372036854775807 then(((val u (s.drop i):Nat):Int),(0:Int)) else(0,3)):=by
 intro m;induction m with
 |zero=>intro i u h aa;omega
 |succ m aM=>
  intro i u hm hi hu;simp only [Km,aae];by_cases h:i<s.length
  ·have hc:48≤(s.getD i 0).toNat∧(s.getD i 0).toNat≤57:=by
    rw [←u_];have:=List.all_eq_true.1 hd s[i] (List.getElem_mem h)
    simpa [List.getD,h]using this
   have ao:=ach (s.drop (i+1)) (u*10+((s.getD i 0).toNat-48));rw [eZ s i 0 h,c8 (by omega),K']
   simp only [h,cC h,au1,au2,auT,auV,a6,amE hc];rw [acj (show(s.getD i 0).toNat-48≤18446744073709551615 by omega)]
   have e1:IntKind.u64.wrap (9223372036854775807-(((s.getD i 0).toNat-48:Nat):Int))=((9223372036854775807-((s.getD i 0).toNat-48):Nat):Int):=by rw [IntKind.wrap_u64];omega
   have e2:IntKind.u64.wrap (Int.tdiv ((9223372036854775807-((s.getD i 0).toNat-48):Nat):Int) 10)=(((9223372036854775807-((s.getD i 0).toNat-48)) / 10:Nat):Int):=by
    rw [show(Int.tdiv ((9223372036854775807-((s.getD i 0).toNat-48):Nat):Int) 10)=(((9223372036854775807-((s.getD i 0).toNat-48)) / 10:Nat):Int)from rfl]
    exact acj (by omega)
   rw [e1,e2];simp only [au2];by_cases am:(9223372036854775807-((s.getD i 0).toNat-48)) / 10<u
   ·simp only [am,auT,auV];rw [if_neg (by omega)]
   ·simp only [am,auU,auW]
    have e3:IntKind.u64.wrap (IntKind.u64.wrap ((u:Int)*10)+(((s.getD i 0).toNat-48:Nat):Int))=((u*10+((s.getD i 0).toNat-48):Nat):Int):=by
     rw [IntKind.wrap_u64,IntKind.wrap_u64];omega
    rw [e3];exact aM (i+1) _ (by omega) (by omega) (by omega)
  ·rw [gE s i h,K9];simp only [h,au2,auU,auW,hu,au8,aad]
   have:(bif (decide (0<((s.length:Nat):Int))) then(decide ((((s.getD 0 0).toNat:Nat):Int)=45))else false)=false:=by
    cases s with
    |nil=>rfl
    |cons c l=>
     simp only [List.head?_cons,ne_eq,Option.some.injEq]at h0;simp only [List.getD_cons_zero,fI];have:¬ c.toNat=45:=λe=>h0 (UInt8.toNat_inj.1 e)
     simp [this]
   rw [this];simp only [auW,amF hu]
def amH(n:Nat)(s:au')(hs:s.length≤4611686018427387904):∀m i,s.length<i+m→i≤s.length→Er n s m (i:Int)=some ((s.drop i).all jF&&decide (0<s.length)&&(!decide (s.head? = some 48)||decide (s.length=1))):=by
 intro m;induction m with
 |zero=>intro i h aa;omega
 |succ m aM=>
  intro i hm hi;simp only [Er,aab,aaa];by_cases h:i<s.length
  ·rw [eZ s i 0 h,c8 (by omega),aM (i+1) (by omega) (by omega)]
   simp only [h,cC h,au1,au2,auT,auV,a6,au7,List.all_cons,rP,gb,eG];cases hd:jF (s.getD i 0)
   ·have:(decide ((s.getD i 0).toNat<48)||decide (57<(s.getD i 0).toNat))=true:=by
     have:¬ (48≤(s.getD i 0).toNat∧(s.getD i 0).toNat≤57):=λx=>by rw [(u_ _).2 x]at hd;cases hd
     by_cases Z:(s.getD i 0).toNat<48
     ·simp only [Z,auT,Bool.true_or]
     ·simp only [show 57<(s.getD i 0).toNat by omega,auT,au7]
    rw [this];rfl
   ·have Z:=(u_ _).1 hd
    have:(decide ((s.getD i 0).toNat<48)||decide (57<(s.getD i 0).toNat))=false:=by
     simp only [show¬ (s.getD i 0).toNat<48 by omega,show¬ 57<(s.getD i 0).toNat by omega,auU,Bool.or_self]
    rw [this];simp only [auW,Bool.true_and]
  ·rw [gE s i h];cases s with
   |nil=>
    simp only [au0,au2,Nat.not_lt_zero,auU,auW];rfl
   |cons c l=>
    rw [auZ]at h;simp only [h,auU,auW,au2,auZ,gb,show 0<l.length+1 by omega,auT,auX,Bool.false_or,mm (show 0<l.length+1 by omega),a6,auV,List.getD_cons_zero,fI,List.all_nil,Bool.true_and,List.head?_cons,Option.some.injEq,eG]
    have:decide (c.toNat=48)=decide (c=48):=by
     rw [decide_eq_decide];exact⟨λe=>UInt8.toNat_inj.1 e,λe=>by subst e;rfl⟩
    rw [this]
def amI{n:Nat}(c:UInt8)(l:au')(h:l.length+1<n)(hs:l.length+1≤4611686018427387904)(hc:c.toNat≠45):Sa n (c::l)=some (pO (c::l)):=by
 unfold Sa R_ aac;have hd:=amH n (c::l) hs n 0 (by simp only [auZ];omega) (by omega)
 have S8:(bif (decide (0<(((c::l).length:Nat):Int))) then(decide (((((c::l).getD 0 0).toNat:Nat):Int)=45))else false)=false:=by
  simp only [List.getD_cons_zero,fI,hc,auU];cases decide (0<(((c::l).length:Nat):Int))<;>rfl
 have hd:Er n (c::l) n 0=_:=hd;have hin:(!(decide ((0:Int)<(((c::l).length:Nat):Int)))||aI 0 (c::l).length)=true:=by rw [mm (show 0<(c::l).length by simp)];simp only [au7]
 rw [S8,hd,hin];simp only [auY,auZ,mm (show 0<l.length+1 by omega),au7,a6,auW,ak,List.drop_zero,show(0<l.length+1)=True by simp,auT,Bool.and_true]
 unfold pO;by_cases Z:(c::l).all jF=true∧((c::l).head? ≠ some 48∨(c::l).length=1)
 ·rw [if_pos Z]
  have:((c::l).all jF&&(!decide ((c::l).head? = some 48)||decide (l.length+1=1)))=true:=by
   rw [Z.1];rcases Z.2 with aa|aa
   ·simp only [aa,auU,auY,Bool.true_or,Bool.and_self]
   ·simp only [show l.length+1=1 from aa,auT,au7,Bool.and_self]
  rw [this]
  have bn:(c::l).head? ≠ some 45:=by
   intro e;simp only [List.head?_cons,Option.some.injEq]at e;subst e;exact hc rfl
  have:=amG n (c::l) hs Z.1 bn n 0 0 (by simp only [auZ];omega) (by omega) (by omega)
  simpa using this
 ·rw [if_neg Z]
  have:((c::l).all jF&&(!decide ((c::l).head? = some 48)||decide (l.length+1=1)))=false:=by
   cases aa:(c::l).all jF
   ·rfl
   ·by_cases am:(c::l).head? = some 48
    ·by_cases aK:l.length+1=1
     ·exact absurd ⟨aa,Or.inr aK⟩ Z
     ·simp only [am,aK,auT,auU,auX,Bool.or_self,Bool.and_false]
    ·exact absurd ⟨aa,Or.inl am⟩ Z
  rw [this];rfl
open Go Go.Ab Go.Proofs
def dl(l:au'):Nat:=(l.takeWhile jF).length
def S9(c:UInt8)(l:au'):dl (c::l)=bif jF c then dl l+1 else 0:=by
 unfold dl;cases h:jF c<;>simp [List.takeWhile,h]
def amJ(l:au'):dl l≤l.length:=by unfold dl;exact(List.takeWhile_prefix _).length_le
def ack(l:au'):dl l=l.length↔l.all jF=true:=by
 induction l with
 |nil=>simp [dl]
 |cons c l aM=>
  rw [S9];cases h:jF c
  ·simp [h]
  ·simp [h,aM]
def amK(n:Nat)(s:au')(b:Bool)(hs:s.length≤4611686018427387904):∀m i,s.length<i+m→i≤s.length→zY n s s b m (i:Int)=DA n s s b ((i+dl (s.drop i):Nat):Int):=by
 intro m;induction m with
 |zero=>intro i h aa;omega
 |succ m aM=>
  intro i hm hi;simp only [zY,PY];by_cases h:i<s.length
  ·rw [eZ s i 0 h,c8 (by omega),aM (i+1) (by omega) (by omega),S9]
   simp only [h,cC h,au1,au2,auT,auV,a6,rQ,ng,fk];rw [show(decide (48≤(s.getD i 0).toNat)&&decide ((s.getD i 0).toNat≤57))=jF (s.getD i 0)from rfl]
   cases jF (s.getD i 0)
   ·rfl
   ·simp only [auV];rw [show i+1+dl (s.drop (i+1))=i+(dl (s.drop (i+1))+1)by omega]
  ·rw [gE s i h];simp only [h,au2,auU,auW];rfl
def amL{n:Nat}{s:au'}(h:s.length≤281474976710656):y8 n s 10 64=some (CF s):=by
 unfold y8;rw [decide_eq_true (show(10:Int)=10∧(64:Int)=64∧s.length≤281474976710656 from⟨rfl,rfl,h⟩)]
 rfl
def amM{n:Nat}(c:UInt8)(l:au')(h:l.length+1<n)(hs:l.length+1≤140737488351232)(hc:jF c=true):I5 n (c::l)=some (pO (c::l)):=by
 have l9:=(u_ c).1 hc;have dL:¬ c.toNat=45:=by omega
 unfold I5 I4
 have S8:(bif (decide (0<(((c::l).length:Nat):Int))) then(decide (((((c::l).getD 0 0).toNat:Nat):Int)=45))else false)=false:=by
  simp only [List.getD_cons_zero,fI,dL,auU];cases decide (0<(((c::l).length:Nat):Int))<;>rfl
 have hin:(!(decide ((0:Int)<(((c::l).length:Nat):Int)))||aI 0 (c::l).length)=true:=by rw [mm (show 0<(c::l).length by simp)];simp only [au7]
 have iH:=amK n (c::l) false (by simp only [auZ];omega) n 0 (by simp only [auZ];omega) (by omega)
 have iH:zY n (c::l) (c::l) false n 0=_:=iH;rw [S8,hin,iH];simp only [a6,auW,List.drop_zero,Nat.zero_add];have Z:1≤dl (c::l):=by rw [S9,hc];simp
 have hlen:(c::l).length=l.length+1:=rfl;have hle:=amJ (c::l);unfold DA;simp only [mm (show 0<(c::l).length by simp),au7,a6,fI,show¬ dl (c::l)=0 by omega,auU,auW,au2,List.getD_cons_zero,gb,eG]
 unfold pO;by_cases ha:(c::l).all jF=true
 ·have hd:=(ack _).2 ha;simp only [hd,Nat.lt_irrefl,auU,Bool.false_or,ha,true_and];by_cases S':c=48
  ·subst S';by_cases eV:l=[]
   ·subst eV;simp only [List.head?_cons,auZ,au0];rw [if_pos (by simp)]
    simp only [y8,aci _ _ ha];rw [if_pos (by decide)]
    rfl
   ·have:1<((48::l:au')).length:=by
     cases l with
     |nil=>exact absurd rfl eV
     |cons _ _=>simp
    simp only [this,auT,auV];rw [if_neg (by simp [eV])]
    rfl
  ·have amN:¬ c.toNat=48:=λe=>S' (UInt8.toNat_inj.1 e)
   simp only [amN,auU,auW];rw [if_pos (show(c::l).head? ≠ some 48∨(c::l).length=1 from Or.inl (by simpa using S'))]
   rw [amL (by simp only [auZ];omega),aci _ _ ha]
   by_cases au:val 0 (c::l)≤9223372036854775807
   ·rw [if_pos au,if_pos au];rfl
   ·rw [if_neg au,if_neg au];rfl
 ·have hd:dl (c::l)<(c::l).length:=by
   have:¬ dl (c::l)=(c::l).length:=λe=>ha ((ack _).1 e)
   omega
  simp only [hd,auT,Bool.true_or,auV];rw [if_neg (λx=>ha x.1)]
def pP(w:au'):Token×Int:=
 match w with
 |[]=>(⟨0,[],0,0⟩,0)
 |c::_=>
  if oY c=true then
   if u' w=true then(⟨2,w,0,0⟩,0)else if hr w=true then(⟨1,w,0,0⟩,0) else(⟨0,[],0,0⟩,2)
  else if(pO w).2=0 then(⟨3,[],(pO w).1,0⟩,0) else(⟨0,[],0,0⟩,(pO w).2)
def amO{n:Nat}(c:UInt8)(l:au')(h:l.length+1<n)(hs:l.length+1≤140737488351232)(hw:im c=true):I6 n (c::l)=some (pP (c::l)):=by
 unfold I6 pP;simp only [mm (show 0<(c::l).length by simp),a6,List.getD_cons_zero,fI,acd,ak,aca,AS _ _ (show(c::l).length≤140737488351232 from hs)]
 by_cases Z:c.toNat=95
 ·have e:c=95:=UInt8.toNat_inj.1 Z;subst e
  have amP:pO (95::l)=(0,5):=by
   unfold pO;rw [if_neg (by simp [show jF 95=false from rfl])]
  simp only [Z,auT,auV];rw [if_neg (by decide),amP]
  rfl
 ·simp only [Z,auU,auW];cases ab:oY c
  ·have hd:jF c=true:=by
    unfold im at hw;have hw:=of_decide_eq_true hw;unfold oY at ab;rw [u_];simp only [Bool.and_eq_false_iff,decide_eq_false_iff_not]at ab;omega
   simp only [auW,amM c l h hs hd,ak,Bool.false_eq_true,au9];by_cases bd:(pO (c::l)).2=0
   ·simp only [bd,auT,auX,auW,au8]
   ·simp only [bd,auU,auY,auV,au9]
  ·simp only [auV,au8];cases u' (c::l)
   ·cases hr (c::l)<;>rfl
   ·rfl
def amQ{n:Nat}(c:UInt8)(l:au')(h:l.length+1<n)(aa:25<n)(hs:l.length+1≤140737488351232)(hw:im c=true):Sb n (c::l)=some (pP (c::l)):=by
 unfold Sb pP
 have hc:c.toNat≠45:=by
  unfold im at hw;have hw:=of_decide_eq_true hw;omega
 simp only [mm (show 0<(c::l).length by simp),a6,List.getD_cons_zero,fI,S7,ak,acb _ aa,E8 (c::l) h aa (show(c::l).length≤4611686018427387904 by simp only [auZ];omega),amI c l h (by omega) hc]
 cases ab:oY c
 ·simp only [auW,ak,Bool.false_eq_true,au9];by_cases bd:(pO (c::l)).2=0
  ·simp only [bd,auT,auX,auW,au8]
  ·simp only [bd,auU,auY,auV,au9]
 ·simp only [auV,au8];cases u' (c::l)
  ·cases hr (c::l)<;>rfl
  ·rfl
open Go Go.Ab Go.Proofs
def up(k:Nat):Int ⊕ (au'×Nat)→Int ⊕ (au'×Nat)
 |.inl e=>.inl e
 |.inr p=>.inr (p.1,p.2+k)
def fP:au'→au'→Int ⊕ (au'×Nat)
 |[],acc=>.inl 6
 |[c],acc=>if c.toNat=34 then .inr (acc,1)else if c.toNat=92 then .inl 6 else if okB c=false then .inl 5 else if acc.length=64 then .inl 2 else .inl 6
 |c::d::l,acc=>
  if c.toNat=34 then .inr (acc,1)
  else if c.toNat=92 then
   if d.toNat≠34∧d.toNat≠92 then .inl 5 else if acc.length=64 then .inl 2 else up 2 (fP l (acc++[d]))
  else if okB c=false then .inl 5
  else if acc.length=64 then .inl 2
  else up 1 (fP (d::l) (acc++[c]))
def fT(l:au'):List Int:=l.map λc=>((c.toNat:Nat):Int)
def S_(l:au'):kg (fT l)=l:=by
 unfold kg fT;rw [List.map_map]
 conv=>rhs;rw [←List.map_id l]
 refine List.map_congr_left λc _=>?_
 simp
def Ta(l:au'):nC (fT l)=true:=by
 unfold nC fT;rw [List.all_eq_true];intro x hx;obtain⟨c,_,rfl⟩:=List.mem_map.1 hx;have:=c.toNat_lt
 simp only [Bool.and_eq_true,decide_eq_true_eq];omega
def K_(l:au'):(fT l).length=l.length:=by simp [fT]
def Tb(l:au')(c:UInt8):fT l++[((c.toNat:Nat):Int)]=fT (l++[c]):=by simp [fT]
def xD(z:Int)(i:Nat):Int ⊕ (au'×Nat)→au'×Int×Int
 |.inl e=>([],z,e)
 |.inr p=>(p.1,((i+p.2:Nat):Int),0)
def La(z:Int)(i k:Nat)(r:Int ⊕ (au'×Nat)):xD z i (up k r)=xD z (i+k) r:=by
 cases r with
 |inl e=>rfl
 |inr p=>simp only [up,xD];rw [show i+(p.2+k)=i+k+p.2 by omega]
def acl{k:Nat}(h:k≤65):room k 1=true:=by simp [room];omega
def Lb(c:UInt8)(l acc:au')(h:c.toNat≠92):fP (c::l) acc=if c.toNat=34 then .inr (acc,1)else if okB c=false then .inl 5 else if acc.length=64 then .inl 2 else up 1 (fP l (acc++[c])):=by
 cases l with
 |nil=>
  simp only [fP];by_cases Z:c.toNat=34
  ·simp only [Z,au8]
  ·simp only [Z,h,au9,up]
 |cons d l =>
  simp only [fP];by_cases Z:c.toNat=34
  ·simp only [Z,au8]
  ·simp only [Z,h,au9]
def amR{d:UInt8}(h:¬ (d.toNat≠34∧d.toNat≠92)):okB d=true:=by
 unfold okB;simp only [Bool.and_eq_true,decide_eq_true_eq];omega
def acm(p:Prop)[Decidable p]:(!decide p)=decide (¬ p):=by by_cases h:p<;>simp [h]
def amS(n:Nat)(s:au')(hs:s.length≤4611686018427387904):∀(m i:Nat) (acc:au'),s.length<i+m→i≤s.length→acc.length≤64→
 zX n s m (fT acc) (i:Int)=some (xD 0 i (fP (s.drop i) acc)):=by
 intro m;induction m with
 |zero=>intro i acc h aa;omega
 |succ m aM=>
  intro i acc hm hi ha;simp only [zX,PV,I2,PU,I1];by_cases h:i<s.length
  ·rw [eZ s i 0 h,c8 (by omega)]
   simp only [h,cC h,au1,au2,Int.ofNat_inj,auT,auV,a6,rP,gb,fI,eG,AQ,K_];generalize hc:s.getD i 0=c
   by_cases gA:c.toNat=34
   ·simp only [gA,auT,auV,Ta,a6,S_];rw [Lb c _ _ (by omega),if_pos gA]
    rfl
   ·by_cases mI:c.toNat=92
    ·simp only [mI,auT,auV,show¬ (92=34)by omega,auU,auW]
     by_cases E9:i+1=s.length
     ·simp only [E9,auT,auV];rw [gE s s.length (by omega)]
      simp only [fP,gA,au9,mI,au8];rfl
     ·have cG:i+1<s.length:=by omega
      rw [eZ s (i+1) 0 cG,c8 (by omega)]
      simp only [E9,auU,auW,cC cG,a6];generalize s.getD (i+1) 0=d
      simp only [fP,gA,au9,mI,au8,fk,acm,show¬ (92=34)by omega]
      by_cases hd:d.toNat≠34∧d.toNat≠92
      ·rw [if_pos hd];simp only [hd.1,hd.2,auT,not_false_eq_true,Bool.and_self,auV];rfl
      ·rw [if_neg hd];have:(decide (¬ d.toNat=34)&&decide (¬ d.toNat=92))=false:=by rw [←Bool.decide_and];exact decide_eq_false hd
       simp only [this,auW,amR hd,auX];by_cases oZ:acc.length=64
       ·simp only [oZ,auT,auV,au8];rfl
       ·simp only [oZ,auU,auW,au9,auZ,au0,acl (show acc.length+(0+1)≤65 by omega),a6,Tb]
        rw [aM (i+1+1) (acc++[d]) (by omega) (by omega) (by simp only [au3,auZ,au0];omega),La]
    ·simp only [gA,mI,auU,auW];rw [Lb c _ _ mI,if_neg gA];cases ee:okB c
     ·simp only [auY,auV,au8];rfl
     ·simp only [auX,auW,au9,Bool.true_eq_false];by_cases oZ:acc.length=64
      ·simp only [oZ,auT,auV,au8];rfl
      ·simp only [oZ,auU,auW,au9,auZ,au0,acl (show acc.length+(0+1)≤65 by omega),a6,Tb]
       rw [aM (i+1) (acc++[c]) (by omega) (by omega) (by simp only [au3,auZ,au0];omega),La]
  ·rw [gE s i h];simp only [h,au2,auU,auW];rfl
def Tc{k:Nat}(h:k≤9223372036854775807):b5 k=true:=by simp [b5];omega
def acn(s:au')(i:Nat)(h:i<s.length):(s.take (i+1)).drop i=[s.getD i 0]:=by
 rw [eZ (s.take (i+1)) i 0 (by simp;omega),gE _ _ (by simp;omega)]
 simp [List.getD,h]
def amT(n:Nat)(s:au')(hs:s.length≤4611686018427387904):∀(m i:Nat) (acc:au'),s.length<i+m→i≤s.length→acc.length≤64→
 ∃z,Kn n s m (i:Int) acc=some (xD z i (fP (s.drop i) acc)):=by
 intro m;induction m with
 |zero=>intro i acc h aa;omega
 |succ m aM=>
  intro i acc hm hi ha;simp only [Kn,aag,Sc,aaf];by_cases h:i<s.length
  ·rw [eZ s i 0 h,c8 (by omega)]
   simp only [h,cC h,au1,au2,Int.ofNat_inj,auT,auV,a6,rP,gb,fI,eG,AQ,K_,E7 (Nat.le_succ i) h,acn s i h];generalize hc:s.getD i 0=c
   by_cases gA:c.toNat=34
   ·simp only [gA,auT,auV];rw [Lb c _ _ (by omega),if_pos gA]
    exact⟨0,rfl⟩
   ·by_cases mI:c.toNat=92
    ·simp only [mI,auT,auV,show¬ (92=34)by omega,auU,auW]
     by_cases E9:i+1=s.length
     ·simp only [E9,auT,auV];rw [gE s s.length (by omega)]
      simp only [fP,gA,au9,mI,au8];exact⟨_,rfl⟩
     ·have cG:i+1<s.length:=by omega
      rw [eZ s (i+1) 0 cG,c8 (by omega)]
      simp only [E9,auU,auW,cC cG,a6,au7,au1,acn s (i+1) cG,E7 (Nat.le_succ (i+1)) cG];generalize s.getD (i+1) 0=d
      simp only [fP,gA,au9,mI,au8,fk,acm,show¬ (92=34)by omega]
      by_cases hd:d.toNat≠34∧d.toNat≠92
      ·rw [if_pos hd];simp only [hd.1,hd.2,auT,not_false_eq_true,Bool.and_self,auV];exact⟨_,rfl⟩
      ·rw [if_neg hd];have:(decide (¬ d.toNat=34)&&decide (¬ d.toNat=92))=false:=by rw [←Bool.decide_and];exact decide_eq_false hd
       simp only [this,auW];by_cases oZ:acc.length=64
       ·simp only [oZ,auT,auV,au8];exact⟨_,rfl⟩
       ·simp only [oZ,auU,auW,au9,auZ,au0,Tc (show acc.length+(0+1)≤9223372036854775807 by omega),a6]
        obtain⟨z,cY⟩:=aM (i+1+1) (acc++[d]) (by omega) (by omega) (by simp only [au3,auZ,au0];omega)
        exact⟨z,by rw [cY,La]⟩
    ·simp only [gA,mI,auU,auW];rw [Lb c _ _ mI,if_neg gA];cases ee:okB c
     ·simp only [auY,auV,au8];exact⟨_,rfl⟩
     ·simp only [auX,auW,au9,Bool.true_eq_false];by_cases oZ:acc.length=64
      ·simp only [oZ,auT,auV,au8];exact⟨_,rfl⟩
      ·simp only [oZ,auU,auW,au9,auZ,au0,Tc (show acc.length+(0+1)≤9223372036854775807 by omega),a6]
       obtain⟨z,cY⟩:=aM (i+1) (acc++[c]) (by omega) (by omega) (by simp only [au3,auZ,au0];omega)
       exact⟨z,by rw [cY,La]⟩
  ·rw [gE s i h];simp only [h,au2,auU,auW];exact⟨_,rfl⟩
open Go Go.Ab Go.Proofs
def two:List au':=[[61,61],[33,61],[60,61],[62,61],[43,43]]
def tp:au':=[40,41,123,125,44,59,58,61,60,62,43,45,42,47,37]
def marks:List au':=two++tp.map λc=>[c]
def k5(l w:au'):Bool:=decide (w.length≤l.length∧l.take w.length=w)
def mJ(l:au'):au':=(marks.find? (k5 l)).getD []
def find_eq{α β:Type}[DecidableEq β](x:β)(p:α→Bool)(f:α→β)(L:List α)(h:∀w,w∈L→p w=decide (x=f w))(bP:∀v w,v∈L→w∈L→f v=f w→v=w):
 (∃v,v∈L∧x=f v∧L.find? p=some v)∨((∀v,v∈L→x≠f v)∧L.find? p=none):=by
 cases ao:L.find? p with
 |none=>
  right
  rw [List.find?_eq_none]at ao;refine⟨λv au e=>ao v au ?_,rfl⟩
  rw [h v au];exact decide_eq_true e
 |some v=>
  left
  have au:=List.mem_of_find?_eq_some ao;have:=List.find?_some ao
  rw [h v au]at this;exact⟨v,au,of_decide_eq_true this,rfl⟩
def amU(a c:UInt8)(t:au'):k5 (a::t) [c]=decide (a=c):=by
 unfold k5;rw [decide_eq_decide];simp
def amV(a b:UInt8)(t:au')(w:au')(h:w∈two):k5 (a::b::t) w=decide ([a,b]=w):=by
 have:w.length=2:=by
  simp only [two,List.mem_cons,List.not_mem_nil,or_false]at h;rcases h with rfl|rfl|rfl|rfl|rfl<;>rfl
 unfold k5;rw [decide_eq_decide,this];simp
def amW(a:UInt8)(w:au')(h:w∈two):k5 [a] w=false:=by
 have:w.length=2:=by
  simp only [two,List.mem_cons,List.not_mem_nil,or_false]at h;rcases h with rfl|rfl|rfl|rfl|rfl<;>rfl
 unfold k5;rw [this];simp
def aco(a:UInt8)(t:au'):((tp.map λc=>[c]).find? (k5 (a::t))).getD []=if a∈tp then[a] else[]:=by
 rw [List.find?_map];have Z:((λw=>k5 (a::t) w)∘λc=>[c])=λc=>decide (a=c):=by funext c;exact amU a c t
 have Z:(k5 (a::t)∘λc=>[c])=λc=>decide (a=c):=Z
 rw [Z];rcases find_eq a (λc=>decide (a=c)) (λc=>c) tp (λ_ _=>rfl) (λ_ _ _ _ e=>e) with⟨v,au,rfl,aa⟩|⟨hn,aa⟩
 ·rw [aa,if_pos au];rfl
 ·rw [aa,if_neg λhm=>hn a hm rfl];rfl
def amX(a b:UInt8)(t:au'):mJ (a::b::t)=if[a,b]∈two then[a,b]else if a∈tp then[a] else[]:=by
 unfold mJ marks;rw [List.find?_append];rcases find_eq [a,b] (k5 (a::b::t)) (λc=>c) two (λw hw=>amV a b t w hw) (λ_ _ _ _ e=>e) with⟨v,au,rfl,aa⟩|⟨hn,aa⟩
 ·rw [aa,if_pos au];rfl
 ·rw [aa,if_neg λhm=>hn _ hm rfl]
  exact aco a (b::t)
def amY(a:UInt8):mJ [a]=if a∈tp then[a] else[]:=by
 unfold mJ marks;rw [List.find?_append]
 have:two.find? (k5 [a])=none:=by
  rw [List.find?_eq_none];intro w hw;rw [amW a w hw];exact Bool.false_ne_true
 rw [this];exact aco a []
def acp(a:UInt8):∀l:au',Lib.indexByte l a = -1∧a∉l∨0≤Lib.indexByte l a∧a∈l
 |[]=>Or.inl ⟨rfl,by simp⟩
 |b::l=>by
  unfold Lib.indexByte;by_cases h:b=a
  ·subst h;right;simp
  ·have cG:(b == a)=false:=by simp [h]
   rw [cG];simp only [Bool.false_eq_true,au9];rcases acp a l with⟨Z,aa⟩|⟨Z,aa⟩
   ·left
    rw [Z];refine⟨rfl,?_⟩
    simp only [List.mem_cons,not_or];exact⟨λe=>h e.symm,aa⟩
   ·right
    have:(Lib.indexByte l a == -1)=false:=by
     simp only [beq_eq_false_iff_ne,ne_eq];omega
    rw [this];simp only [Bool.false_eq_true,au9];exact⟨by omega,List.mem_cons_of_mem _ aa⟩
def amZ(a:UInt8):(((a.toNat:Nat):Int)).toNat.toUInt8=a:=by
 (simp only [au1]);exact UInt8.ofNat_toNat
def acq(n:Nat)(a:UInt8)(t:au'):Dz n (a::t)=some (if a∈tp then[a] else[]):=by
 unfold Dz PX HB;simp only [reduceCtorEq,auU,auY,mm (show 0<(a::t).length by simp),au7,a6,auV,ak,List.getD_cons_zero,amZ]
 rw [show([40,41,123,125,44,59,58,61,60,62,43,45,42,47,37]:au')=tp from rfl]
 rcases acp a tp with⟨Z,aa⟩|⟨Z,aa⟩
 ·rw [Z,if_neg aa];rfl
 ·rw [if_pos aa];have hu:gT 1 (a::t).length=true:=AP (i:=1) (show 1≤(a::t).length by simp)
  simp only [Z,auT,auV,hu,a6,List.take_succ_cons,List.take_zero]
def am0(n:Nat)(a:UInt8)(t:au'):I3 n (a::t)=some (mJ (a::t)):=by
 unfold I3;cases t with
 |nil=>
  rw [amY];exact acq n a []
 |cons b t=>
  rw [amX];have aa:decide ((2:Int)≤(((a::b::t).length:Nat):Int))=true:=decide_eq_true (by simp only [auZ];omega)
  have hu:gT 2 (a::b::t).length=true:=AP (i:=2) (show 2≤(a::b::t).length by simp)
  simp only [aa,auV,hu,a6,w9,acq];rw [show(a::b::t).take 2=[a,b]from rfl]
  generalize [a,b]=w
  by_cases h:w∈two
  ·rw [if_pos h];simp only [two,List.mem_cons,List.not_mem_nil,or_false]at h;rcases h with rfl|rfl|rfl|rfl|rfl<;>rfl
  ·rw [if_neg h];simp only [two,List.mem_cons,List.not_mem_nil,or_false,not_or]at h;simp only [h,auU,auW]
def am1(n:Nat):Z_ n=some marks:=rfl
def Td(w:au')(h:w∈marks):1≤w.length∧w.length≤2:=by
 have:∀w,w∈marks→decide (1≤w.length∧w.length≤2)=true:=by decide
 exact of_decide_eq_true (this w h)
def am2(i:Nat):Option au'→Token×Int×Int
 |none=>(⟨0,[],0,0⟩,(i:Int),5)
 |some w=>(⟨5,w,0,0⟩,((i+w.length:Nat):Int),0)
def acr(s:au')(i k:Nat):(s.take (i+k)).drop i=(s.drop i).take k:=by
 rw [List.drop_take];congr 1;omega
def am3(n:Nat)(s:au')(at_:Nat)(L:List au')(hs:s.length≤4611686018427387904)(ha:at_≤s.length)(dm:L.length≤100)(hw:∀w,w∈L→w.length≤2):
 ∀m i,L.length<i+m→i≤L.length→Es n s (at_:Int) L m (i:Int)=some (am2 at_ ((L.drop i).find? (k5 (s.drop at_)))):=by
 intro m;induction m with
 |zero=>intro i h aa;omega
 |succ m aM=>
  intro i hm hi;simp only [Es,aaj,aai];by_cases h:i<L.length
  ·(rw [eZ L i default h,c8 (by omega),aM (i+1) (by omega) (by omega)];simp only [au1])
   have xE:(L.getD i default).length≤2:=hw _ (by simp [List.getD,h])
   generalize L.getD i default=w at xE
   simp only [h,cC h,au2,auT,auV,a6,au7];have e1:ava ((at_:Int)+((w.length:Nat):Int))=((at_+w.length:Nat):Int):=by rw [wr]<;>omega
   simp only [e1,au1,acr,Int.ofNat_le];by_cases Z:at_+w.length≤s.length
   ·simp only [Z,auT,auX,Bool.false_or,E7 (Nat.le_add_right at_ w.length) Z,a6,auV];by_cases aa:(s.drop at_).take w.length=w
    ·have:k5 (s.drop at_) w=true:=decide_eq_true ⟨by simp;omega,aa⟩
     simp only [aa,auT,auV,List.find?_cons,this];rfl
    ·have:k5 (s.drop at_) w=false:=decide_eq_false λx=>aa x.2
     simp only [aa,auU,auW,List.find?_cons,this]
   ·have:k5 (s.drop at_) w=false:=decide_eq_false λx=>by have:=x.1;simp at this;omega
    simp only [Z,auU,auY,Bool.true_or,a6,auW,List.find?_cons,this]
  ·rw [gE L i h];simp only [h,au2,auU,auW];rfl
open Go Go.Ab Go.Proofs
def AT:Int ⊕ (au'×Nat)→Token×Nat×Int
 |.inl e=>(⟨4,[],0,0⟩,0,e)
 |.inr p=>(⟨4,p.1,0,0⟩,p.2+1,0)
def gc(l:au'):Token×Nat×Int:=
 match l with
 |[]=>(⟨0,[],0,0⟩,0,0)
 |c::t=>
  if im c=true then((pP ((c::t).take (gI (c::t)))).1,gI (c::t),(pP ((c::t).take (gI (c::t)))).2)
  else if c.toNat=34 then AT (fP t [])
  else if mJ (c::t)=[] then(⟨0,[],0,0⟩,0,5) else(⟨5,mJ (c::t),0,0⟩,(mJ (c::t)).length,0)
def AU:∀(l acc:au') (e:Int),fP l acc = .inl e→e≠0
 |[],acc,e,h=>by simp only [fP,Sum.inl.injEq]at h;omega
 |[c],acc,e,h=>by
  simp only [fP]at h
  (repeat' split at h)<;>simp only [reduceCtorEq,Sum.inl.injEq]at h<;>omega
 |c::d::l,acc,e,h=>by
  simp only [fP]at h;split at h
  ·cases h
  ·split at h
   ·split at h
    ·simp only [Sum.inl.injEq]at h;omega
    ·split at h
     ·simp only [Sum.inl.injEq]at h;omega
     ·cases ao:fP l (acc++[d]) with
      |inl aY=>rw [ao]at h;simp only [up,Sum.inl.injEq]at h;subst h;exact AU l _ _ ao
      |inr p=>rw [ao]at h;cases h
   ·split at h
    ·simp only [Sum.inl.injEq]at h;omega
    ·split at h
     ·simp only [Sum.inl.injEq]at h;omega
     ·cases ao:fP (d::l) (acc++[c]) with
      |inl aY=>rw [ao]at h;simp only [up,Sum.inl.injEq]at h;subst h;exact AU (d::l) _ _ ao
      |inr p=>rw [ao]at h;cases h
def Te:∀(l acc:au') (p:au'×Nat),fP l acc = .inr p→1≤p.2∧p.2≤l.length∧p.1.length≤acc.length+p.2
 |[],acc,e,h=>by simp only [fP,reduceCtorEq]at h
 |[c],acc,p,h=>by
  simp only [fP]at h;split at h
  ·simp only [Sum.inr.injEq]at h;subst h;simp
  ·(repeat' split at h)<;>simp only [reduceCtorEq]at h
 |c::d::l,acc,p,h=>by
  simp only [fP]at h;split at h
  ·simp only [Sum.inr.injEq]at h;subst h;simp
  ·split at h
   ·split at h
    ·simp only [reduceCtorEq]at h
    ·split at h
     ·simp only [reduceCtorEq]at h
     ·cases ao:fP l (acc++[d]) with
      |inl aY=>rw [ao]at h;simp only [up,reduceCtorEq]at h
      |inr q=>
       rw [ao]at h;simp only [up,Sum.inr.injEq]at h;subst h;have:=Te l _ _ ao
       simp only [au3,auZ,au0]at this ⊢;omega
   ·split at h
    ·simp only [reduceCtorEq]at h
    ·split at h
     ·simp only [reduceCtorEq]at h
     ·cases ao:fP (d::l) (acc++[c]) with
      |inl aY=>rw [ao]at h;simp only [up,reduceCtorEq]at h
      |inr q=>
       rw [ao]at h;simp only [up,Sum.inr.injEq]at h;subst h;have:=Te (d::l) _ _ ao
       simp only [au3,auZ,au0]at this ⊢;omega
def am4(l:au'):mJ l=[]∨(1≤(mJ l).length∧(mJ l).length≤l.length):=by
 unfold mJ;cases h:marks.find? (k5 l) with
 |none=>left;rfl
 |some w=>
  right
  have Z:=Td w (List.mem_of_find?_eq_some h);have aa:=List.find?_some h;have:=(of_decide_eq_true aa).1
  exact⟨Z.1,this⟩
def am5(w:au'):(pP w).1.Text.length≤w.length:=by
 cases w with
 |nil=>simp [pP]
 |cons c l=>
  unfold pP;simp only
  (repeat' split)<;>simp
def am6(l:au')(ab:l≠[])(h:(gc l).2.2=0):1≤(gc l).2.1∧(gc l).2.1≤l.length∧(gc l).1.Text.length≤(gc l).2.1:=by
 cases l with
 |nil=>exact absurd rfl ab
 |cons c t=>
  unfold gc at h ⊢;simp only at h ⊢
  split at h
  ·rename_i hw;rw [if_pos hw];simp only
   have Z:=K6 (c::t);refine⟨by rw [AR,hw];simp,Z,?_⟩
   refine Nat.le_trans (am5 _) ?_;simp only [List.length_take];omega
  ·rename_i hw;rw [if_neg hw];split at h
   ·rename_i gA;rw [if_pos gA];cases ao:fP t [] with
    |inl e=>rw [ao]at h;exact absurd h (AU t [] e ao)
    |inr p=>
     have:=Te t [] p ao
     simp only [AT,auZ,au0]at this ⊢;omega
   ·rename_i gA;rw [if_neg gA];split at h
    ·simp only at h;omega
    ·rename_i hm;rw [if_neg hm];have:=(am4 (c::t)).resolve_left hm
     simp only
     exact⟨this.1,this.2,Nat.le_refl _⟩
def acs(c:UInt8)(t:au')(h:im c=true):∃k,gI (c::t)=k+1∧(c::t).take (gI (c::t))=c::t.take k∧k≤t.length:=by
 refine⟨gI t,by rw [AR,h];rfl,by rw [AR,h];rfl,K6 t⟩
def am7{c:UInt8}(h:c.toNat=34):im c=false:=by
 unfold im;exact decide_eq_false (by omega)
def am8{n:Nat}(c:UInt8)(t:au')(h:t.length+1<n)(hs:t.length+1≤140737488351232):
 DB n (c::t)=some ((gc (c::t)).1,(((gc (c::t)).2.1:Nat):Int),(gc (c::t)).2.2):=by
 unfold DB;rw [acg n (c::t) hs,ak];unfold gc;simp only
 cases hw:im c
 ·have h0:gI (c::t)=0:=by rw [AR,hw];rfl
  rw [h0];simp only [show decide ((0:Int)<((0:Nat):Int))=false from rfl,auW,mm (show 0<(c::t).length by simp),a6,List.getD_cons_zero,fI,Bool.false_eq_true,au9]
  by_cases gA:c.toNat=34
  ·rw [if_pos gA];simp only [gA,auT,auV];unfold PW;have:=amS n (c::t) (by simp only [auZ];omega) n 1 [] (by simp only [auZ];omega) (by simp) (by simp)
   rw [show zX n (c::t) n ([]:List Int) 1=_ from this,List.drop_succ_cons,List.drop_zero]
   cases fP t [] with
   |inl e=>rfl
   |inr p=>simp only [xD,AT,ak];rw [Nat.add_comm 1 p.2]
  ·rw [if_neg gA];simp only [gA,auU,auW,am0,ak];by_cases hm:mJ (c::t)=[]
   ·rw [if_pos hm];simp only [hm,auT,auV];rfl
   ·rw [if_neg hm];simp only [hm,auU,auW]
 ·obtain⟨k,hk,rR,pz⟩:=acs c t hw;rw [if_pos rfl];simp only [gb,show 0<gI (c::t)by omega,auT,auV,AP (K6 (c::t)),a6,au1]
  rw [rR,amO c (t.take k) (by simp only [List.length_take];omega) (by simp only [List.length_take];omega) hw]
  rfl
def am9{n:Nat}(s:au')(i:Nat)(hi:i<s.length)(h:s.length<n)(aa:100<n)(hs:s.length≤140737488351232):
 ∃t z,Sd n s (i:Int)=some (t,z,(gc (s.drop i)).2.2)∧((gc (s.drop i)).2.2=0→t=(gc (s.drop i)).1∧z=((i+(gc (s.drop i)).2.1:Nat):Int)):=by
 unfold Sd;have hd:=eZ s i 0 hi
 (simp only [au1])
 generalize hc:s.getD i 0=c at hd
 generalize aF:s.drop (i+1)=t at hd
 have uj:t.length+(i+1)=s.length:=by rw [←aF,List.length_drop];omega
 rw [hd];unfold gc;simp only [cC hi,a6,fI];by_cases gA:c.toNat=34
 ·simp only [am7 gA,Bool.false_eq_true,au9,gA,auT,auV,au8];unfold aah;rw [c8 (by omega)]
  obtain⟨z,cY⟩:=amT n s (by omega) n (i+1) [] (by omega) (by omega) (by simp)
  rw [cY,aF];cases ao:fP t [] with
  |inl e=>exact⟨_,_,rfl,λbK=>absurd bK (AU _ _ _ ao)⟩
  |inr p=>exact⟨_,_,rfl,λ_=>⟨rfl,by simp only [AT,xD];rw [show i+1+p.2=i+(p.2+1)by omega]⟩⟩
 ·simp only [gA,auU,auW,au9,ace,ak];cases hw:im c
  ·simp only [auW,Bool.false_eq_true,au9,am1,ak];have:=am3 n s i marks (by omega) (by omega) (by decide) (λw hw=>(Td w hw).2) n 0 (by have:marks.length=20:=rfl;omega) (by omega)
   rw [show Es n s (i:Int) marks n 0=_ from this,List.drop_zero,hd]
   unfold mJ;cases ao:marks.find? (k5 (c::t)) with
   |none=>exact⟨_,_,rfl,λbK=>absurd bK (by decide)⟩
   |some w=>
    have dL:¬ w=[]:=λe=>by have:=(Td w (List.mem_of_find?_eq_some ao)).1;rw [e]at this;simp at this
    simp only [Option.getD_some,dL,au9];exact⟨_,_,rfl,λ_=>⟨rfl,rfl⟩⟩
  ·obtain⟨k,hk,rR,pz⟩:=acs c t hw;have xE:=K6 (c::t);simp only [auZ]at xE;simp only [auV,au8,acf i h (by omega) (show s.length≤4611686018427387904 by omega),ak,hd,E7 (Nat.le_add_right i (gI (c::t))) (show i+gI (c::t)≤s.length by omega),a6,au1,acr]
   rw [rR,amQ c (t.take k) (by simp only [List.length_take];omega) (by omega) (by simp only [List.length_take];omega) hw]
   exact⟨_,_,rfl,λ_=>⟨rfl,rfl⟩⟩
open Go Go.Ab Go.Proofs
def jh:Bool→au'→Nat
 |_,[]=>0
 |false,c::l=>if c.toNat=35 then 1+jh true l else if c.toNat=32∨c.toNat=9∨c.toNat=10 then 1+jh false l else 0
 |true,c::l=>if c.toNat=10 then 1+jh false l else 1+jh true l
def gR:au'→Nat
 |[]=>0
 |c::l=>if c.toNat=10 then 0 else 1+gR l
def Tf:∀l,gR l≤l.length
 |[]=>Nat.le_refl _
 |c::l=>by have:=Tf l;simp only [gR];split<;>simp only [auZ]<;>omega
def Tg:∀l,jh true l=gR l+jh false (l.drop (gR l))
 |[]=>rfl
 |c::l=>by
  by_cases h:c.toNat=10
  ·simp only [jh,gR,h,au8,List.drop_zero,Nat.zero_add,show¬ (10=35)by omega,au9,or_true]
  ·simp only [jh,gR,h,au9];rw [Tg l,Nat.add_comm 1 (gR l),List.drop_succ_cons];omega
def am'(n:Nat)(s:au')(aj:Int→avd)(hs:s.length≤4611686018427387904):∀m i,s.length<i+m→i≤s.length→Kj n aj s m (i:Int)=aj ((i+gR (s.drop i):Nat):Int):=by
 intro m;induction m with
 |zero=>intro i h aa;omega
 |succ m aM=>
  intro i hm hi;simp only [Kj,Z9];by_cases h:i<s.length
  ·(rw [eZ s i 0 h,c8 (by omega),aM (i+1) (by omega) (by omega)];simp only [au1])
   generalize s.getD i 0=c
   simp only [h,cC h,au2,auT,auV,a6,au7,fI,gR];by_cases lr:c.toNat=10
   ·simp only [lr,auT,auX,auW,au8];rfl
   ·simp only [lr,auU,auY,auV,au9];rw [show i+(1+gR (s.drop (i+1)))=i+1+gR (s.drop (i+1))by omega]
  ·rw [gE s i h];simp only [h,au2,auU,auW,auY,Bool.true_or,a6];rfl
def am_(n:Nat)(s:au')(hs:s.length≤4611686018427387904)(hn:s.length<n):∀m i,s.length<i+m→i≤s.length→Kk n s m (i:Int)=some ((i+jh false (s.drop i):Nat):Int):=by
 intro m;induction m with
 |zero=>intro i h aa;omega
 |succ m aM=>
  intro i hm hi;simp only [Kk,Z',Z8];by_cases h:i<s.length
  ·have gM:=Tf (s.drop i);rw [am' n s _ hs n i (by omega) hi]
   rw [eZ s i 0 h]at gM ⊢
   (rw [c8 (by omega),aM (i+1) (by omega) (by omega)];simp only [au1])
   have uj:(s.drop (i+1)).length=s.length-(i+1):=List.length_drop;generalize s.getD i 0=c at gM ⊢
   simp only [h,cC h,au2,auT,auV,a6,au7,fI,eG];by_cases va:c.toNat=35
   ·have e:gR (c::s.drop (i+1))=1+gR (s.drop (i+1)):=by simp only [gR,va,show¬ (35=10)by omega,au9]
    rw [e]at gM ⊢;simp only [auZ,uj]at gM;rw [aM (i+(1+gR (s.drop (i+1)))) (by omega) (by omega)]
    simp only [va,auT,auV,jh,au8];rw [Tg,List.drop_drop]
    congr 2
    rw [show i+(1+gR (s.drop (i+1)))=i+1+gR (s.drop (i+1))by omega]
    omega
   ·simp only [va,auU,auW,jh,au9];by_cases hb:c.toNat=32∨c.toNat=9∨c.toNat=10
    ·have:(decide (c.toNat=32)||decide (c.toNat=9)||decide (c.toNat=10))=true:=by
      rcases hb with hb|hb|hb<;>simp [hb]
     rw [if_pos hb,this,auV]
     congr 2;omega
    ·have:(decide (c.toNat=32)||decide (c.toNat=9)||decide (c.toNat=10))=false:=by
      simp only [not_or]at hb;simp only [hb.1,hb.2.1,hb.2.2,auU,Bool.or_self]
     rw [if_neg hb,this,auW];rfl
  ·rw [gE s i h];simp only [h,au2,auU,auW];rfl
def fd(s:au')(i:Nat):Nat:=(s.take i).count 10
def act(s:au')(i k:Nat)(h:(10:UInt8)∉(s.drop i).take k):fd s (i+k)=fd s i:=by
 unfold fd;rw [List.take_add,List.count_append,List.count_eq_zero.2 h];rfl
def acu(s:au')(i:Nat)(h:i<s.length):fd s (i+1)=fd s i+(if(s.getD i 0).toNat=10 then 1 else 0):=by
 unfold fd;rw [List.take_add,List.count_append,eZ s i 0 h,List.take_succ_cons,List.take_zero]
 congr 1
 generalize s.getD i 0=c
 by_cases hc:c.toNat=10
 ·rw [if_pos hc];obtain rfl:c=10:=UInt8.toNat_inj.1 hc;rfl
 ·rw [if_neg hc];refine List.count_eq_zero.2 λhm=>?_
  simp only [List.mem_cons,List.not_mem_nil,or_false]at hm;exact hc (by rw [←hm];rfl)
def ana(n:Nat)(s:au')(a:Nat)(hs:s.length≤4611686018427387904)(ha:a≤s.length):∀m i,a<i+m→i≤a→Ki n s (a:Int) m ((fd s i:Nat):Int) (i:Int)=some ((fd s a:Nat):Int):=by
 intro m;induction m with
 |zero=>intro i h aa;omega
 |succ m aM=>
  intro i hm hi;simp only [Ki,Z7,Z6,R9];by_cases h:i<a
  ·have hle:fd s i≤i:=by unfold fd;exact Nat.le_trans List.count_le_length (by simp;omega)
   have kw:=acu s i (by omega)
   have pN:=aM (i+1) (by omega) (by omega)
   rw [kw]at pN
   (rw [c8 (by omega),c8 (by omega)];simp only [au1])
   generalize s.getD i 0=c at pN
   simp only [h,cC (show i<s.length by omega),au2,auT,auV,a6,fI]
   by_cases lr:c.toNat=10
   ·rw [if_pos lr]at pN;simp only [lr,auT,auV];exact pN
   ·rw [if_neg lr]at pN;simp only [lr,auU,auW];exact pN
  ·obtain rfl:i=a:=by omega
   simp only [Nat.lt_irrefl,au2,auU,auW]
def anb{n:Nat}(s:au')(a:Nat)(hs:s.length≤4611686018427387904)(ha:a≤s.length)(hn:s.length<n):R' n s (a:Int)=some ((fd s a:Nat):Int):=by
 unfold R';exact ana n s a hs ha n 0 (by omega) (by omega)
def Th:∀(l acc:au') (p:au'×Nat),fP l acc = .inr p→(10:UInt8)∉l.take p.2
 |[],acc,e,h=>by simp only [fP,reduceCtorEq]at h
 |[c],acc,p,h=>by
  simp only [fP]at h;split at h
  ·rename_i hc;simp only [Sum.inr.injEq]at h;subst h;intro hm;simp only [List.take_succ_cons,List.take_zero,List.mem_cons,List.not_mem_nil,or_false]at hm;rw [←hm]at hc;exact absurd hc (by decide)
  ·(repeat' split at h)<;>simp only [reduceCtorEq]at h
 |c::d::l,acc,p,h=>by
  simp only [fP]at h;split at h
  ·rename_i hc;simp only [Sum.inr.injEq]at h;subst h;intro hm;simp only [List.take_succ_cons,List.take_zero,List.mem_cons,List.not_mem_nil,or_false]at hm;rw [←hm]at hc;exact absurd hc (by decide)
  ·split at h
   ·rename_i gA mI;split at h
    ·simp only [reduceCtorEq]at h
    ·rename_i hd;split at h
     ·simp only [reduceCtorEq]at h
     ·cases ao:fP l (acc++[d]) with
      |inl aY=>rw [ao]at h;simp only [up,reduceCtorEq]at h
      |inr q=>
       rw [ao]at h;simp only [up,Sum.inr.injEq]at h;subst h;have:=Th l _ _ ao
       intro hm;simp only [List.take_succ_cons,List.mem_cons]at hm;rcases hm with hm|hm|hm
       ·rw [←hm]at mI;exact absurd mI (by decide)
       ·rw [←hm]at hd;exact absurd (show(10:UInt8).toNat≠34∧(10:UInt8).toNat≠92 by decide) hd
       ·exact this hm
   ·split at h
    ·simp only [reduceCtorEq]at h
    ·rename_i ee;split at h
     ·simp only [reduceCtorEq]at h
     ·cases ao:fP (d::l) (acc++[c]) with
      |inl aY=>rw [ao]at h;simp only [up,reduceCtorEq]at h
      |inr q=>
       rw [ao]at h;simp only [up,Sum.inr.injEq]at h;subst h;have:=Th (d::l) _ _ ao
       intro hm;rw [List.take_succ_cons,List.mem_cons]at hm;rcases hm with hm|hm
       ·rw [←hm]at ee;exact ee (by decide)
       ·exact this hm
def anc(l:au')(ab:l≠[])(h:(gc l).2.2=0):(10:UInt8)∉l.take (gc l).2.1:=by
 cases l with
 |nil=>exact absurd rfl ab
 |cons c t=>
  unfold gc at h ⊢;simp only at h ⊢
  split at h
  ·rename_i hw;rw [if_pos hw];simp only
   intro hm
   have e:(c::t).take (gI (c::t))=(c::t).takeWhile im:=by
    unfold gI;exact(List.prefix_iff_eq_take.1 (List.takeWhile_prefix im)).symm
   rw [e]at hm;have:=List.all_eq_true.1 (List.all_takeWhile (p:=im) (l:=c::t)) _ hm
   exact absurd this (by decide)
  ·rename_i hw;rw [if_neg hw];split at h
   ·rename_i gA;rw [if_pos gA];cases ao:fP t [] with
    |inl e=>rw [ao]at h;exact absurd h (AU t [] e ao)
    |inr p=>
     simp only [AT];intro hm;rw [List.take_succ_cons,List.mem_cons]at hm;rcases hm with hm|hm
     ·rw [←hm]at gA;exact absurd gA (by decide)
     ·exact Th _ _ _ ao hm
   ·rename_i gA;rw [if_neg gA];split at h
    ·simp only at h;omega
    ·rename_i hm;rw [if_neg hm];simp only
     unfold mJ at hm ⊢;cases ao:marks.find? (k5 (c::t)) with
     |none=>rw [ao]at hm;exact absurd rfl hm
     |some w=>
      simp only [Option.getD_some];have aa:=List.find?_some ao;rw [(of_decide_eq_true aa).2];have:∀w,w∈marks→decide ((10:UInt8)∉w)=true:=by decide
      exact of_decide_eq_true (this w (List.mem_of_find?_eq_some ao))
def acv:∀l:au',(10:UInt8)∉l.take (gR l)
 |[]=>by simp
 |c::l=>by
  by_cases h:c.toNat=10
  ·simp [gR,h]
  ·have:=acv l
   simp only [gR,h,au9];rw [Nat.add_comm,List.take_succ_cons,List.mem_cons];intro hm;rcases hm with hm|hm
   ·rw [←hm]at h;exact h rfl
   ·exact this hm
open Go Go.Ab Go.Proofs
def gZ:List Token→Nat
 |[]=>0
 |t::l=>60+t.Text.length+gZ l
def Lc:∀l m:List Token,gZ (l++m)=gZ l+gZ m
 |[],m=>by simp [gZ]
 |t::l,m=>by rw [List.cons_append,gZ,gZ,Lc l m];omega
def mK:∀l:List Token,60*l.length≤gZ l
 |[]=>Nat.le_refl _
 |t::l=>by have:=mK l;simp only [gZ,auZ];omega
def ane(n:Nat)(src:au')(aj:List Token→Int→Int→Option (List Token×Int×Int))(out:List Token)(nh:Int)(hs:src.length≤4611686018427387904):
 ∀m i,src.length<i+m→i≤src.length→DC n aj src out nh m (i:Int)=aj out nh ((i+gR (src.drop i):Nat):Int):=by
 intro m;induction m with
 |zero=>intro i h aa;omega
 |succ m aM=>
  intro i hm hi;simp only [DC,P2,P1];by_cases h:i<src.length
  ·(rw [eZ src i 0 h,c8 (by omega),aM (i+1) (by omega) (by omega)];simp only [au1])
   generalize src.getD i 0=c
   simp only [h,cC h,au2,auT,auV,a6,au7,fI,gR];by_cases lr:c.toNat=10
   ·simp only [lr,auT,auX,auW,au8];rfl
   ·simp only [lr,auU,auY,auV,au9];rw [show i+(1+gR (src.drop (i+1)))=i+1+gR (src.drop (i+1))by omega]
  ·rw [gE src i h];simp only [h,au2,auU,auW,auY,Bool.true_or,a6];rfl
def clone{n:Nat}{s:au'}(h:s.length≤281474976710656):I7 n s=some s:=by
 unfold I7 HA;simp only [h,auT,a6,ak]
def anf{k:Nat}(h:k≤1000000000000):room k 40=true:=by simp [room];omega
def acw{n:Nat}(s:au')(i:Nat)(hs:s.length≤4611686018427387904)(hn:s.length<n)(hi:i≤s.length):Kl n s (i:Int)=some ((i+jh false (s.drop i):Nat):Int):=am_ n s hs hn n i (by omega) hi
def ang(
 G:Token→Prop) (qk:∀(s:au') (nh:Int),s≠[]→(gc s).2.2=0→G ⟨(gc s).1.Kind,(gc s).1.Text,(gc s).1.N,nh⟩) (n:Nat) (src:au') (hs:src.length≤1000000000) (hn:src.length<n) (E':100<n):∀(k i m m2:Nat) (out:List Token),src.length-i=k→i≤src.length→src.length<i+m→src.length<i+m2→gZ out≤61*i→(∀t,t∈out→G t)→
 ∃r,DD n src m out ((fd src i+1:Nat):Int) (i:Int)=some r∧Et n src m2 out ((i+jh false (src.drop i):Nat):Int)=some r∧(r.2.2=0→gZ r.1≤61*src.length∧∀t,t∈r.1→G t):=by
 intro k;induction k using Nat.strongRecOn with
 |_ k acx=>
  intro i m m2 out hk hi hm E_ hw Ti;cases m with
  |zero=>omega
  |succ m=>
   simp only [DD,P3,PZ];by_cases h:i<src.length
   ·have hd:=eZ src i 0 h;have kw:=acu src i h;have aub:fd src i≤i:=by unfold fd;exact Nat.le_trans List.count_le_length (by simp;omega)
    simp only [I9,P0]
    (rw [ane n src _ out _ (by omega) n i (by omega) hi,c8 (by omega),c8 (by omega)];simp only [au1])
    have uj:(src.drop (i+1)).length=src.length-(i+1):=List.length_drop;have gM:=Tf (src.drop i);have tq:=acv (src.drop i);have Tj:∀(j:Nat),i<j→j≤src.length→_:=λj hj sv=>acx (src.length-j) (by omega) j m m2 out rfl sv (by omega) (by omega) (by omega) Ti
    generalize hc:src.getD i 0=c at hd kw
    simp only [h,cC h,au2,auT,auV,a6,fI];by_cases lr:c.toNat=10
    ·simp only [lr,auT,auV];obtain⟨r,Z,aa,am⟩:=Tj (i+1) (by omega) (by omega)
     rw [kw,if_pos lr]at Z;refine⟨r,Z,?_,am⟩
     rw [hd];simp only [jh,lr,show¬ (10=35)by omega,au9,or_true,au8]
     rw [show i+(1+jh false (src.drop (i+1)))=i+1+jh false (src.drop (i+1))by omega]
     exact aa
    ·have anh:fd src (i+1)=fd src i:=by rw [kw,if_neg lr];rfl
     simp only [lr,auU,auW];by_cases hb:c.toNat=32∨c.toNat=9
     ·obtain⟨r,Z,aa,am⟩:=Tj (i+1) (by omega) (by omega)
      rw [anh]at Z;refine⟨r,?_,?_,am⟩
      ·rcases hb with hb|hb
       ·simp only [hb,auT,auV];exact Z
       ·simp only [hb,show¬ (9=32)by omega,auU,auT,auV,auW];exact Z
      ·rw [hd];simp only [jh];rw [if_neg (by omega),if_pos (by omega),show i+(1+jh false (src.drop (i+1)))=i+1+jh false (src.drop (i+1))by omega]
       exact aa
     ·have cF:¬ c.toNat=32:=λe=>hb (Or.inl e)
      have fc:¬ c.toNat=9:=λe=>hb (Or.inr e)
      simp only [cF,fc,auU,auW];by_cases va:c.toNat=35
      ·simp only [va,auT,auV];have e:gR (src.drop i)=1+gR (src.drop (i+1)):=by rw [hd];simp only [gR,lr,au9]
       obtain⟨r,Z,aa,am⟩:=Tj (i+gR (src.drop i)) (by omega) (by simp only [List.length_drop]at gM;omega)
       rw [act src i _ tq]at Z;refine⟨r,Z,?_,am⟩
       rw [hd];simp only [jh,va,au8]
       rw [Tg,List.drop_drop,show i+(1+(gR (src.drop (i+1))+jh false (src.drop (i+1+gR (src.drop (i+1))))))=i+gR (src.drop i)+jh false (src.drop (i+gR (src.drop i))) by
        rw [e,show i+(1+gR (src.drop (i+1)))=i+1+gR (src.drop (i+1))by omega];omega]
       exact aa
      ·simp only [va,auU,auW,AP (Nat.le_of_lt h),a6]
       have ani:jh false (src.drop i)=0:=by
        rw [hd];simp only [jh];rw [if_neg va,if_neg (by omega)]
       rw [ani,show i+0=i from rfl]
       cases m2 with
       |zero=>omega
       |succ m2=>
        simp only [Et,Se];have dL:src.drop i≠[]:=by rw [hd];simp
        obtain⟨t,z,ie,ja⟩:=am9 (n:=n) src i h (by omega) E' (by omega)
        have bP:DB n (src.drop i)=some ((gc (src.drop i)).1,(((gc (src.drop i)).2.1:Nat):Int),(gc (src.drop i)).2.2):=by
         rw [hd];exact am8 c (src.drop (i+1)) (by omega) (by omega)
        rw [bP,ie,anb src i (by omega) hi hn]
        simp only [h,au2,auT,auV,ak];rw [c8 (by omega)]
        by_cases he:(gc (src.drop i)).2.2=0
        ·have ee:=am6 _ dL he;have Tk:=anc _ dL he;have auc:(src.drop i).length=src.length-i:=List.length_drop;obtain⟨rfl,rfl⟩:=ja he;have hY:=qk (src.drop i) ((fd src i+1:Nat):Int) dL he;generalize gc (src.drop i)=T at he ee Tk hY
         obtain⟨t,kk,e⟩:=T;simp only at he ee Tk hY
         subst he;have Nm:=mK out;simp only [auT,auX,auW,clone (show t.Text.length≤281474976710656 by omega),ak,auZ,au0,anf (show out.length+(0+1)≤1000000000000 by omega),a6]
         rw [show ava ((i:Int)+((kk:Nat):Int))=((i+kk:Nat):Int)by rw [wr]<;>omega,acw src (i+kk) (by omega) hn (by omega),ak]
         obtain⟨r,Z,aa,am⟩:=acx (src.length-(i+kk)) (by omega) (i+kk) m m2 (out++[⟨t.Kind,t.Text,t.N,((fd src i+1:Nat):Int)⟩]) rfl (by omega) (by omega) (by omega) (by rw [Lc];simp only [gZ];omega) (λbX e6=>by
          rcases List.mem_append.1 e6 with cG|cG
          ·exact Ti bX cG
          ·obtain rfl:=List.mem_singleton.1 cG;exact hY)
         rw [act src i _ Tk]at Z;exact⟨r,Z,aa,am⟩
        ·simp only [he,auU,auY,auV];exact⟨_,rfl,rfl,λbK=>absurd bK he⟩
   ·rw [gE src i h];simp only [jh,Nat.add_zero];cases m2 with
    |zero=>omega
    |succ m2=>
     simp only [Et,Se,aak,h,au2,auU,auW];exact⟨_,rfl,rfl,λ_=>⟨by simp only;omega,Ti⟩⟩
def acy(G:Token→Prop)(qk:∀(s:au') (nh:Int),s≠[]→(gc s).2.2=0→G ⟨(gc s).1.Kind,(gc s).1.Text,(gc s).1.N,nh⟩){n:Nat}(src:au')(hn:src.length≤16384→src.length<n)(E':100<n):
 ∃r,I' n src=some r∧Sf n src=some r∧(r.2.2=0→gZ r.1≤61*src.length∧src.length≤16384∧∀t,t∈r.1→G t):=by
 unfold I' Sf;simp only [gb];by_cases h:16384<src.length
 ·simp only [h,auT,auV];exact⟨_,rfl,rfl,λe=>absurd e (by decide)⟩
 ·simp only [h,auU,auW];have hn:=hn (by omega)
  have:=acw (n:=n) src 0 (by omega) hn (by omega)
  rw [show Kl n src 0=_ from this,ak]
  obtain⟨r,Z,aa,am⟩:=ang G qk n src (by omega) hn E' (src.length-0) 0 n n [] rfl (by omega) (by omega) (by omega) (by simp [gZ]) (λt aF=>by cases aF)
  exact⟨r,Z,aa,λe=>⟨(am e).1,by omega,(am e).2⟩⟩
def Tl(s:au')(nh:Int)(hs:s≠[])(h:(gc s).2.2=0):(gc s).1.Kind=5→(gc s).1.Text∈marks:=by
 cases s with
 |nil=>exact absurd rfl hs
 |cons c t=>
  unfold gc at h ⊢;simp only at h ⊢
  split
  ·intro hk;exfalso
   revert hk
   generalize (c::t).take (gI (c::t))=w
   cases w with
   |nil=>intro hk;simp [pP]at hk
   |cons d w=>
    unfold pP;simp only
    (repeat' split)<;>(intro hk;simp at hk)
  ·split
   ·cases fP t []<;>(intro hk;exfalso;simp [AT]at hk)
   ·split
    ·rename_i hm;intro hk;exfalso;simp at hk
    ·rename_i hm;intro _;simp only
     unfold mJ at hm ⊢;cases ao:marks.find? (k5 (c::t)) with
     |none=>rw [ao]at hm;exact absurd rfl hm
     |some w=>exact List.mem_of_find?_eq_some ao
open Go Go.Ab Go.Proofs
def bD(l:List Token)(i:Nat)(w:au'):Bool:=
 decide (i<l.length)&&((decide ((l.getD i default).Kind=2)||decide ((l.getD i default).Kind=5))&&decide ((l.getD i default).Text=w))
def gS{l:List Token}{i:Nat}{w:au'}(h:bD l i w=true):i<l.length:=by
 unfold bD at h;simp only [Bool.and_eq_true,decide_eq_true_eq]at h;exact h.1
def rS(n:Nat)(l:List Token)(i:Nat)(w:au'):uM n w ⟨l,(i:Int)⟩=some (bD l i w):=by
 unfold uM bD;simp only [au1,Int.ofNat_le,eG,fk];by_cases h:i<l.length
 ·simp only [show¬ l.length≤i by omega,auU,auW,cC h,a6,h,auT,Bool.true_and]
 ·simp only [show l.length≤i by omega,auT,auV,h,auU,Bool.false_and]
def o0(n:Nat)(l:List Token)(i:Nat)(w:au'):kZ n l (i:Int) w=some (bD l i w):=by
 unfold kZ bD;simp only [au1,au2,eG,fk];by_cases h:i<l.length
 ·simp only [h,cC h,au7,a6,auT,Bool.true_and]
 ·simp only [h,auU,auY,Bool.true_or,a6,Bool.false_and]
def Fa(l:List Token)(i:Nat):Int:=
 if i<l.length then(l.getD i default).mC else if l.length=0 then 1 else(l.getD (l.length-1) default).mC
def m7(l:List Token)(i:Nat)(c:Int):V:=.iface 379 (.agg [.int .i64 (Fa l i),.int .i64 c])
def iI(l:List Token)(i:Nat)(c:Int):Int:=if i<l.length then c else 6
def vb(n:Nat)(l:List Token)(i:Nat)(c:Int)(ab:l.length≤4611686018427387904):sW n c ⟨l,(i:Int)⟩=some (.aJ (m7 l i (iI l i c)) ()):=by
 unfold sW P5 P4 m7 Fa iI;simp only [au1,au2];by_cases h:i<l.length
 ·simp only [h,cC h,auT,auV,a6,au8]
 ·simp only [h,auU,auW,au9];by_cases h0:l.length=0
  ·simp only [h0,au8];rfl
  ·have:ava (((l.length:Nat):Int)-1)=((l.length-1:Nat):Int):=by rw [wr]<;>omega
   rw [this];simp only [fI,h0,auU,auW,cC (show l.length-1<l.length by omega),a6,au1,au9]
def Tm(n:Nat)(l:List Token)(i:Nat)(c:Int)(ab:l.length≤4611686018427387904):Jr n c ⟨l,(i:Int)⟩=some (.aJ (m7 l i (iI l i c)) ()):=vb n l i c ab
def k6(n:Nat)(l:List Token)(i:Nat)(w:au')(hi:i≤4611686018427387904):kV n w ⟨l,(i:Int)⟩=some (bD l i w,(((bif bD l i w then i+1 else i):Nat):Int)):=by
 unfold kV;rw [rS,ak,c8 hi];cases bD l i w<;>rfl
def n3(n:Nat)(l:List Token)(i:Nat)(w:au')(hi:i≤4611686018427387904)(ab:l.length≤4611686018427387904):
 iT n w ⟨l,(i:Int)⟩=some (bif bD l i w then .ret () ((i+1:Nat):Int)else .aJ (m7 l i (iI l i 5)) (i:Int)):=by
 unfold iT;rw [k6 n l i w hi,ak];cases bD l i w
 ·simp only [auY,auV,auW];rw [vb n l i 5 ab,ak];rfl
 ·rfl
def AV(n:Nat)(l:List Token)(i:Nat):xo n l (i:Int)=some (iI l i 5):=by
 unfold xo iI;simp only [Int.ofNat_le];by_cases h:i<l.length
 ·simp only [h,show¬ l.length≤i by omega,auU,auW,au8]
 ·simp only [h,show l.length≤i by omega,auT,auV,au9]
def hZ(l:List Token)(i:Nat):iI l i 5≠0:=by unfold iI;split<;>decide
def rT{n:Nat}(l:List Token)(i:Nat)(w:au')(hn:2≤n)(hi:i≤4611686018427387904):
 kD n l (i:Int) [w]=some (bif bD l i w then(((i+1:Nat):Int),0) else((i:Int),iI l i 5)):=by
 obtain⟨n',rfl⟩:∃n',n=n'+2:=⟨n-2,by omega⟩
 unfold kD;simp only [Ko,Sj,Si,auZ,au0];have Z:(decide ((0:Int)<((0+1:Nat):Int)))=true:=rfl;have aa:aI 0 (0+1)=true:=rfl;rw [Z,aa,show ava ((0:Int)+1)=1 from rfl,c8 hi]
 simp only [auV,a6,show(0:Int).toNat=0 from rfl,List.getD_cons_zero,o0,AV,ak]
 cases bD l i w<;>rfl
def anj{n:Nat}(l:List Token)(i:Nat)(v w:au')(hn:3≤n)(hi:i≤4611686018427380000):
 kD n l (i:Int) [v,w]=some (bif bD l i v then(bif bD l (i+1) w then(((i+1+1:Nat):Int),0) else(((i+1:Nat):Int),iI l (i+1) 5)) else((i:Int),iI l i 5)):=by
 obtain⟨n',rfl⟩:∃n',n=n'+3:=⟨n-3,by omega⟩
 unfold kD;simp only [Ko,Sj,Si,auZ,au0];have Z:(decide ((0:Int)<((0+1+1:Nat):Int)))=true:=rfl;have aa:aI 0 (0+1+1)=true:=rfl;have am:(decide ((1:Int)<((0+1+1:Nat):Int)))=true:=rfl;have aK:aI 1 (0+1+1)=true:=rfl;rw [Z,aa,show ava ((0:Int)+1)=1 from rfl,c8 (by omega)]
 rw [am,aK,show ava ((1:Int)+1)=2 from rfl,c8 (by omega)]
 simp only [auV,a6,show(0:Int).toNat=0 from rfl,show(1:Int).toNat=1 from rfl,List.getD_cons_zero,List.getD_cons_succ,o0,AV,ak]
 cases bD l i v
 ·rfl
 ·cases bD l (i+1) w<;>rfl
def gd:List (au'×Int×Int):=[([111,114],1,17),([97,110,100],2,16),([61,61],4,10),([33,61],4,11),([60],4,12),([60,61],4,13),([62],4,14),([62,61],4,15),([43,43],5,19),([43],6,4),([45],6,5),([42],7,6),([47],7,7),([37],7,8)]
def xF:Option (au'×Int×Int)→Int×Int
 |none=>(0,0)
 |some r=>r.2
def hD(l:List Token)(i:Nat):Int×Int:=xF (gd.find? λr=>bD l i r.1)
def acz(l:List Token)(i:Nat)(bR:Int):Int:=(xF (gd.find? λr=>decide (r.2.1=bR)&&bD l i r.1)).2
def Ld{l:List Token}{i:Nat}(h:i<l.length)(hk:(l.getD i default).Kind=2∨(l.getD i default).Kind=5)(w:au'):bD l i w=decide ((l.getD i default).Text=w):=by
 unfold bD;have:(decide ((l.getD i default).Kind=2)||decide ((l.getD i default).Kind=5))=true:=by rcases hk with hk|hk<;>rw [decide_eq_true hk]<;>simp
 rw [this,decide_eq_true h];rfl
def Fb{l:List Token}{i:Nat}(h:¬ (i<l.length∧((l.getD i default).Kind=2∨(l.getD i default).Kind=5)))(w:au'):bD l i w=false:=by
 unfold bD;by_cases Z:i<l.length
 ·by_cases aa:(l.getD i default).Kind=2
  ·exact absurd ⟨Z,Or.inl aa⟩ h
  ·by_cases am:(l.getD i default).Kind=5
   ·exact absurd ⟨Z,Or.inr am⟩ h
   ·rw [decide_eq_false aa,decide_eq_false am];simp
 ·rw [decide_eq_false Z];rfl
def Tn(n:Nat)(l:List Token)(i:Nat):I_ n ⟨l,(i:Int)⟩=some (hD l i):=by
 unfold I_ hD
 (simp only [au1])
 simp only [Int.ofNat_le,fk];by_cases h:i<l.length
 ·simp only [show¬ l.length≤i by omega,auU,auW,cC h,a6]
  by_cases hk:(l.getD i default).Kind=2∨(l.getD i default).Kind=5
  ·have ij:((!decide ((l.getD i default).Kind=2)) && !decide ((l.getD i default).Kind=5))=false:=by
    rcases hk with hk|hk<;>rw [decide_eq_true hk]<;>simp
   rw [ij];simp only [auW,Ld h hk];generalize (l.getD i default).Text=w
   by_cases hw:w∈gd.map (·.1)
   ·simp only [gd,List.map_cons,List.map_nil,List.mem_cons,List.not_mem_nil,or_false]at hw;rcases hw with rfl|rfl|rfl|rfl|rfl|rfl|rfl|rfl|rfl|rfl|rfl|rfl|rfl|rfl<;>rfl
   ·simp only [gd,List.map_cons,List.map_nil,List.mem_cons,List.not_mem_nil,or_false,not_or]at hw;simp only [hw,auU,auW,gd,List.find?_cons,List.find?_nil];rfl
  ·have ij:((!decide ((l.getD i default).Kind=2)) && !decide ((l.getD i default).Kind=5))=true:=by
    simp only [not_or]at hk;rw [decide_eq_false hk.1,decide_eq_false hk.2];rfl
   rw [ij];simp only [auV,Fb (λx=>hk x.2),gd,List.find?_cons,List.find?_nil]
   rfl
 ·simp only [show l.length≤i by omega,auT,auV,Fb (λx=>h x.1),gd,List.find?_cons,List.find?_nil]
  rfl
def ank(l:List Token)(i:Nat)(bR:Int)(h0:bR≠0):acz l i bR=if(hD l i).1=bR then(hD l i).2 else 0:=by
 unfold acz hD;by_cases h:i<l.length∧((l.getD i default).Kind=2∨(l.getD i default).Kind=5)
 ·simp only [Ld h.1 h.2];generalize (l.getD i default).Text=w
  by_cases hw:w∈gd.map (·.1)
  ·simp only [gd,List.map_cons,List.map_nil,List.mem_cons,List.not_mem_nil,or_false]at hw;by_cases ab:bR=1∨bR=2∨bR=4∨bR=5∨bR=6∨bR=7
   ·rcases ab with rfl|rfl|rfl|rfl|rfl|rfl<;>rcases hw with rfl|rfl|rfl|rfl|rfl|rfl|rfl|rfl|rfl|rfl|rfl|rfl|rfl|rfl<;>rfl
   ·simp only [not_or]at ab;have e1:¬ (1:Int)=bR:=λe=>ab.1 e.symm
    have e2:¬ (2:Int)=bR:=λe=>ab.2.1 e.symm
    have hq:¬ (4:Int)=bR:=λe=>ab.2.2.1 e.symm
    have oB:¬ (5:Int)=bR:=λe=>ab.2.2.2.1 e.symm
    have rU:¬ (6:Int)=bR:=λe=>ab.2.2.2.2.1 e.symm
    have qC:¬ (7:Int)=bR:=λe=>ab.2.2.2.2.2 e.symm
    have cY:∀w:au',gd.find? (λr=>decide (r.2.1=bR)&&decide (w=r.1))=none:=by
     intro w;simp only [gd,List.find?_cons,List.find?_nil,e1,e2,hq,oB,rU,qC,auU,Bool.false_and]
    rw [cY];rcases hw with rfl|rfl|rfl|rfl|rfl|rfl|rfl|rfl|rfl|rfl|rfl|rfl|rfl|rfl
    ·exact(if_neg e1).symm
    ·exact(if_neg e2).symm
    ·exact(if_neg hq).symm
    ·exact(if_neg hq).symm
    ·exact(if_neg hq).symm
    ·exact(if_neg hq).symm
    ·exact(if_neg hq).symm
    ·exact(if_neg hq).symm
    ·exact(if_neg oB).symm
    ·exact(if_neg rU).symm
    ·exact(if_neg rU).symm
    ·exact(if_neg qC).symm
    ·exact(if_neg qC).symm
    ·exact(if_neg qC).symm
  ·simp only [gd,List.map_cons,List.map_nil,List.mem_cons,List.not_mem_nil,or_false,not_or]at hw;simp only [hw,auU,gd,List.find?_cons,List.find?_nil,Bool.and_false,xF];rw [if_neg (λe=>h0 e.symm)]
 ·simp only [Fb h,gd,List.find?_cons,List.find?_nil,Bool.and_false,xF];rw [if_neg (λe=>h0 e.symm)]
open Go Go.Ab Go.Proofs
def getD_map{α β:Type}[Inhabited α][Inhabited β](f:α→β):∀(l:List α) (i:Nat),i<l.length→(l.map f).getD i default=f (l.getD i default)
 |[],i,h=>by simp at h
 |x::l,0,h=>rfl
 |x::l,i+1,h=>getD_map f l i (by simpa using h)
def anl(n:Nat)(l:List Token)(at_ bR:Int)(aj:Int→avd)(v6:Int):aam n l at_ bR aj v6 =
 bif (decide (v6<((gd.length:Nat):Int))) then(
  av (aI v6 gd.length)<|
  av (!(decide (((gd.map (·.2.1)).getD (v6).toNat default)=bR))||aI v6 gd.length)<|
  Option.bind (bif (decide (((gd.map (·.2.1)).getD (v6).toNat default)=bR))then kZ n l at_ ((gd.map (·.1)).getD (v6).toNat default)else some default) λcd=>
  bif (bif (decide (((gd.map (·.2.1)).getD (v6).toNat default)=bR))then cd else false) then(
   av (aI v6 gd.length)<|
   some ((gd.map (·.2.2)).getD (v6).toNat default))
  else(
   aj (ava (v6+1))))
 else aal n:=rfl
def anm(n:Nat)(l:List Token)(a:Nat)(bR:Int):∀m i,gd.length<i+m→i≤gd.length→Kp n l (a:Int) bR m (i:Int)=some (xF ((gd.drop i).find? λr=>decide (r.2.1=bR)&&bD l a r.1)).2:=by
 have hlen:gd.length=14:=rfl;intro m;induction m with
 |zero=>intro i h aa;omega
 |succ m aM=>
  intro i hm hi;rw [Kp,anl];by_cases h:i<gd.length
  ·(rw [eZ gd i default h,c8 (by omega),aM (i+1) (by omega) (by omega)];simp only [au1];rw [getD_map _ _ _ h,getD_map _ _ _ h,getD_map _ _ _ h])
   generalize gd.getD i default=t
   simp only [h,cC h,au2,auT,auV,a6,au7,o0,fk,List.find?_cons];cases decide (t.2.1=bR)
   ·rfl
   ·simp only [auV,ak,Bool.true_and];cases bD l a t.1<;>rfl
  ·rw [gE gd i h];simp only [h,au2,auU,auW];rfl
def To{n:Nat}(l:List Token)(a:Nat)(bR:Int)(hn:14<n)(h0:bR≠0):aan n l (a:Int) bR=some (if(hD l a).1=bR then(hD l a).2 else 0):=by
 rw [←ank l a bR h0];have hlen:gd.length=14:=rfl;exact anm n l a bR n 0 (by omega) (by omega)
def iu:List (au'×Int):=[([116,101,120,116],20),([108,101,110],21),([103,101,116,105,110,116],22),([103,101,116,115,116,114],23),([104,97,115],24),([110,111,119],25),([114,97,110,100,111,109],26),([110,111,100,101],27)]
def call2:Option (au'×Int)→Int
 |none=>0
 |some r=>r.2
def lW(l:List Token)(i:Nat):Int:=call2 (iu.find? λr=>bD l i r.1)
def ann(n:Nat)(l:List Token)(at_:Int)(aj:Int→avd)(v5:Int):aap n l at_ aj v5 =
 bif (decide (v5<((iu.length:Nat):Int))) then(
  av (aI v5 iu.length)<|
  Option.bind (kZ n l at_ ((iu.map (·.1)).getD (v5).toNat default)) λbO=>
  bif bO then(
   av (aI v5 iu.length)<|
   some ((iu.map (·.2)).getD (v5).toNat default))
  else(
   aj (ava (v5+1))))
 else aao n:=rfl
def ano(n:Nat)(l:List Token)(a:Nat):∀m i,iu.length<i+m→i≤iu.length→Kq n l (a:Int) m (i:Int)=some (call2 ((iu.drop i).find? λr=>bD l a r.1)):=by
 have hlen:iu.length=8:=rfl;intro m;induction m with
 |zero=>intro i h aa;omega
 |succ m aM=>
  intro i hm hi;rw [Kq,ann];by_cases h:i<iu.length
  ·(rw [eZ iu i default h,c8 (by omega),aM (i+1) (by omega) (by omega)];simp only [au1];rw [getD_map _ _ _ h,getD_map _ _ _ h])
   generalize iu.getD i default=t
   simp only [h,cC h,au2,auT,auV,a6,o0,ak,List.find?_cons];cases bD l a t.1<;>rfl
  ·rw [gE iu i h];simp only [h,au2,auU,auW];rfl
def anp{n:Nat}(l:List Token)(a:Nat)(hn:8<n):aaq n l (a:Int)=some (lW l a):=by
 have hlen:iu.length=8:=rfl;exact ano n l a n 0 (by omega) (by omega)
def kF(l:List Token):Prop:=∀t,t∈l→t.Kind=5→t.Text∈marks
def Tp(n:Nat)(l:List Token)(i:Nat)(hg:kF l):Jb n ⟨l,(i:Int)⟩=some (lW l i):=by
 unfold Jb lW
 (simp only [au1])
 simp only [Int.ofNat_le,eG];by_cases h:i<l.length
 ·simp only [show¬ l.length≤i by omega,auU,Bool.false_or,cC h,a6]
  by_cases hk:(l.getD i default).Kind=2
  ·simp only [hk,auT,auX,auW,Ld h (Or.inl hk)];generalize (l.getD i default).Text=w
   by_cases hw:w∈iu.map (·.1)
   ·simp only [iu,List.map_cons,List.map_nil,List.mem_cons,List.not_mem_nil,or_false]at hw;rcases hw with rfl|rfl|rfl|rfl|rfl|rfl|rfl|rfl<;>rfl
   ·simp only [iu,List.map_cons,List.map_nil,List.mem_cons,List.not_mem_nil,or_false,not_or]at hw;simp only [hw,auU,auW,iu,List.find?_cons,List.find?_nil];rfl
  ·simp only [hk,auU,auY,auV];by_cases bd:(l.getD i default).Kind=5
   ·have hm:(l.getD i default).Text∈marks:=hg _ (by simp [List.getD,h]) bd
    simp only [Ld h (Or.inr bd)];generalize (l.getD i default).Text=w at hm
    have:∀w,w∈marks→iu.find? (λr=>decide (w=r.1))=none:=by decide
    rw [this w hm];rfl
   ·have:∀w,bD l i w=false:=Fb (λx=>by rcases x.2 with e|e;exact hk e;exact bd e)
    simp only [this,iu,List.find?_cons,List.find?_nil];rfl
 ·simp only [show l.length≤i by omega,auT,Bool.true_or,a6,auV,Fb (λx=>h x.1),iu,List.find?_cons,List.find?_nil]
  rfl
def anq{l:List Token}{i:Nat}(h:lW l i≠0):i<l.length∧20≤lW l i∧lW l i≤27:=by
 unfold lW at h ⊢;cases ao:iu.find? (λr=>bD l i r.1) with
 |none=>rw [ao]at h;exact absurd rfl h
 |some r=>
  have hx:=List.find?_some ao;refine⟨gS (w:=r.1) hx,?_⟩
  have:∀r,r∈iu→decide (20≤r.2∧r.2≤27)=true:=by decide
  exact of_decide_eq_true (this r (List.mem_of_find?_eq_some ao))
def anr{l:List Token}{i:Nat}(h:(hD l i).1≠0):i<l.length∧(hD l i).2≠0:=by
 unfold hD at h ⊢;cases ao:gd.find? (λr=>bD l i r.1) with
 |none=>rw [ao]at h;exact absurd rfl h
 |some r=>
  have hx:=List.find?_some ao;refine⟨gS (w:=r.1) hx,?_⟩
  have:∀r,r∈gd→decide (r.2.2≠0)=true:=by decide
  exact of_decide_eq_true (this r (List.mem_of_find?_eq_some ao))
def acA(l:List Token)(i:Nat):(hD l i).1≠3∧(hD l i).1≠8:=by
 unfold hD;cases ao:gd.find? (λr=>bD l i r.1) with
 |none=>exact⟨by decide,by decide⟩
 |some r=>
  have:∀r,r∈gd→decide (r.2.1≠3∧r.2.1≠8)=true:=by decide
  exact of_decide_eq_true (this r (List.mem_of_find?_eq_some ao))
def ans(n:Nat)(l:List Token)(i:Nat)(bR:Int):Sk n l (i:Int) bR=some (if bR=3∧bD l i [110,111,116]=true then 18 else if bR=8∧bD l i [45]=true then 9 else 0):=by
 unfold Sk;by_cases am:bR=3
 ·subst am;simp only [auT,auV,o0,ak];cases bD l i [110,111,116]<;>simp [ak]
 ·by_cases d':bR=8
  ·subst d';simp only [show¬ (8:Int)=3 by omega,auU,auT,auV,auW,o0,ak]
   cases bD l i [45]<;>simp
  ·simp [am,d']
def Le(n:Nat)(l:List Token)(i d:Nat)(ab:l.length≤4611686018427387904)(hd:d≤24):sY n (d:Int) ⟨l,(i:Int)⟩=some (if d=24 then .aJ (m7 l i (iI l i 2)) ()else .ret ((d+1:Nat):Int) ()):=by
 unfold sY Ja;simp only [rQ];by_cases h:d=24
 ·simp only [show 24≤d by omega,auT,auV,vb n l i 2 ab,ak,h,au8];rfl
 ·simp only [show¬ 24≤d by omega,auU,auW,h,au9]
  rw [c8 (by omega)]
open Go Go.Ab Go.Proofs
def eL(l:List Token)(i:Nat):Nat:=gZ (l.take i)
def h_(l:List Token)(i:Nat)(h:i<l.length):eL l (i+1)=eL l i+60+(l.getD i default).Text.length:=by
 unfold eL;rw [List.take_add,Lc,eZ l i default h,List.take_succ_cons,List.take_zero];simp only [gZ];omega
def vc(l:List Token)(i j:Nat)(h:i≤j):eL l i≤eL l j:=by
 obtain⟨k,rfl⟩:=Nat.exists_eq_add_of_le h;unfold eL;rw [List.take_add,Lc];omega
def hN{α:Type}(wt:α→Nat)(l:List Token)(i:Nat)(p:Option (aB α Int))(q:Option (α×Int×Int)):Prop:=
 (∃a k,p=some (.ret a ((k:Nat):Int))∧q=some (a,((k:Nat):Int),0)∧i<k∧k≤l.length∧wt a+eL l i≤eL l k)∨
 (∃k c z a,p=some (.aJ (m7 l k c) z)∧q=some (a,((k:Nat):Int),c)∧c≠0∧k≤l.length)
def Lf(n:Nat):fG (n+1)=xa n (fG n) (jz n) (iU n) (iE n):=rfl
def ant(n:Nat):jz (n+1)=zZ n (fG n) (jz n) (iU n) (iE n):=rfl
def acB(n:Nat):iU (n+1)=xb n (fG n) (jz n) (iU n) (iE n):=rfl
def Tq(n:Nat):iE (n+1)=uO n (fG n) (jz n) (iU n) (iE n):=rfl
def acC(n:Nat):pI (n+1)=Kr n (pI n) (uX n) (xp n):=rfl
def anu(n:Nat):uX (n+1)=Sl n (pI n) (uX n) (xp n):=rfl
def acD(n:Nat):xp (n+1)=Kt n (pI n) (uX n) (xp n):=rfl
section
variable {l:List Token}
def AW(l:List Token)(du:Nat):Prop:=∀(i bR d n1 n2:Nat),i≤l.length→1≤bR→bR≤8→d≤24→20*(l.length-i)+2*(9-bR)+2≤du→2*du+100≤n1→2*du+100≤n2→
 hN cM l i (fG n1 (bR:Int) (d:Int) ⟨l,(i:Int)⟩) (pI n2 l (i:Int) (bR:Int) (d:Int))
def Tr(l:List Token)(du:Nat):Prop:=∀(i d n1 n2:Nat),i≤l.length→d≤24→20*(l.length-i)+1≤du→2*du+100≤n1→2*du+100≤n2→
 hN cM l i (iU n1 (d:Int) ⟨l,(i:Int)⟩) (uX n2 l (i:Int) (d:Int))
def Lg(l:List Token)(du:Nat):Prop:=∀(i d n1 n2:Nat),i≤l.length→d≤24→20*(l.length-i)≤du→2*du+100≤n1→2*du+100≤n2→
 hN cM l i (iE n1 (d:Int) ⟨l,(i:Int)⟩) (xp n2 l (i:Int) (d:Int))
theorem anv{du:Nat}(ab:l.length≤1000000000)(b2:AW l du):Lg l (du+1):=by
 intro i d n1 n2 hi hd hm Z aa;obtain⟨n1,rfl⟩:∃k,n1=k+1:=⟨n1-1,by omega⟩
 obtain⟨n2,rfl⟩:∃k,n2=k+1:=⟨n2-1,by omega⟩
 rw [Tq,acD];unfold uO Kt;rw [n3 n1 l i _ (by omega) (by omega),rT l i _ (by omega) (by omega)]
 simp only [ak];cases h:bD l i [40]
 ·simp only [auW,aB.on,hZ l i,auU,auY,auV];exact Or.inr ⟨i,_,_,_,rfl,rfl,hZ l i,hi⟩
 ·have bw:=gS h;have ji:=h_ l i bw;simp only [auV,aB.on,auT,auX,auW];rcases b2 (i+1) 1 d n1 n2 (by omega) (by omega) (by omega) hd (by omega) (by omega) (by omega) with⟨a,k,e1,e2,ki,fq,jG⟩|⟨k,c,z,a,e1,e2,hc,hk⟩
  ·rw [show((1:Nat):Int)=1 from rfl]at e1 e2
   rw [e1,e2];simp only [ak,aB.on,auT,auX,auW];rw [n3 n1 l k _ (by omega) (by omega),rT l k _ (by omega) (by omega)]
   simp only [ak];cases cG:bD l k [41]
   ·simp only [auW,aB.on];exact Or.inr ⟨k,_,_,_,rfl,rfl,hZ l k,fq⟩
   ·have Gl:=gS cG;have aud:=h_ l k Gl;simp only [auV,aB.on];exact Or.inl ⟨a,k+1,rfl,rfl,by omega,by omega,by omega⟩
  ·rw [show((1:Nat):Int)=1 from rfl]at e1 e2
   rw [e1,e2];simp only [ak,aB.on,hc,auU,auY,auV];exact Or.inr ⟨k,_,_,_,rfl,rfl,hc,hk⟩
theorem Lh{i:Nat}(h:i≤1000000000):ava (((i+1:Nat):Int)-1)=(i:Int):=by rw [wr]<;>omega
theorem anw{du:Nat}(ab:l.length≤1000000000)(hg:kF l)(me:Lg l du)(i d n1 n2:Nat)(hi:i≤l.length)(hd:d≤24)(hm:20*(l.length-i)≤du)(Z:2*du+100≤n1)(aa:2*du+100≤n2):
 hN cM l i (s3 n1 (fG n1) (jz n1) (iU n1) (iE n1) (d:Int) ⟨l,(i:Int)⟩ (i:Int))
  (Ks n2 (pI n2) (uX n2) (xp n2) l (i:Int) (d:Int)):=by
 unfold s3 Ks;simp only [Tp n1 l i hg,anp l i (show 8<n2 by omega),ak,rS,o0,vb n1 l i 5 (by omega),AV]
 by_cases h0:lW l i=0
 ·simp only [h0,auT,auV,show¬ (25:Int)≤0 by omega,auU,auW,ak]
  cases h:bD l i [40]
  ·simp only [auY,auV];exact Or.inr ⟨i,_,_,_,rfl,rfl,hZ l i,hi⟩
  ·have bw:=gS h;simp only [auX,auW];unfold DH;rw [Le n1 l i d (by omega) hd]
   simp only [fI];by_cases vd:d=24
   ·simp only [vd,au8,auT,auV,ak,aB.on];rw [show iI l i 2=2 from if_pos bw]
    exact Or.inr ⟨i,2,_,_,rfl,rfl,by decide,hi⟩
   ·simp only [vd,au9,auU,auW,ak,aB.on];rw [c8 (by omega)]
    rcases me i (d+1) n1 n2 hi (by omega) hm Z aa with⟨a,k,e1,e2,ki,fq,jG⟩|⟨k,c,z,a,e1,e2,hc,hk⟩
    ·rw [e1,e2];exact Or.inl ⟨a,k,rfl,rfl,ki,fq,jG⟩
    ·rw [e1,e2];exact Or.inr ⟨k,c,_,_,rfl,rfl,hc,hk⟩
 ·obtain⟨bw,jN,jt⟩:=anq h0;have ji:=h_ l i bw;have AX:=vc l (i+1) (i+1+1) (by omega)
  simp only [h0,auU,auW];generalize lW l i=op at h0 jN jt
  by_cases xG:25≤op
  ·have xH:(bif decide (op=25)then mE n1 (fG n1) (jz n1) (iU n1) (iE n1) (d:Int) op ⟨l,(i:Int)⟩ (i:Int) (decide (op=25))else bif decide (op=26)then mE n1 (fG n1) (jz n1) (iU n1) (iE n1) (d:Int) op ⟨l,(i:Int)⟩ (i:Int) (decide (op=26))else mE n1 (fG n1) (jz n1) (iU n1) (iE n1) (d:Int) op ⟨l,(i:Int)⟩ (i:Int) (decide (op=27)))=mE n1 (fG n1) (jz n1) (iU n1) (iE n1) (d:Int) op ⟨l,(i:Int)⟩ (i:Int) true:=by
    by_cases anx:op=25
    ·simp only [anx,auT,auV]
    ·by_cases anz:op=26
     ·simp only [anz,auT,auV,show¬ (26:Int)=25 by omega,auU,auW]
     ·simp only [show op=27 by omega,auT,show¬ (27:Int)=25 by omega,show¬ (27:Int)=26 by omega,auU,auW]
   rw [xH];unfold mE;simp only [xG,auT,auV];rw [c8 (by omega),n3 n1 l (i+1) _ (by omega) (by omega),anj l (i+1) _ _ (by omega) (by omega)]
   simp only [ak];cases h:bD l (i+1) [40]
   ·simp only [auW,aB.on];exact Or.inr ⟨i+1,_,_,_,rfl,rfl,hZ l _,by omega⟩
   ·have Gl:=gS h;simp only [auV,aB.on];rw [n3 n1 l (i+1+1) _ (by omega) (by omega)]
    simp only [ak];cases cG:bD l (i+1+1) [41]
    ·simp only [auW,aB.on];exact Or.inr ⟨i+1+1,_,_,_,rfl,rfl,hZ l _,by omega⟩
    ·have aue:=gS cG;have Ts:=vc l (i+1+1) (i+1+1+1) (by omega)
     simp only [auV,aB.on];refine Or.inl ⟨⟨op,0,[],[]⟩,i+1+1+1,rfl,rfl,by omega,by omega,?_⟩
     simp only [cM,jE,au0];omega
  ·have xH:(bif decide (op=25)then mE n1 (fG n1) (jz n1) (iU n1) (iE n1) (d:Int) op ⟨l,(i:Int)⟩ (i:Int) (decide (op=25))else bif decide (op=26)then mE n1 (fG n1) (jz n1) (iU n1) (iE n1) (d:Int) op ⟨l,(i:Int)⟩ (i:Int) (decide (op=26))else mE n1 (fG n1) (jz n1) (iU n1) (iE n1) (d:Int) op ⟨l,(i:Int)⟩ (i:Int) (decide (op=27)))=mE n1 (fG n1) (jz n1) (iU n1) (iE n1) (d:Int) op ⟨l,(i:Int)⟩ (i:Int) false:=by
    simp only [show¬ op=25 by omega,show¬ op=26 by omega,show¬ op=27 by omega,auU,auW]
   rw [xH];unfold mE DF;simp only [xG,auU,auW,ak];rw [Le n1 l i d (by omega) hd]
   simp only [fI];by_cases vd:d=24
   ·simp only [vd,au8,auT,auV,ak,aB.on];rw [show iI l i 2=2 from if_pos bw]
    exact Or.inr ⟨i,2,_,_,rfl,rfl,by decide,hi⟩
   ·simp only [vd,au9,auU,auW,ak,aB.on];rw [c8 (by omega),c8 (by omega)]
    rcases me (i+1) (d+1) n1 n2 (by omega) (by omega) (by omega) Z aa with⟨a,k,e1,e2,ki,fq,jG⟩|⟨k,c,z,a,e1,e2,hc,hk⟩
    ·rw [e1,e2];refine Or.inl ⟨⟨op,0,[],[a]⟩,k,rfl,rfl,by omega,fq,?_⟩
     simp only [cM,jE,au0];omega
    ·rw [e1,e2];exact Or.inr ⟨k,c,_,_,rfl,rfl,hc,hk⟩
theorem anA{du:Nat}(ab:l.length≤1000000000)(hg:kF l)(me:Lg l du):Tr l (du+1):=by
 intro i d n1 n2 hi hd hm Z aa;obtain⟨n1,rfl⟩:∃k,n1=k+1:=⟨n1-1,by omega⟩
 obtain⟨n2,rfl⟩:∃k,n2=k+1:=⟨n2-1,by omega⟩
 have hj:=anw ab hg me i d n1 n2 hi hd (by omega) (by omega) (by omega)
 rw [acB,anu];unfold xb Sl
 (rw [c8 (by omega)];simp only [au1])
 simp only [au2];by_cases h:i<l.length
 ·have ji:=h_ l i h;rw [Lh (by omega)]
  generalize l.getD i default=t at ji
  simp only [h,auT,auV,cC h,a6];by_cases am:t.Kind=3
  ·simp only [am,auT,auV];refine Or.inl ⟨⟨1,t.N,[],[]⟩,i+1,rfl,rfl,by omega,by omega,?_⟩
   simp only [cM,jE,au0];omega
  ·by_cases aK:t.Kind=4
   ·simp only [aK,show¬ (4:Int)=3 by omega,auT,auU,auV,auW]
    refine Or.inl ⟨⟨2,0,t.Text,[]⟩,i+1,rfl,rfl,by omega,by omega,?_⟩
    simp only [cM,jE];omega
   ·by_cases bd:t.Kind=1
    ·simp only [bd,show¬ (1:Int)=3 by omega,show¬ (1:Int)=4 by omega,auT,auU,auV,auW]
     refine Or.inl ⟨⟨3,0,t.Text,[]⟩,i+1,rfl,rfl,by omega,by omega,?_⟩
     simp only [cM,jE];omega
    ·simp only [am,aK,bd,auU,auW];exact hj
 ·simp only [h,auU,auW];exact hj
end
open Go Go.Ab Go.Proofs
def gn(e:Expr):(⟨e.Op,e.N,e.S,e.ax⟩:Expr)=e:=by cases e;rfl
section
variable {l:List Token}
theorem Li{i:Nat}{p:Option (aB Expr Int)}{q:Option (Expr×Int×Int)}(h:hN cM l i p q):
 hN cM l i (Option.bind p λr=>aB.on r (λa b=>some (.ret a b)) (λx b=>some (.aJ x b))) q:=by
 rcases h with⟨a,k,e1,e2,h⟩|⟨k,c,z,a,e1,e2,h⟩
 ·rw [e1];exact Or.inl ⟨a,k,rfl,e2,h⟩
 ·rw [e1];exact Or.inr ⟨k,c,z,a,rfl,e2,h⟩
theorem anB{du:Nat}(ab:l.length≤1000000000)(b2:AW l du)(i bR d n1 n2:Nat)(hz:1≤bR)(Lj:bR<8)(hd:d≤24)(hm:20*(l.length-i)≤du+20)(Z:2*du+100≤n1)(aa:2*du+100≤n2):
 ∀(m1 m2 k:Nat) (e:Expr),l.length-k<m1→l.length-k+1<m2→i<k→k≤l.length→cM e+eL l i≤eL l k→
 hN cM l i (uN n1 (fG n1) (jz n1) (iU n1) (iE n1) (bR:Int) (d:Int) ⟨l,(i:Int)⟩ m1 (k:Int) e.Op e.N e.S e.ax)
  (rL n2 (pI n2) (uX n2) (xp n2) l (bR:Int) (d:Int) m2 e.Op e.N e.S e.ax (k:Int) 0):=by
 intro m1;induction m1 with
 |zero=>intro m2 k e h;omega
 |succ m1 aM=>
  intro m2 k e acE E_ rn hk he;obtain⟨m2,rfl⟩:∃j,m2=j+1:=⟨m2-1,by omega⟩
  simp only [uN,DE,rL,uW,Ay];rw [Tn,To l k (bR:Int) (by omega) (by omega),gn]
  simp only [ak,auT,auV];by_cases au:(hD l k).1=(bR:Int)
  ·obtain⟨bw,f7⟩:=anr (l:=l) (i:=k) (by rw [au];omega)
   have ji:=h_ l k bw;rw [if_pos au];simp only [au,auT,auX,auW,f7,auU];generalize (hD l k).2=op at f7
   rw [c8 (by omega),c8 (by omega)]
   rcases b2 (k+1) (bR+1) d n1 n2 (by omega) (by omega) (by omega) hd (by omega) (by omega) (by omega) with⟨a,k',e1,e2,ki,fq,jG⟩|⟨k',c,z,a,e1,e2,hc,lm⟩
   ·rw [e1,e2];simp only [ak,aB.on,fI,auT,auV,fk,Bool.true_and]
    have Lk:cM ⟨op,0,[],[e,a]⟩+eL l i≤eL l k':=by
     simp only [cM,jE,au0];omega
    by_cases aK:bR=4
    ·simp only [aK,auT,auV];exact Or.inl ⟨⟨op,0,[],[e,a]⟩,k',rfl,rfl,by omega,fq,Lk⟩
    ·simp only [aK,auU,auW];exact aM m2 k' ⟨op,0,[],[e,a]⟩ (by omega) (by omega) (by omega) fq Lk
   ·rw [e1,e2];obtain⟨m2,rfl⟩:∃j,m2=j+1:=⟨m2-1,by omega⟩
    simp only [ak,aB.on,hc,auU,auW,rL,uW,Ay];exact Or.inr ⟨k',c,_,_,rfl,rfl,hc,lm⟩
  ·rw [if_neg au];simp only [au,auU,auY,auV,auT];exact Or.inl ⟨e,k,rfl,rfl,rn,hk,he⟩
theorem acF{du:Nat}(ab:l.length≤1000000000)(b2:AW l du)(i bR d n1 n2:Nat)(op:Int)(h:i<l.length)(hz:1≤bR)(Lj:bR≤8)(hd:d≤24)(hm:20*(l.length-i)+2*(9-bR)+2≤du+1)(Z:2*du+101≤n1)(aa:2*du+100≤n2):
 hN cM l i (jz n1 op (bR:Int) (d:Int) ⟨l,(i:Int)⟩)
  (bif (decide (d=24))then some ((⟨0,0,[],[]⟩:Expr),(i:Int),2)
   else Option.bind (pI n2 l (ava ((i:Int)+1)) (bR:Int) (ava ((d:Int)+1))) λaT=>some ((⟨op,0,[],[aT.1]⟩:Expr),aT.2.1,aT.2.2)):=by
 obtain⟨n1,rfl⟩:∃k,n1=k+1:=⟨n1-1,by omega⟩
 have ji:=h_ l i h;rw [ant];unfold zZ;rw [Le n1 l i d (by omega) hd]
 simp only [fI];by_cases vd:d=24
 ·simp only [vd,au8,auT,auV,ak,aB.on];rw [show iI l i 2=2 from if_pos h]
  exact Or.inr ⟨i,2,_,_,rfl,rfl,by decide,by omega⟩
 ·simp only [vd,au9,auU,auW,ak,aB.on];rw [c8 (by omega),c8 (by omega)]
  rcases b2 (i+1) bR (d+1) n1 n2 (by omega) hz Lj (by omega) (by omega) (by omega) aa with⟨a,k,e1,e2,ki,fq,jG⟩|⟨k,c,z,a,e1,e2,hc,hk⟩
  ·rw [e1,e2];refine Or.inl ⟨⟨op,0,[],[a]⟩,k,rfl,rfl,by omega,fq,?_⟩
   simp only [cM,jE,au0];omega
  ·rw [e1,e2];exact Or.inr ⟨k,c,_,_,rfl,rfl,hc,hk⟩
theorem anC{du:Nat}(ab:l.length≤1000000000)(b2:AW l du)(hJ:Tr l du):AW l (du+1):=by
 intro i bR d n1 n2 hi hz Lj hd hm Z aa;obtain⟨n1,rfl⟩:∃k,n1=k+1:=⟨n1-1,by omega⟩
 obtain⟨n2,rfl⟩:∃k,n2=k+1:=⟨n2-1,by omega⟩
 rw [Lf,acC];unfold xa Kr;simp only [fI,rS,ans,ak,show¬ bR=9 by omega,auU,auW]
 by_cases am:bR=3
 ·subst am;simp only [auT,auV,show((3:Nat):Int)=3 from rfl,true_and,show¬ (3:Int)=8 by omega,show¬ 3=8 by omega,false_and,au9]
  cases h:bD l i [110,111,116]
  ·simp only [auW,Bool.false_eq_true,au9,auT,auX];have hn:=b2 i 4 d n1 n2 hi (by omega) (by omega) hd (by omega) (by omega) (by omega)
   rw [show ava ((3:Int)+1)=((4:Nat):Int)from rfl]
   refine Li ?_;rcases hn with⟨a,k,e1,e2,ki,fq,jG⟩|⟨k,c,z,a,e1,e2,hc,hk⟩
   ·refine Or.inl ⟨a,k,e1,?_,ki,fq,jG⟩;rw [e2];obtain⟨Fc,tr⟩:∃j,n2=j+1:=⟨n2-1,by omega⟩
    simp only [ak]
    conv=>lhs;arg 8;rw [tr]
    simp only [rL,uW,auT,auV];rw [To l k 3 (by omega) (by decide),if_neg (acA l k).1]
    simp only [ak,auT,auV,gn]
   ·refine Or.inr ⟨k,c,z,⟨0,0,[],[]⟩,e1,?_,hc,hk⟩;rw [e2];obtain⟨Fc,tr⟩:∃j,n2=j+1:=⟨n2-1,by omega⟩
    simp only [ak]
    conv=>lhs;arg 8;rw [tr]
    simp only [rL,uW,Ay,hc,auU,auW]
  ·simp only [auV,au8,show¬ (18:Int)=0 by omega,auU,auY]
   exact Li (acF ab b2 i 3 d n1 n2 18 (gS h) (by omega) (by omega) hd (by omega) (by omega) (by omega))
 ·by_cases d':bR=8
  ·subst d';simp only [auT,auV,auU,auW,show¬ 8=3 by omega,show((8:Nat):Int)=8 from rfl,true_and,show¬ (8:Int)=3 by omega,false_and,au9]
   cases h:bD l i [45]
   ·simp only [auW,Bool.false_eq_true,au9,auT,auX];obtain⟨Fc,tr⟩:∃j,n2=j+1:=⟨n2-1,by omega⟩
    have hn:=hJ i d n1 Fc hi hd (by omega) (by omega) (by omega)
    rw [show ava ((8:Int)+1)=(9:Int)from rfl]
    refine Li ?_
    have anD:pI n2 l (i:Int) 9 (d:Int)=Option.bind (uX Fc l (i:Int) (d:Int)) λr2=>some (r2.1,r2.2.1,r2.2.2):=by
     rw [tr,acC];unfold Kr;simp only [auT,auV]
    rw [anD];rcases hn with⟨a,k,e1,e2,ki,fq,jG⟩|⟨k,c,z,a,e1,e2,hc,hk⟩
    ·refine Or.inl ⟨a,k,e1,?_,ki,fq,jG⟩;rw [e2];simp only [ak]
     conv=>lhs;arg 8;rw [tr]
     simp only [rL,uW,auT,auV];rw [To l k 8 (by omega) (by decide),if_neg (acA l k).2]
     simp only [ak,auT,auV,gn]
    ·refine Or.inr ⟨k,c,z,⟨0,0,[],[]⟩,e1,?_,hc,hk⟩;rw [e2];simp only [ak]
     conv=>lhs;arg 8;rw [tr]
     simp only [rL,uW,Ay,hc,auU,auW]
   ·simp only [auV,au8,show¬ (9:Int)=0 by omega,auU,auY]
    exact Li (acF ab b2 i 8 d n1 n2 9 (gS h) (by omega) (by omega) hd (by omega) (by omega) (by omega))
  ·have hn:=b2 i (bR+1) d n1 n2 hi (by omega) (by omega) hd (by omega) (by omega) (by omega)
   simp only [am,d',auU,auW,fI,false_and,au9,auT,auX];rw [c8 (by omega)]
   rcases hn with⟨a,k,e1,e2,ki,fq,jG⟩|⟨k,c,z,a,e1,e2,hc,hk⟩
   ·rw [e1,e2];simp only [ak,aB.on];exact anB ab b2 i bR d n1 n2 hz (by omega) hd (by omega) (by omega) (by omega) n1 n2 k a (by omega) (by omega) ki fq jG
   ·rw [e1,e2];obtain⟨Fc,tr⟩:∃j,n2=j+1:=⟨n2-1,by omega⟩
    simp only [ak,aB.on];refine Or.inr ⟨k,c,_,⟨0,0,[],[]⟩,rfl,?_,hc,hk⟩
    conv=>lhs;arg 8;rw [tr]
    simp only [rL,uW,Ay,hc,auU,auW]
theorem Fd(ab:l.length≤1000000000)(hg:kF l):∀du,AW l du∧Tr l du∧Lg l du
 | 0=>⟨λi bR d n1 n2 hi Z aa hd hm=>by omega,λi d n1 n2 hi hd hm=>by omega,λi d n1 n2 hi hd hm Z aa=>by
  obtain⟨n1,rfl⟩:∃k,n1=k+1:=⟨n1-1,by omega⟩
  obtain⟨n2,rfl⟩:∃k,n2=k+1:=⟨n2-1,by omega⟩
  rw [Tq,acD];unfold uO Kt;rw [n3 n1 l i _ (by omega) (by omega),rT l i _ (by omega) (by omega)]
  have h:bD l i [40]=false:=by
   cases ao:bD l i [40]
   ·rfl
   ·have:=gS ao;omega
  simp only [ak,h,auW,aB.on,hZ l i,auU,auY,auV];exact Or.inr ⟨i,_,_,_,rfl,rfl,hZ l i,hi⟩⟩
 |du+1=>⟨anC ab (Fd ab hg du).1 (Fd ab hg du).2.1,anA ab hg (Fd ab hg du).2.2,anv ab (Fd ab hg du).1⟩
end
open Go Go.Ab Go.Proofs
def acG(n:Nat)(l:List Token)(k:Nat)(ab:l.length≤1000000000)(hk:k≤l.length):Sh n l (k:Int)=some (Fa l k):=by
 unfold Sh Fa;by_cases h0:l.length=0
 ·simp only [h0,fI,auT,auV,au8,show¬ k<0 by omega,au9]
 ·have e:ava (((l.length:Nat):Int)-1)=((l.length-1:Nat):Int):=by rw [wr]<;>omega
  rw [e];simp only [fI,h0,auU,auW,au2];by_cases h:k<l.length
  ·simp only [show¬ l.length-1<k by omega,auU,auW,cC h,a6,au1,h,au8]
  ·simp only [show l.length-1<k by omega,auT,auV,cC (show l.length-1<l.length by omega),a6,au1,h,au9]
def Ll(l:List Token)(k:Nat)(c:Int):Cp 379 (m7 l k c)=some (Fa l k,c):=rfl
open Go Go.Ab Go.Proofs
def AY(n:Nat)(l:List Token)(i:Nat)(e8:Int)(ab:l.length≤1000000000)(hi:i≤l.length):
 nL n e8 ⟨l,(i:Int)⟩=some (if i<l.length∧(l.getD i default).Kind=e8 then .ret (l.getD i default) ((i+1:Nat):Int)else .aJ (m7 l i (iI l i 5)) (i:Int)):=by
 unfold nL Jc
 (rw [c8 (by omega),Lh (by omega)];simp only [au1])
 simp only [Int.ofNat_le,eG];by_cases h:i<l.length
 ·simp only [show¬ l.length≤i by omega,auU,Bool.false_or,cC h,a6,h,true_and]
  by_cases hk:(l.getD i default).Kind=e8
  ·rw [if_pos hk];simp only [hk,auT,auX,auW]
  ·rw [if_neg hk];simp only [hk,auU,auY,auV,vb n l i 5 (by omega),ak,aB.on]
 ·rw [if_neg (λx=>h x.1)]
  simp only [show l.length≤i by omega,auT,Bool.true_or,a6,auV,vb n l i 5 (by omega),ak,aB.on]
def Lm(n:Nat)(l:List Token)(i:Nat)(e8:Int)(ab:l.length≤1000000000)(hi:i≤l.length):
 tf n l (i:Int) e8=some (if i<l.length∧(l.getD i default).Kind=e8 then(l.getD i default,((i+1:Nat):Int),0) else(⟨0,[],0,0⟩,(i:Int),iI l i 5)):=by
 unfold tf
 (rw [c8 (by omega)];simp only [au1])
 simp only [Int.ofNat_le,eG,AV,ak];by_cases h:i<l.length
 ·simp only [show¬ l.length≤i by omega,auU,Bool.false_or,cC h,a6,h,true_and]
  by_cases hk:(l.getD i default).Kind=e8
  ·rw [if_pos hk];simp only [hk,auT,auX,auW]
  ·rw [if_neg hk];simp only [hk,auU,auY,auV]
 ·rw [if_neg (λx=>h x.1)]
  simp only [show l.length≤i by omega,auT,Bool.true_or,a6,auV]
section
variable {α:Type} {wt:α→Nat} {l:List Token}
theorem ve{β:Type}{acH:β→Nat}{i j:Nat}{p:Option (aB β Int)}{q:Option (β×Int×Int)}(h:hN acH l j p q)
 {F:β→Int→Option (aB α Int)} {R:β×Int×Int→Option (α×Int×Int)}
 (ee:∀a (k:Nat),j<k→k≤l.length→acH a+eL l j≤eL l k→hN wt l i (F a (k:Int)) (R (a,(k:Int),0)))
 (Fe:∀a (k:Int) c,c≠0→∃dv,R (a,k,c)=some (dv,k,c)):
 hN wt l i (Option.bind p λr=>aB.on r (λa b=>F a b) (λx b=>some (.aJ x b))) (Option.bind q R):=by
 rcases h with⟨a,k,e1,e2,Z,aa,am⟩|⟨k,c,z,a,e1,e2,Z,aa⟩
 ·rw [e1,e2];exact ee a k Z aa am
 ·rw [e1,e2];obtain⟨dv,uh⟩:=Fe a (k:Int) c Z;exact Or.inr ⟨k,c,z,dv,rfl,uh,Z,aa⟩
theorem AZ{i j n1 n2:Nat}{w:au'}(ab:l.length≤1000000000)(hj:j≤l.length)(hn:2≤n2)
 {F:Unit→Int→Option (aB α Int)} {R:Int×Int→Option (α×Int×Int)}
 (ee:bD l j w=true→j<l.length→eL l (j+1)=eL l j+60+(l.getD j default).Text.length→hN wt l i (F () ((j+1:Nat):Int)) (R (((j+1:Nat):Int),0)))
 (Fe:∀(k:Int) c,c≠0→∃dv,R (k,c)=some (dv,k,c)):
 hN wt l i (Option.bind (iT n1 w ⟨l,(j:Int)⟩) λr=>aB.on r (λa b=>F a b) (λx b=>some (.aJ x b))) (Option.bind (kD n2 l (j:Int) [w]) R):=by
 rw [n3 n1 l j w (by omega) (by omega),rT l j w hn (by omega)]
 cases h:bD l j w
 ·obtain⟨dv,uh⟩:=Fe (j:Int) (iI l j 5) (hZ l j);exact Or.inr ⟨j,_,_,dv,rfl,uh,hZ l j,hj⟩
 ·exact ee h (gS h) (h_ l j (gS h))
theorem Tt{i j n1 n2:Nat}{e8:Int}(ab:l.length≤1000000000)(hj:j≤l.length)
 {F:Token→Int→Option (aB α Int)} {R:Token×Int×Int→Option (α×Int×Int)}
 (ee:j<l.length→eL l (j+1)=eL l j+60+(l.getD j default).Text.length→hN wt l i (F (l.getD j default) ((j+1:Nat):Int)) (R (l.getD j default,((j+1:Nat):Int),0)))
 (Fe:∀t (k:Int) c,c≠0→∃dv,R (t,k,c)=some (dv,k,c)):
 hN wt l i (Option.bind (nL n1 e8 ⟨l,(j:Int)⟩) λr=>aB.on r (λa b=>F a b) (λx b=>some (.aJ x b))) (Option.bind (tf n2 l (j:Int) e8) R):=by
 rw [AY n1 l j e8 ab hj,Lm n2 l j e8 ab hj];by_cases h:j<l.length∧(l.getD j default).Kind=e8
 ·rw [if_pos h,if_pos h];exact ee h.1 (h_ l j h.1)
 ·rw [if_neg h,if_neg h];obtain⟨dv,uh⟩:=Fe ⟨0,[],0,0⟩ (j:Int) (iI l j 5) (hZ l j);exact Or.inr ⟨j,_,_,dv,rfl,uh,hZ l j,hj⟩
end
mutual
def fst:Stmt→Nat
 |⟨_,Name,_,A,B,Body,bM⟩=>80+Name.length+cM A+cM B+dP Body+dP bM
def dP:List Stmt→Nat
 |[]=>0
 |x::l=>fst x+1+dP l
end
def jX(s:Stmt):(⟨s.Op,s.Name,s.Max,s.A,s.B,s.Body,s.bM⟩:Stmt)=s:=by cases s;rfl
def fst_eq(s:Stmt):fst s=80+s.Name.length+cM s.A+cM s.B+dP s.Body+dP s.bM:=by cases s;rfl
def Ln:∀l m:List Stmt,dP (l++m)=dP l+dP m
 |[],m=>by simp [dP]
 |x::l,m=>by rw [List.cons_append,dP,dP,Ln l m];omega
def A0:∀l:List Stmt,80*l.length≤dP l
 |[]=>Nat.le_refl _
 |x::l=>by have:=A0 l;have:=fst_eq x;simp only [dP,auZ];omega
def Tu(n:Nat)(s:Stmt)(l:List Token)(i:Nat)(hi:i≤4611686018427387904)(ab:l.length≤4611686018427387904):
 mi n s ⟨l,(i:Int)⟩=some (bif bD l i [59]then .ret s ((i+1:Nat):Int)else .aJ (m7 l i (iI l i 5)) (i:Int)):=by
 unfold mi;rw [n3 n l i _ hi ab];cases bD l i [59]
 ·rfl
 ·simp only [ak,auV,aB.on,gn,jX]
def mL:List (au'×Int):=[([108,101,116],1),([112,117,116],3),([100,101,108,101,116,101],4),([105,102],5),([102,111,114],6),([101,109,105,116],7),([97,98,111,114,116],8)]
def Tv(l:List Token)(i:Nat):Int:=call2 (mL.find? λr=>bD l i r.1)
def anE(n:Nat)(l:List Token)(at_:Int)(aj:Int→avd)(v5:Int):aas n l at_ aj v5 =
 bif (decide (v5<((mL.length:Nat):Int))) then(
  av (aI v5 mL.length)<|
  Option.bind (kZ n l at_ ((mL.map (·.1)).getD (v5).toNat default)) λbO=>
  bif bO then(
   av (aI v5 mL.length)<|
   some ((mL.map (·.2)).getD (v5).toNat default))
  else(
   aj (ava (v5+1))))
 else aar n:=rfl
def anF(n:Nat)(l:List Token)(a:Nat):∀m i,mL.length<i+m→i≤mL.length→Ku n l (a:Int) m (i:Int)=some (call2 ((mL.drop i).find? λr=>bD l a r.1)):=by
 have hlen:mL.length=7:=rfl;intro m;induction m with
 |zero=>intro i h aa;omega
 |succ m aM=>
  intro i hm hi;rw [Ku,anE];by_cases h:i<mL.length
  ·(rw [eZ mL i default h,c8 (by omega),aM (i+1) (by omega) (by omega)];simp only [au1];rw [getD_map _ _ _ h,getD_map _ _ _ h])
   generalize mL.getD i default=t
   simp only [h,cC h,au2,auT,auV,a6,o0,ak,List.find?_cons];cases bD l a t.1<;>rfl
  ·rw [gE mL i h];simp only [h,au2,auU,auW];rfl
def anG{n:Nat}(l:List Token)(a:Nat)(hn:8<n):aat n l (a:Int)=some (Tv l a):=by
 have hlen:mL.length=7:=rfl;exact anF n l a n 0 (by omega) (by omega)
def Ff{l:List Token}{i:Nat}{v w:au'}(h:bD l i v=true)(anH:v≠w):bD l i w=false:=by
 unfold bD at h ⊢;simp only [Bool.and_eq_true,decide_eq_true_eq]at h;rw [decide_eq_false (show¬ (l.getD i default).Text=w by rw [h.2.2];exact anH)]
 simp
open Go Go.Ab Go.Proofs
def acI(n:Nat):nR (n+1)=DM n (nR n) (rG n) (qv n):=rfl
def acJ(n:Nat):rG (n+1)=DO n (nR n) (rG n) (qv n):=rfl
def acK(n:Nat):qv (n+1)=DY n (nR n) (rG n) (qv n):=rfl
def anI(n:Nat):nd (n+1)=Sm n (nd n) (oU n) (pJ n) (nY n):=rfl
def anJ(n:Nat):oU (n+1)=Sn n (nd n) (oU n) (pJ n) (nY n):=rfl
def acL(n:Nat):pJ (n+1)=Kx n (nd n) (oU n) (pJ n) (nY n):=rfl
def Tw(n:Nat):nY (n+1)=Eu n (nd n) (oU n) (pJ n) (nY n):=rfl
section
variable {l:List Token}
theorem xI(ab:l.length≤1000000000)(hg:kF l){i n1 n2:Nat}(hi:i≤l.length)(Z:40*l.length+200≤n1)(aa:40*l.length+200≤n2):
 hN cM l i (fG n1 1 0 ⟨l,(i:Int)⟩) (pI n2 l (i:Int) 1 0):=
 (Fd ab hg (20*l.length+18)).1 i 1 0 n1 n2 hi (by omega) (by omega) (by omega) (by omega) (by omega) (by omega)
def Fg(l:List Token)(du:Nat):Prop:=∀(i d n1 n2:Nat),i≤l.length→d≤13→2*(l.length-i)+2≤du→40*l.length+200+6*du≤n1→40*l.length+200+6*du≤n2→
 hN (λb=>dP b+120) l i (nR n1 (d:Int) ⟨l,(i:Int)⟩) (nd n2 l (i:Int) (d:Int))
def Lo(l:List Token)(du:Nat):Prop:=∀(i d n1 n2:Nat),i≤l.length→d≤12→2*(l.length-i)+1≤du→40*l.length+200+6*du≤n1→40*l.length+200+6*du≤n2→
 hN (λs=>fst s+1) l i (rG n1 ((d+1:Nat):Int) ⟨l,(i:Int)⟩) (oU n2 l (i:Int) (d:Int))
theorem anK{k:Nat}(h:k≤100000000000):room k 192=true:=by simp [room];omega
theorem anL{du:Nat}(ab:gZ l≤1000000000)(Tx:Lo l du)(i d n1 n2:Nat)(hd:d≤12)(hm:2*(l.length-i)≤du+1)(Z:40*l.length+200+6*du≤n1)(aa:40*l.length+200+6*du≤n2):
 ∀(m1 m2 k:Nat) (acc:List Stmt),l.length-k<m1→l.length-k<m2→i<k→k≤l.length→dP acc+60+eL l i≤eL l k→
 hN (λb=>dP b+120) l i (uP n1 (nR n1) (rG n1) (qv n1) (d:Int) ⟨l,(i:Int)⟩ m1 (k:Int) acc)
  (Kv n2 (nd n2) (oU n2) (pJ n2) (nY n2) l (d:Int) m2 (k:Int) acc):=by
 have k7:=mK l;have jc:eL l l.length=gZ l:=by unfold eL;rw [List.take_length]
 intro m1;induction m1 with
 |zero=>intro m2 k acc h;omega
 |succ m1 aM=>
  intro m2 k acc acE E_ rn hk ha;obtain⟨m2,rfl⟩:∃j,m2=j+1:=⟨m2-1,by omega⟩
  have anM:=vc l k l.length hk;have A1:=A0 acc;simp only [uP,Je,Jd,Kv,aav,aau,gn,jX];rw [k6 n1 l k _ (by omega),o0,c8 (by omega),c8 (by omega)]
  simp only [ak];cases h:bD l k [125]
  ·simp only [auY,auV,auW];rcases Tx k d n1 n2 hk hd (by omega) Z aa with⟨a,k',e1,e2,ki,fq,jG⟩|⟨k',c,z,a,e1,e2,hc,lm⟩
   ·rw [e1,e2];simp only at jG
    simp only [ak,aB.on,auT,auX,auW,auZ,au0,anK (show acc.length+(0+1)≤100000000000 by omega),a6]
    exact aM m2 k' (acc++[a]) (by omega) (by omega) (by omega) fq (by rw [Ln];simp only [dP];omega)
   ·rw [e1,e2];simp only [ak,aB.on,hc,auU,auY,auV];exact Or.inr ⟨k',c,_,_,rfl,rfl,hc,lm⟩
  ·have bw:=gS h;have ji:=h_ l k bw;simp only [auX,auV,auW];exact Or.inl ⟨acc,k+1,rfl,rfl,by omega,by omega,by simp only;omega⟩
theorem anN{du:Nat}(ab:gZ l≤1000000000)(Tx:Lo l du):Fg l (du+1):=by
 have k7:=mK l;intro i d n1 n2 hi hd hm Z aa;obtain⟨n1,rfl⟩:∃k,n1=k+1:=⟨n1-1,by omega⟩
 obtain⟨n2,rfl⟩:∃k,n2=k+1:=⟨n2-1,by omega⟩
 rw [acI,anI];unfold DM Sm DK;rw [rS,n3 n1 l i _ (by omega) (by omega),rT l i _ (by omega) (by omega),vb n1 l i 2 (by omega)]
 simp only [ak,gb];cases h:bD l i [123]
 ·simp only [auW,aB.on,hZ l i,auU,auY,auV];exact Or.inr ⟨i,_,_,_,rfl,rfl,hZ l i,hi⟩
 ·have bw:=gS h;have ji:=h_ l i bw;simp only [auV,auT,auX,auW,aB.on];by_cases gx:12<d
  ·simp only [gx,auT,auV];rw [Lh (by omega),show iI l i 2=2 from if_pos bw]
   exact Or.inr ⟨i,2,_,_,rfl,rfl,by decide,hi⟩
  ·simp only [gx,auU,auW];exact anL ab Tx i d n1 n2 (by omega) (by omega) (by omega) (by omega) n1 n2 (i+1) [] (by omega) (by omega) (by omega) (by omega) (by simp only [dP];omega)
end
open Go Go.Ab Go.Proofs
section
variable {l:List Token}
theorem anO{α:Type}{wt:α→Nat}{i:Nat}{p:Option (aB α Int)}{q:Option (α×Int×Int)}(h:hN wt l i p q):
 hN wt l i (Option.bind p λr=>aB.on r (λa b=>some (.ret a b)) (λx b=>some (.aJ x b))) (Option.bind q λr=>some (r.1,r.2.1,r.2.2)):=by
 rcases h with⟨a,k,e1,e2,h⟩|⟨k,c,z,a,e1,e2,h⟩
 ·rw [e1,e2];exact Or.inl ⟨a,k,rfl,rfl,h⟩
 ·rw [e1,e2];exact Or.inr ⟨k,c,z,a,rfl,rfl,h⟩
theorem anP{n:Nat}(k:Nat)(s:Stmt)(d:Int)(hn:2≤n)(hk:k≤1000000000)(bd:s.Op≠5)(b':s.Op≠6):
 nY (n+1) l (k:Int) s d=some (bif bD l k [59] then(s,((k+1:Nat):Int),0) else(s,(k:Int),iI l k 5)):=by
 rw [Tw];unfold Eu;simp only [bd,b',auU,auW,gn,jX];rw [rT l k _ hn (by omega)]
 simp only [ak];cases bD l k [59]<;>rfl
theorem Ty{i k n1 n2:Nat}(ab:l.length≤1000000000)(hn:3≤n2)(s:Stmt)(d:Int)(rn:i<k)(hk:k≤l.length)(bd:s.Op≠5)(b':s.Op≠6)(hw:fst s+1+eL l i≤eL l k+60):
 hN (λs=>fst s+1) l i (Option.bind (mi n1 s ⟨l,(k:Int)⟩) λr=>aB.on r (λa b=>some (.ret a b)) (λx b=>some (.aJ x b)))
  (Option.bind (nY n2 l (k:Int) s d) λr=>some (r.1,r.2.1,r.2.2)):=by
 obtain⟨n2,rfl⟩:∃j,n2=j+1:=⟨n2-1,by omega⟩
 refine anO ?_;rw [Tu n1 s l k (by omega) (by omega),anP k s d (by omega) (by omega) bd b']
 cases h:bD l k [59]
 ·exact Or.inr ⟨k,_,_,_,rfl,rfl,hZ l k,hk⟩
 ·have bw:=gS h;have ji:=h_ l k bw;exact Or.inl ⟨s,k+1,rfl,rfl,by omega,by omega,by simp only;omega⟩
theorem Fh:cM ⟨0,0,[],[]⟩=30:=by simp [cM,jE]
theorem A2:dP []=0:=rfl
theorem anQ(l:List Token)(i:Nat):Tv l i=bif bD l i [108,101,116]then 1 else bif bD l i [112,117,116]then 3 else bif bD l i [100,101,108,101,116,101]then 4 else bif bD l i [105,102]then 5 else bif bD l i [102,111,114]then 6 else bif bD l i [101,109,105,116]then 7 else bif bD l i [97,98,111,114,116]then 8 else 0:=by
 unfold Tv mL;simp only [List.find?_cons,List.find?_nil];cases bD l i [108,101,116]
 ·cases bD l i [112,117,116]
  ·cases bD l i [100,101,108,101,116,101]
   ·cases bD l i [105,102]
    ·cases bD l i [102,111,114]
     ·cases bD l i [101,109,105,116]
      ·cases bD l i [97,98,111,114,116]<;>rfl
      ·rfl
     ·rfl
    ·rfl
   ·rfl
  ·rfl
 ·rfl
theorem anR{i:Nat}(h:i≤1000000000):ava (ava ((i:Int)-1)+1)=(i:Int):=by
 rw [wr (x:=(i:Int)-1) (by omega) (by omega),wr (by omega) (by omega)];omega
theorem acM(ab:gZ l≤1000000000)(hg:kF l)(i j d n1 n2:Nat)(op:Int)(f7:op=1∨op=2)(sl:i≤j)(hj:j≤l.length)(Z:40*l.length+200≤n1)(aa:40*l.length+204≤n2):
 hN (
  λs=>fst s+1) l i
  (Option.bind (nL n1 1 ⟨l,(j:Int)⟩) λr3=>aB.on r3 (λaR bV=>Option.bind (iT n1 [61] ⟨l,bV⟩) λbO=>aB.on bO (λbH cd=>
   Option.bind (fG n1 1 0 ⟨l,cd⟩) λbx=>aB.on bx (λcq de=>Option.bind (mi n1 ⟨op,aR.Text,0,cq,⟨0,0,[],[]⟩,[],[]⟩ ⟨l,de⟩) λdx=>
   aB.on dx (λb8 df=>some (.ret b8 df)) (λlw df=>some (.aJ lw df))) (λs4 de=>some (.aJ s4 de))) (λDP cd=>some (.aJ DP cd))) (λsX bV=>some (.aJ sX bV)))
  (Option.bind (tf n2 l (j:Int) 1) λaT=>
   bif (!decide (aT.2.2=0))then some ((⟨op,[],0,⟨0,0,[],[]⟩,⟨0,0,[],[]⟩,[],[]⟩:Stmt),aT.2.1,aT.2.2)
   else Option.bind (kD n2 l aT.2.1 [[61]]) λbO=>
    bif (!decide (bO.2=0))then some ((⟨op,aT.1.Text,0,⟨0,0,[],[]⟩,⟨0,0,[],[]⟩,[],[]⟩:Stmt),bO.1,bO.2)
    else nX n2 (nd n2) (oU n2) (pJ n2) (nY n2) l (d:Int) op aT.1.Text bO.1):=by
 have k7:=mK l;have auf:=vc l i j sl;have Tz:¬ op=8:=by omega
 have TA:¬ op=3:=by omega
 have TB:¬ op=6:=by omega
 refine Tt (by omega) hj (λbw ji=>?_) (λt k c hc=>⟨_,by simp only [hc,auU,auY,auV];rfl⟩)
 generalize l.getD j default=t at ji
 simp only [auT,auX,auW];refine AZ (by omega) (by omega) (by omega) (λaD q6 AX=>?_) (λk c hc=>⟨_,by simp only [hc,auU,auY,auV];rfl⟩)
 simp only [auT,auX,auW,nX,xq,Tz,TA,TB,auU,gn,jX];refine ve (xI (by omega) hg (by omega) Z (by omega)) (λa k ki fq jG=>?_) (λa k c hc=>⟨_,by simp only [hc,auU,auY,auV];rfl⟩)
 simp only [auT,auX,auW];refine Ty (by omega) (by omega) _ _ (by omega) fq (by simp only;omega) (by simp only;omega) ?_
 simp only [fst,Fh,A2];omega
end
open Go Go.Ab Go.Proofs
section
variable {l:List Token}
theorem acN(ab:gZ l≤1000000000)(hg:kF l)(i j d n1 n2:Nat)(op:Int)(f7:op=4∨op=7)(sl:i<j)(hw:eL l i+60≤eL l j)(hj:j≤l.length)(Z:40*l.length+200≤n1)(aa:40*l.length+204≤n2):
 hN (λs=>fst s+1) l i
  (Option.bind (fG n1 1 0 ⟨l,(j:Int)⟩) λbx=>aB.on bx (λcq de=>Option.bind (mi n1 ⟨op,[],0,cq,⟨0,0,[],[]⟩,[],[]⟩ ⟨l,de⟩) λdx=>
   aB.on dx (λb8 df=>some (.ret b8 df)) (λlw df=>some (.aJ lw df))) (λs4 de=>some (.aJ s4 de)))
  (nX n2 (nd n2) (oU n2) (pJ n2) (nY n2) l (d:Int) op [] (j:Int)):=by
 have k7:=mK l;have Tz:¬ op=8:=by omega
 have TA:¬ op=3:=by omega
 have TB:¬ op=6:=by omega
 simp only [nX,xq,Tz,TA,TB,auU,auW,gn,jX];refine ve (xI (by omega) hg (by omega) Z (by omega)) (λa k ki fq jG=>?_) (λa k c hc=>⟨_,by simp only [hc,auU,auY,auV];rfl⟩)
 simp only [auT,auX,auW];refine Ty (by omega) (by omega) _ _ (by omega) fq (by simp only;omega) (by simp only;omega) ?_
 simp only [fst,Fh,A2,au0];omega
theorem anS(ab:gZ l≤1000000000)(hg:kF l)(i j d n1 n2:Nat)(sl:i<j)(hw:eL l i+60≤eL l j)(hj:j≤l.length)(Z:40*l.length+200≤n1)(aa:40*l.length+204≤n2):
 hN (λs=>fst s+1) l i
  (Option.bind (fG n1 1 0 ⟨l,(j:Int)⟩) λeT=>aB.on eT (λdp eo=>Option.bind (iT n1 [61] ⟨l,eo⟩) λfi=>aB.on fi (λr26 r27=>
   Option.bind (fG n1 1 0 ⟨l,r27⟩) λfF=>aB.on fF (λhM fN=>Option.bind (mi n1 ⟨3,[],0,dp,hM,[],[]⟩ ⟨l,fN⟩) λnI=>
   aB.on nI (λb8 df=>some (.ret b8 df)) (λlw df=>some (.aJ lw df))) (λs5 fN=>some (.aJ s5 fN))) (λs6 r27=>some (.aJ s6 r27))) (λoP eo=>some (.aJ oP eo)))
  (nX n2 (nd n2) (oU n2) (pJ n2) (nY n2) l (d:Int) 3 [] (j:Int)):=by
 have k7:=mK l;simp only [nX,Kw,xq,show¬ (3:Int)=8 by omega,show¬ (3:Int)=6 by omega,auT,auU,auV,auW,gn,jX]
 refine ve (xI (by omega) hg (by omega) Z (by omega)) (λa k ki fq jG=>?_) (λa k c hc=>⟨_,by simp only [hc,auU,auY,auV];rfl⟩)
 simp only [auT,auX,auW];refine AZ (by omega) fq (by omega) (λaD q6 AX=>?_) (λk c hc=>⟨_,by simp only [hc,auU,auY,auV];rfl⟩)
 simp only [auT,auX,auW];refine ve (xI (by omega) hg (by omega) Z (by omega)) (λb aj acO Fj TC=>?_) (λa k c hc=>⟨_,by simp only [hc,auU,auY,auV];rfl⟩)
 simp only [auT,auX,auW,gn];refine Ty (by omega) (by omega) _ _ (by omega) Fj (by simp only;omega) (by simp only;omega) ?_
 simp only [fst,A2,au0];omega
theorem anT(ab:gZ l≤1000000000)(i j d n1 n2:Nat)(sl:i<j)(hw:eL l i+60≤eL l j)(hj:j≤l.length)(aa:10≤n2):
 hN (λs=>fst s+1) l i
  (Option.bind (nL n1 3 ⟨l,(j:Int)⟩) λnO=>aB.on nO (λJi xc=>Option.bind (mi n1 ⟨8,[],Ji.N,⟨0,0,[],[]⟩,⟨0,0,[],[]⟩,[],[]⟩ ⟨l,xc⟩) λwX=>
   aB.on wX (λb8 df=>some (.ret b8 df)) (λlw df=>some (.aJ lw df))) (λs4 de=>some (.aJ s4 de)))
  (nX n2 (nd n2) (oU n2) (pJ n2) (nY n2) l (d:Int) 8 [] (j:Int)):=by
 have k7:=mK l;obtain⟨n2,rfl⟩:∃k,n2=k+1:=⟨n2-1,by omega⟩
 simp only [nX,auT,auV,gn,jX]
 conv=>rhs;rw [acL]
 unfold Kx;simp only [auT,auV,gn,jX];rw [AY n1 l j 3 (by omega) hj,Lm n2 l j 3 (by omega) hj]
 by_cases h:j<l.length∧(l.getD j default).Kind=3
 ·have ji:=h_ l j h.1;rw [if_pos h,if_pos h];generalize l.getD j default=t at ji
  simp only [ak,aB.on,auT,auX,auW];rw [Tu n1 _ l (j+1) (by omega) (by omega),rT l (j+1) _ (by omega) (by omega)]
  cases cG:bD l (j+1) [59]
  ·exact Or.inr ⟨j+1,_,_,_,rfl,rfl,hZ l _,by omega⟩
  ·have bw:=gS cG;have AX:=h_ l (j+1) bw;refine Or.inl ⟨⟨8,[],t.N,⟨0,0,[],[]⟩,⟨0,0,[],[]⟩,[],[]⟩,j+1+1,rfl,rfl,by omega,by omega,?_⟩
   simp only [fst,Fh,A2,au0];omega
 ·rw [if_neg h,if_neg h];simp only [ak,aB.on,hZ l j,auU,auY,auV];exact Or.inr ⟨j,_,_,_,rfl,rfl,hZ l j,hj⟩
theorem anU{du:Nat}(ab:gZ l≤1000000000)(hg:kF l)(dg:Fg l du)(i j d n1 n2:Nat)(sl:i<j)(hw:eL l i+60≤eL l j)(hj:j≤l.length)(hd:d≤12)(hm:2*(l.length-i)≤du+1)(Z:40*l.length+200+6*du≤n1)(aa:40*l.length+204+6*du≤n2):
 hN (λs=>fst s+1) l i
  (Option.bind (fG n1 1 0 ⟨l,(j:Int)⟩) λQd=>aB.on Qd (λlQ s8=>Option.bind (nR n1 ((d+1:Nat):Int) ⟨l,s8⟩) λQe=>aB.on Qe (λrF s9=>
   Option.bind (kV n1 [101,108,115,101] ⟨l,s9⟩) λuQ=>
   bif uQ.1 then Option.bind (nR n1 ((d+1:Nat):Int) ⟨l,uQ.2⟩) λQf=>aB.on Qf (λJk s'=>some (.ret (⟨5,[],0,lQ,⟨0,0,[],[]⟩,rF,Jk⟩:Stmt) s')) (λDR s'=>some (.aJ DR s'))
   else some (.ret (⟨5,[],0,lQ,⟨0,0,[],[]⟩,rF,[]⟩:Stmt) uQ.2)) (λDS s9=>some (.aJ DS s9))) (λDT s8=>some (.aJ DT s8)))
  (nX n2 (nd n2) (oU n2) (pJ n2) (nY n2) l (d:Int) 5 [] (j:Int)):=by
 have k7:=mK l;obtain⟨n2,rfl⟩:∃k,n2=k+1:=⟨n2-1,by omega⟩
 simp only [nX,xq,show¬ (5:Int)=8 by omega,show¬ (5:Int)=6 by omega,show¬ (5:Int)=3 by omega,auU,auW,gn,jX]
 refine ve (xI (by omega) hg (by omega) (by omega) (by omega)) (λa k ki fq jG=>?_) (λa k c hc=>⟨_,by simp only [hc,auU,auY,auV];rfl⟩)
 simp only [auT,auX,auW,Tw,Eu,So,show¬ (5:Int)=6 by omega,auU,auV,gn,jX]
 rw [c8 (by omega)]
 rcases dg k (d+1) n1 n2 fq (by omega) (by omega) (by omega) (by omega) with⟨b,k',e1,e2,acO,Fj,TC⟩|⟨k',c,z,b,e1,e2,hc,lm⟩
 ·simp only at TC
  rw [e1,e2];simp only [ak,aB.on,auT,auV];rw [k6 n1 l k' _ (by omega),o0,c8 (by omega)]
  simp only [ak];cases h:bD l k' [101,108,115,101]
  ·simp only [auW,ak];refine Or.inl ⟨⟨5,[],0,a,⟨0,0,[],[]⟩,b,[]⟩,k',rfl,rfl,by omega,Fj,?_⟩
   simp only [fst,Fh,A2,au0];omega
  ·have bw:=gS h;have ji:=h_ l k' bw;simp only [auV];rcases dg (k'+1) (d+1) n1 n2 (by omega) (by omega) (by omega) (by omega) (by omega) with⟨ho,aj,e1,e2,anV,TD,Lp⟩|⟨aj,c,z,ho,e1,e2,hc,anW⟩
   ·simp only at Lp
    rw [e1,e2];refine Or.inl ⟨⟨5,[],0,a,⟨0,0,[],[]⟩,b,ho⟩,aj,rfl,rfl,by omega,TD,?_⟩
    simp only [fst,Fh,au0];omega
   ·rw [e1,e2];exact Or.inr ⟨aj,c,_,_,rfl,rfl,hc,anW⟩
 ·rw [e1,e2];simp only [ak,aB.on,hc,auU,auW];exact Or.inr ⟨k',c,_,_,rfl,rfl,hc,lm⟩
end
open Go Go.Ab Go.Proofs
section
variable {l:List Token}
theorem anX{du:Nat}(ab:gZ l≤1000000000)(hg:kF l)(dg:Fg l du)(i j d n1 n2:Nat)(sl:i<j)(hw:eL l i+60≤eL l j)(hj:j≤l.length)(hd:d≤12)(hm:2*(l.length-i)≤du+1)(Z:40*l.length+202+6*du≤n1)(aa:40*l.length+204+6*du≤n2):
 hN (
  λs=>fst s+1) l i
  (Option.bind (qv n1 ((d+1:Nat):Int) ⟨l,(j:Int)⟩) λr=>aB.on r (λa b=>some (.ret a b)) (λx b=>some (.aJ x b)))
  (Option.bind (tf n2 l (j:Int) 1) λaT=>
   bif (!decide (aT.2.2=0))then some ((⟨6,[],0,⟨0,0,[],[]⟩,⟨0,0,[],[]⟩,[],[]⟩:Stmt),aT.2.1,aT.2.2)
   else Option.bind (kD n2 l aT.2.1 [[61]]) λbO=>
    bif (!decide (bO.2=0))then some ((⟨6,aT.1.Text,0,⟨0,0,[],[]⟩,⟨0,0,[],[]⟩,[],[]⟩:Stmt),bO.1,bO.2)
    else nX n2 (nd n2) (oU n2) (pJ n2) (nY n2) l (d:Int) 6 aT.1.Text bO.1):=by
 have k7:=mK l;obtain⟨n1,rfl⟩:∃k,n1=k+1:=⟨n1-1,by omega⟩
 obtain⟨n2,rfl⟩:∃k,n2=k+2:=⟨n2-2,by omega⟩
 suffices h:hN (λs=>fst s+1) l i (qv (n1+1) ((d+1:Nat):Int) ⟨l,(j:Int)⟩) _ by
  rcases h with⟨a,k,e1,e2,h⟩|⟨k,c,z,a,e1,e2,h⟩
  ·rw [e1];exact Or.inl ⟨a,k,rfl,e2,h⟩
  ·rw [e1];exact Or.inr ⟨k,c,z,a,rfl,e2,h⟩
 rw [acK];unfold DY;refine Tt (by omega) hj (λbw ji=>?_) (λt k c hc=>⟨_,by simp only [hc,auU,auY,auV];rfl⟩)
 generalize l.getD j default=t at ji
 simp only [auT,auX,auW];refine AZ (by omega) (by omega) (by omega) (λaD q6 AX=>?_) (λk c hc=>⟨_,by simp only [hc,auU,auY,auV];rfl⟩)
 simp only [auT,auX,auW,nX,Kw,xq,show¬ (6:Int)=8 by omega,auU,auV,gn,jX]
 refine ve (xI (by omega) hg (by omega) (by omega) (by omega)) (λa k ki fq jG=>?_) (λa k c hc=>⟨_,by simp only [hc,auU,auY,auV];rfl⟩)
 have lk:(bif decide ((6:Int)=3)then true else decide ((6:Int)=6))=true:=rfl
 simp only [auT,auX,auW,lk,auV];refine AZ (by omega) fq (by omega) (λaD anY Ts=>?_) (λk c hc=>⟨_,by simp only [hc,auU,auY,auV];rfl⟩)
 simp only [auT,auX,auW];refine ve (xI (by omega) hg (by omega) (by omega) (by omega)) (λb aj acO Fj TC=>?_) (λa k c hc=>⟨_,by simp only [hc,auU,auY,auV];rfl⟩)
 simp only [auT,auX,auW,gn];rw [show n2+2=n2+1+1 from rfl,Tw]
 unfold Eu;simp only [auT,auV,gn,jX]
 -- lJ word max
 rw [n3 n1 l aj _ (by omega) (by omega),rT l aj _ (by omega) (by omega)]
 simp only [ak];cases anZ:bD l aj [109,97,120]
 ·simp only [auW,aB.on,hZ l aj,auU,auY,auV,ak];exact Or.inr ⟨aj,_,_,_,rfl,rfl,hZ l aj,Fj⟩
 ·have TE:=gS anZ;have an0:=h_ l aj TE;simp only [auV,aB.on,auT,auX,auW];rw [acL];unfold Kx;rw [AY n1 l (aj+1) 3 (by omega) (by omega),Lm n2 l (aj+1) 3 (by omega) (by omega)]
  by_cases h:aj+1<l.length∧(l.getD (aj+1) default).Kind=3
  ·have an1:=h_ l (aj+1) h.1;rw [if_pos h,if_pos h];generalize l.getD (aj+1) default=t2 at an1
   simp only [ak,aB.on,auT,auX,auW,show¬ (6:Int)=8 by omega,auU,gn,jX]
   rw [c8 (by omega)]
   rcases dg (aj+1+1) (d+1) n1 n2 (by omega) (by omega) (by omega) (by omega) (by omega) with⟨qX,k',e1,e2,anV,TD,Lp⟩|⟨k',c,z,qX,e1,e2,hc,lm⟩
   ·simp only at Lp
    rw [e1,e2];refine Or.inl ⟨⟨6,t.Text,t2.N,a,b,qX,[]⟩,k',rfl,rfl,by omega,TD,?_⟩
    simp only [fst,A2];omega
   ·rw [e1,e2];exact Or.inr ⟨k',c,_,_,rfl,rfl,hc,lm⟩
  ·rw [if_neg h,if_neg h];simp only [ak,aB.on,hZ l (aj+1),auU,auY,auV];exact Or.inr ⟨aj+1,_,_,_,rfl,rfl,hZ l _,by omega⟩
theorem an2{du:Nat}(ab:gZ l≤1000000000)(hg:kF l)(dg:Fg l du):Lo l (du+1):=by
 have k7:=mK l;intro i d n1 n2 hi hd hm Z aa;obtain⟨n1,rfl⟩:∃k,n1=k+1:=⟨n1-1,by omega⟩
 obtain⟨n2,rfl⟩:∃k,n2=k+1:=⟨n2-1,by omega⟩
 rw [acJ,anJ];unfold DO Sn DN;rw [anG l i (by omega)]
 have hle:i≤4611686018427387904:=by omega
 simp only [k6 n1 l i _ hle,ak,gn,jX];have hk:=anQ l i;by_cases Lq:bD l i [108,101,116]=true
 ·have bw:=gS Lq;have ji:=h_ l i bw;rw [Lq]at hk;simp only [auV]at hk;simp only [Lq,auV,hk,show¬ (1:Int)=0 by omega,auU,auW,rM]
  rw [c8 (by omega)]
  simp only [auT,auV];exact acM ab hg i (i+1) d n1 n2 1 (Or.inl rfl) (by omega) (by omega) (by omega) (by omega)
 have an3:bD l i [108,101,116]=false:=by simpa using Lq
 simp only [an3,auW]at hk ⊢;simp only [k6 n1 l i _ hle,ak];by_cases Lr:bD l i [112,117,116]=true
 ·have bw:=gS Lr;have ji:=h_ l i bw;rw [Lr]at hk;simp only [auV]at hk;simp only [Lr,auV,hk,show¬ (3:Int)=0 by omega,auU,auW,rM]
  rw [c8 (by omega)]
  have lk:(bif (bif decide ((3:Int)=1)then true else decide ((3:Int)=2))then true else decide ((3:Int)=6))=false:=rfl
  simp only [lk,auW];exact anS ab hg i (i+1) d n1 n2 (by omega) (by omega) (by omega) (by omega) (by omega)
 have an4:bD l i [112,117,116]=false:=by simpa using Lr
 simp only [an4,auW]at hk ⊢;simp only [k6 n1 l i _ hle,ak];by_cases Ls:bD l i [100,101,108,101,116,101]=true
 ·have bw:=gS Ls;have ji:=h_ l i bw;rw [Ls]at hk;simp only [auV]at hk;simp only [Ls,auV,hk,show¬ (4:Int)=0 by omega,auU,auW,rM]
  rw [c8 (by omega)]
  have lk:(bif (bif decide ((4:Int)=1)then true else decide ((4:Int)=2))then true else decide ((4:Int)=6))=false:=rfl
  simp only [lk,auW];exact acN ab hg i (i+1) d n1 n2 4 (Or.inl rfl) (by omega) (by omega) (by omega) (by omega) (by omega)
 have an5:bD l i [100,101,108,101,116,101]=false:=by simpa using Ls
 simp only [an5,auW]at hk ⊢;simp only [k6 n1 l i _ hle,ak];by_cases A3:bD l i [101,109,105,116]=true
 ·have bw:=gS A3;have ji:=h_ l i bw;rw [Ff A3 (w:=[105,102]) (by decide),Ff A3 (w:=[102,111,114]) (by decide),A3]at hk
  simp only [auV,auW]at hk;simp only [A3,auV,hk,show¬ (7:Int)=0 by omega,auU,auW,rM]
  rw [c8 (by omega)]
  have lk:(bif (bif decide ((7:Int)=1)then true else decide ((7:Int)=2))then true else decide ((7:Int)=6))=false:=rfl
  simp only [lk,auW];exact acN ab hg i (i+1) d n1 n2 7 (Or.inr rfl) (by omega) (by omega) (by omega) (by omega) (by omega)
 have an6:bD l i [101,109,105,116]=false:=by simpa using A3
 simp only [an6,auW]at hk ⊢;simp only [k6 n1 l i _ hle,ak];by_cases A4:bD l i [97,98,111,114,116]=true
 ·have bw:=gS A4;have ji:=h_ l i bw;rw [Ff A4 (w:=[105,102]) (by decide),Ff A4 (w:=[102,111,114]) (by decide),A4]at hk
  simp only [auV,auW]at hk;simp only [A4,auV,hk,show¬ (8:Int)=0 by omega,auU,auW,rM]
  rw [c8 (by omega)]
  have lk:(bif (bif decide ((8:Int)=1)then true else decide ((8:Int)=2))then true else decide ((8:Int)=6))=false:=rfl
  simp only [lk,auW];exact anT ab i (i+1) d n1 n2 (by omega) (by omega) (by omega) (by omega)
 have an7:bD l i [97,98,111,114,116]=false:=by simpa using A4
 simp only [an7,auW]at hk ⊢;simp only [k6 n1 l i _ hle,ak];by_cases Lt:bD l i [105,102]=true
 ·have bw:=gS Lt;have ji:=h_ l i bw;rw [Lt]at hk;simp only [auV,auW]at hk;simp only [Lt,auV,hk,show¬ (5:Int)=0 by omega,auU,auW,rM]
  rw [c8 (by omega)]
  have lk:(bif (bif decide ((5:Int)=1)then true else decide ((5:Int)=2))then true else decide ((5:Int)=6))=false:=rfl
  simp only [lk,auW];exact anU ab hg dg i (i+1) d n1 n2 (by omega) (by omega) (by omega) hd (by omega) (by omega) (by omega)
 have an8:bD l i [105,102]=false:=by simpa using Lt
 simp only [an8,auW]at hk ⊢;simp only [k6 n1 l i _ hle,ak];by_cases Lu:bD l i [102,111,114]=true
 ·have bw:=gS Lu;have ji:=h_ l i bw;rw [Lu]at hk;simp only [auV,auW]at hk;simp only [Lu,auV,hk,show¬ (6:Int)=0 by omega,auU,auW,rM]
  rw [c8 (by omega)]
  simp only [auT,auU,auV,auW,show¬ (6:Int)=1 by omega,show¬ (6:Int)=2 by omega]
  exact anX ab hg dg i (i+1) d n1 n2 (by omega) (by omega) (by omega) hd (by omega) (by omega) (by omega)
 have an9:bD l i [102,111,114]=false:=by simpa using Lu
 simp only [an9,auW]at hk ⊢;simp only [hk,auT,auV,au1,Int.ofNat_le,eG,AV,ak,rM,show(decide ((2:Int)=1))=false from rfl,Bool.true_or,au7,Bool.false_or]
 rw [anR (by omega)]
 by_cases aZ:i<l.length∧(l.getD i default).Kind=1
 ·have hc:(decide (l.length≤i) || !decide ((l.getD i default).Kind=1))=false:=by
   rw [decide_eq_false (by omega),decide_eq_true aZ.2];rfl
  simp only [hc,auW,cC aZ.1,au7,a6];exact acM ab hg i i d n1 n2 2 (Or.inr rfl) (by omega) (by omega) (by omega) (by omega)
 ·have hc:(decide (l.length≤i) || !decide ((l.getD i default).Kind=1))=true:=by
   by_cases bw:i<l.length
   ·rw [decide_eq_false (show¬ (l.getD i default).Kind=1 from λe=>aZ ⟨bw,e⟩)];simp
   ·rw [decide_eq_true (show l.length≤i by omega)];rfl
  have hin:(decide (l.length≤i)||aI (i:Int) l.length)=true:=by
   by_cases bw:i<l.length
   ·rw [cC bw];simp
   ·rw [decide_eq_true (show l.length≤i by omega)];rfl
  simp only [hc,hin,auV,a6];rw [AY n1 l i 1 (by omega) hi,if_neg aZ]
  exact Or.inr ⟨i,_,_,_,rfl,rfl,hZ l i,hi⟩
theorem TF(ab:gZ l≤1000000000)(hg:kF l):∀du,Fg l du∧Lo l du
 | 0=>⟨λi d n1 n2 hi hd hm=>by omega,λi d n1 n2 hi hd hm=>by omega⟩
 |du+1=>⟨anN ab (TF ab hg du).2,an2 ab hg (TF ab hg du).1⟩
end
open Go Go.Ab Go.Proofs
def o1(l:List Token)(k:Nat):Param ⊕ Nat:=
 if k<l.length∧(l.getD k default).Kind=1 then
  bif bD l (k+1) [58] then
   bif bD l (k+2) [105,110,116]then .inl ⟨(l.getD k default).Text,1⟩
   else bif bD l (k+2) [115,116,114]then .inl ⟨(l.getD k default).Text,2⟩
   else bif bD l (k+2) [98,111,111,108]then .inl ⟨(l.getD k default).Text,3⟩
   else .inr (k+2)
  else .inr (k+1)
 else .inr k
def acP{l:List Token}{k:Nat}{p:Param}(h:o1 l k = .inl p):k+2<l.length∧p.Name.length+180+eL l k≤eL l (k+3):=by
 unfold o1 at h;split at h
 ·rename_i Z;cases aa:bD l (k+1) [58]
  ·rw [aa]at h;cases h
  ·rw [aa]at h;simp only [auV]at h
   have am:bD l (k+2) [105,110,116]=true∨bD l (k+2) [115,116,114]=true∨bD l (k+2) [98,111,111,108]=true:=by
    cases aK:bD l (k+2) [105,110,116]
    ·cases bd:bD l (k+2) [115,116,114]
     ·cases b':bD l (k+2) [98,111,111,108]
      ·rw [aK,bd,b']at h;cases h
      ·exact Or.inr (Or.inr rfl)
     ·exact Or.inr (Or.inl rfl)
    ·exact Or.inl rfl
   have bw:k+2<l.length:=by rcases am with am|am|am<;>exact gS am
   have hn:p.Name=(l.getD k default).Text:=by
    cases aK:bD l (k+2) [105,110,116]
    ·cases bd:bD l (k+2) [115,116,114]
     ·cases b':bD l (k+2) [98,111,111,108]
      ·rw [aK,bd,b']at h;cases h
      ·rw [aK,bd,b']at h;simp only [auV,auW,Sum.inl.injEq]at h;rw [←h]
     ·rw [aK,bd]at h;simp only [auV,auW,Sum.inl.injEq]at h;rw [←h]
    ·rw [aK]at h;simp only [auV,Sum.inl.injEq]at h;rw [←h]
   have e1:=h_ l k Z.1;have e2:eL l (k+2)=_:=h_ l (k+1) (by omega)
   have e3:eL l (k+3)=_:=h_ l (k+2) bw;rw [hn];exact⟨bw,by omega⟩
 ·cases h
def acQ{l:List Token}{k e:Nat}(hk:k≤l.length)(h:o1 l k = .inr e):e≤l.length:=by
 unfold o1 at h;split at h
 ·rename_i Z;cases aa:bD l (k+1) [58]
  ·rw [aa]at h;simp only [auW,Sum.inr.injEq]at h;omega
  ·have:=gS aa
   rw [aa]at h;simp only [auV]at h;cases aK:bD l (k+2) [105,110,116]
   ·cases bd:bD l (k+2) [115,116,114]
    ·cases b':bD l (k+2) [98,111,111,108]
     ·rw [aK,bd,b']at h;simp only [auW,Sum.inr.injEq]at h;omega
     ·rw [aK,bd,b']at h;cases h
    ·rw [aK,bd]at h;cases h
   ·rw [aK]at h;cases h
 ·simp only [Sum.inr.injEq]at h;omega
section
variable {l:List Token}
theorem TG(n k:Nat)(ab:l.length≤1000000000)(hk:k≤l.length):z6 n ⟨l,(k:Int)⟩ =
 some (match o1 l k with|.inl p=>.ret p ((k+3:Nat):Int)|.inr e=>.aJ (m7 l e (iI l e 5)) (e:Int)):=by
 unfold z6 z1 o1;rw [AY n l k 1 ab hk];by_cases h:k<l.length∧(l.getD k default).Kind=1
 ·rw [if_pos h,if_pos h];generalize l.getD k default=t
  simp only [ak,aB.on];rw [n3 n l (k+1) _ (by omega) (by omega)]
  cases aa:bD l (k+1) [58]
  ·rfl
  ·have:=gS aa
   have hle:k+1+1≤4611686018427387904:=by omega
   simp only [auV,ak,aB.on,k6 n l (k+1+1) _ hle];cases aK:bD l (k+1+1) [105,110,116]
   ·simp only [auW,ak,k6 n l (k+1+1) _ hle];cases bd:bD l (k+1+1) [115,116,114]
    ·simp only [auW,ak,k6 n l (k+1+1) _ hle];cases b':bD l (k+1+1) [98,111,111,108]
     ·simp only [auW,ak,vb n l (k+1+1) 5 (by omega),aB.on]
     ·rfl
    ·rfl
   ·rfl
 ·rw [if_neg h,if_neg h];rfl
def A5(n:Nat)(l:List Token)(dc:Int→List Param→Option (List Param×Int×Int))(k:Nat)(acc:List Param):Option (List Param×Int×Int):=
 bif bD l k [41]then some (acc,((k+1:Nat):Int),0)else bif bD l k [44]then dc ((k+1:Nat):Int) acc else some ([],(k:Int),iI l k 5)
theorem TH{k:Nat}(h:k≤100000000000):room k 24=true:=by simp [room];omega
theorem acR(n k:Nat)(dc:Int→List Param→Option (List Param×Int×Int))(acc:List Param)(hn:3≤n)(ab:l.length≤1000000000)(hk:k≤l.length)(ha:acc.length≤1000000000):Kz n l dc (k:Int) acc =
 match o1 l k with|.inl p=>A5 n l dc (k+3) (acc++[p])|.inr e=>some ([],(e:Int),iI l e 5):=by
 unfold Kz Ky o1;rw [Lm n l k 1 ab hk];by_cases h:k<l.length∧(l.getD k default).Kind=1
 ·rw [if_pos h,if_pos h];generalize l.getD k default=t
  simp only [ak,auT,auX,auW];rw [rT l (k+1) _ (by omega) (by omega)]
  cases aa:bD l (k+1) [58]
  ·simp only [auW,ak,hZ l (k+1),auU,auY,auV]
  ·have:=gS aa
   simp only [auV,ak,auT,auX,auW,o0,AV,auZ,au0,TH (show acc.length+(0+1)≤100000000000 by omega),a6]
   have fin:∀ty:Int,(Option.bind (kZ n l (ava (((k+1+1:Nat):Int)+1)) [41]) λfi=>
    bif fi then some ((acc++[(⟨t.Text,ty⟩:Param)]),(ava ((ava (((k+1+1:Nat):Int)+1))+1)),0)
    else Option.bind (kD n l (ava (((k+1+1:Nat):Int)+1)) [[44]]) λr26=>
     bif (!decide (r26.2=0))then some (([]:List Param),r26.1,r26.2)else dc r26.1 (acc++[(⟨t.Text,ty⟩:Param)]))=A5 n l dc (k+3) (acc++[⟨t.Text,ty⟩]):=by
    intro ty;unfold A5;rw [c8 (by omega),c8 (by omega),o0,rT l (k+1+1+1) _ (by omega) (by omega)]
    simp only [ak];cases bD l (k+1+1+1) [41]
    ·simp only [auW];cases bD l (k+1+1+1) [44]
     ·simp only [auW,hZ l (k+1+1+1),auU,auY,auV]
     ·rfl
    ·rfl
   cases aK:bD l (k+1+1) [105,110,116]
   ·simp only [auW,ak];cases bd:bD l (k+1+1) [115,116,114]
    ·simp only [auW,ak];cases b':bD l (k+1+1) [98,111,111,108]
     ·rfl
     ·exact fin 3
    ·exact fin 2
   ·exact fin 1
 ·rw [if_neg h,if_neg h];simp only [ak,hZ l k,auU,auY,auV]
end
open Go Go.Ab Go.Proofs
def fU:List Param→Nat
 |[]=>0
 |p::l=>60+p.Name.length+fU l
def acS:∀l m:List Param,fU (l++m)=fU l+fU m
 |[],m=>by simp [fU]
 |t::l,m=>by rw [List.cons_append,fU,fU,acS l m];omega
def A6:∀l:List Param,60*l.length≤fU l
 |[]=>Nat.le_refl _
 |t::l=>by have:=A6 l;simp only [fU,auZ];omega
section
variable {l:List Token}
theorem an'(ab:gZ l≤1000000000)(n1 n2 i:Nat)(b:Int)(t:Token)(aa:3≤n2):
 ∀(m1 m2 k:Nat) (acc:List Param),l.length-k<m1→l.length-k<m2→i<k→k≤l.length→fU acc+eL l i≤eL l k→
 (∃bu k',uS n1 ⟨l,b⟩ t m1 (k:Int) acc=uR n1 ⟨l,b⟩ t ((k':Nat):Int) bu∧A5 n2 l (xr n2 l m2) k acc=some (bu,((k':Nat):Int),0)∧i<k'∧k'≤l.length∧fU bu+eL l i≤eL l k')∨
 (∃k' c z bu,uS n1 ⟨l,b⟩ t m1 (k:Int) acc=some (.aJ (m7 l k' c) z)∧A5 n2 l (xr n2 l m2) k acc=some (bu,((k':Nat):Int),c)∧c≠0∧k'≤l.length):=by
 have k7:=mK l;have jc:eL l l.length=gZ l:=by unfold eL;rw [List.take_length]
 intro m1;induction m1 with
 |zero=>intro m2 k acc h;omega
 |succ m1 aM=>
  intro m2 k acc acE E_ rn hk ha;obtain⟨m2,rfl⟩:∃j,m2=j+1:=⟨m2-1,by omega⟩
  have anM:=vc l k l.length hk;have A1:=A6 acc;unfold A5;simp only [uS,Jp,Jo,xr];rw [k6 n1 l k _ (by omega)]
  simp only [ak];cases acT:bD l k [44]
  ·simp only [auW];rw [n3 n1 l k _ (by omega) (by omega)]
   cases TI:bD l k [41]
   ·right
    exact⟨k,_,_,_,rfl,rfl,hZ l k,hk⟩
   ·have bw:=gS TI;have ji:=h_ l k bw;left
    exact⟨acc,k+1,rfl,rfl,by omega,by omega,by omega⟩
  ·have bw:=gS acT;have ji:=h_ l k bw;rw [Ff acT (w:=[41]) (by decide)]
   simp only [auV,auW];rw [TG n1 (k+1) (by omega) (by omega),acR n2 (k+1) _ acc aa (by omega) (by omega) (by omega)]
   cases hp:o1 l (k+1) with
   |inl p=>
    obtain⟨am,aK⟩:=acP hp;simp only [ak,aB.on,auZ,au0,TH (show acc.length+(0+1)≤100000000000 by omega),a6]
    exact aM m2 (k+1+3) (acc++[p]) (by omega) (by omega) (by omega) (by omega) (by rw [acS];simp only [fU];omega)
   |inr e=>
    have:=acQ (l:=l) (k:=k+1) (by omega) hp
    right
    exact⟨e,_,_,_,rfl,rfl,hZ l e,this⟩
def tu(p:bb):Nat:=p.Name.length+fU p.Params+dP p.Body
theorem acU(ab:gZ l≤1000000000)(hg:kF l){i k n1 n2:Nat}(b:Int)(t:Token)(bu:List Param)(rn:i<k)(hk:k≤l.length)(Z:60*l.length+300≤n1)(aa:60*l.length+300≤n2)(hw:t.Text.length+fU bu+eL l i≤eL l k):
 hN tu l i (uR n1 ⟨l,b⟩ t (k:Int) bu) (Option.bind (nd n2 l (k:Int) 0) λcd=>some ((⟨t.Text,bu,cd.1⟩:bb),cd.2.1,cd.2.2)):=by
 have k7:=mK l;unfold uR;have dg:=(TF ab hg (2*l.length+2)).1 k 0 n1 n2 hk (by omega) (by omega) (by omega) (by omega)
 refine ve (F:=λa b=>some (.ret (⟨t.Text,bu,a⟩:bb) b)) dg (λa k' ki fq jG=>?_) (λa k c hc=>⟨_,rfl⟩)
 refine Or.inl ⟨⟨t.Text,bu,a⟩,k',rfl,rfl,by omega,fq,?_⟩
 have jG:dP a+120+eL l k≤eL l k':=jG;simp only [tu];omega
theorem acV(ab:gZ l≤1000000000)(hg:kF l){i n1 n2:Nat}(hi:i≤l.length)(Z:60*l.length+300≤n1)(aa:60*l.length+300≤n2):
 hN tu l i (rH n1 ⟨l,(i:Int)⟩) (Ev n2 l (i:Int)):=by
 have k7:=mK l;have jc:eL l l.length=gZ l:=by unfold eL;rw [List.take_length]
 unfold rH Ev;refine AZ (by omega) hi (by omega) (λaD bw ji=>?_) (λk c hc=>⟨_,by simp only [hc,auU,auY,auV];rfl⟩)
 simp only [auT,auX,auW];refine Tt (by omega) (by omega) (λq6 AX=>?_) (λt k c hc=>⟨_,by simp only [hc,auU,auY,auV];rfl⟩)
 generalize l.getD (i+1) default=t at AX
 simp only [auT,auX,auW];refine AZ (by omega) (by omega) (by omega) (λacW anY Ts=>?_) (λk c hc=>⟨_,by simp only [hc,auU,auY,auV];rfl⟩)
 simp only [auT,auX,auW];generalize hj:i+1+1+1=j at Ts
 unfold aaw;rw [k6 n1 l j _ (by omega),o0,c8 (by omega)]
 simp only [ak];cases TI:bD l j [41]
 ·simp only [auY,auV,auW]
  have eV:xr n2 l n2=Kz n2 l (xr n2 l (n2-1)):=by
   obtain⟨m,rfl⟩:∃m,n2=m+1:=⟨n2-1,by omega⟩
   rfl
  rw [eV,TG n1 j (by omega) (by omega),acR n2 j _ [] (by omega) (by omega) (by omega) (by simp)]
  cases hp:o1 l j with
  |inl p=>
   obtain⟨am,aK⟩:=acP hp;simp only [ak,aB.on,auZ,au0,TH (show 0+(0+1)≤100000000000 by omega),a6,List.nil_append]
   have acX:fU [p]+eL l (i+1+1)≤eL l (j+3):=by
    have:=vc l (i+1+1) j (by omega)
    simp only [fU];omega
   rcases an' ab n1 n2 (i+1+1) (i:Int) t (by omega) n1 (n2-1) (j+3) [p] (by omega) (by omega) (by omega) (by omega) acX with⟨bu,k',e1,e2,ki,fq,jG⟩|⟨k',c,z,bu,e1,e2,hc,lm⟩
   ·rw [e1,e2];simp only [ak,auT,auX,auW];exact acU ab hg (i:Int) t bu (by omega) fq Z aa (by omega)
   ·rw [e1,e2];simp only [ak,hc,auU,auY,auV];exact Or.inr ⟨k',c,_,_,rfl,rfl,hc,lm⟩
  |inr e=>
   have:=acQ (l:=l) (k:=j) (by omega) hp
   simp only [ak,aB.on,hZ l e,auU,auY,auV];exact Or.inr ⟨e,_,_,_,rfl,rfl,hZ l e,this⟩
 ·have TE:=gS TI;have an0:=h_ l j TE;simp only [auX,auV,auW,ak,auT];exact acU ab hg (i:Int) t [] (by omega) (by omega) Z aa (by simp only [fU];omega)
end
open Go Go.Ab Go.Proofs
mutual
def g0:Expr→Int→Int
 |⟨Op,N,S,ax⟩,d=>if pM ⟨Op,N,S,ax⟩ d=0 then tv ax (ava (d+1))else pM ⟨Op,N,S,ax⟩ d
def tv:List Expr→Int→Int
 |[],d=>0
 |x::l,d=>if g0 x d=0 then tv l d else g0 x d
end
def acY(e:Expr)(d:Int):g0 e d=if pM e d=0 then tv e.ax (ava (d+1))else pM e d:=by cases e;rfl
def acZ:∀(n:Nat) (e:Expr) (d:Int),cM e≤n→cM e≤140737488351232→zn n e d=some (g0 e d)∧Ar n e d=some (g0 e d):=by
 intro n;induction n with
 |zero=>intro e d h;rw [tn]at h;omega
 |succ n aM=>
  intro e d h ab;have xJ:=tn e;have A1:=K7 e.ax;simp only [zn,Ar,O2,RI];rw [amB e d (by omega) (by omega),amC e d (by omega) (by omega) (by omega),acY]
  simp only [ak];by_cases h0:pM e d=0
  ·rw [if_pos h0];simp only [h0,auT,auX,auW]
   have iH:∀m i,e.ax.length<i+m→i≤e.ax.length→CS n (zn n) d e m (i:Int)=some (tv (e.ax.drop i) (ava (d+1)))∧Ef n (Ar n) d e m (i:Int)=some (tv (e.ax.drop i) (ava (d+1))):=by
    intro m;induction m with
    |zero=>intro i Z aa;omega
    |succ m mn=>
     intro i Z aa;simp only [CS,O1,O0,Ef,RH,RG];by_cases hi:i<e.ax.length
     ·have hg:=K8 e.ax i hi;obtain⟨ie,ja⟩:=aM (e.ax.getD i default) (ava (d+1)) (by omega) (by omega)
      obtain⟨an_,E'⟩:=mn (i+1) (by omega) (by omega)
      (rw [eZ e.ax i default hi,c8 (by omega)];simp only [au1];rw [ie,ja,an_,E'])
      simp only [hi,cC hi,au2,auT,auV,a6,ak,tv];by_cases ai:g0 (e.ax.getD i default) (ava (d+1))=0
      ·simp only [ai,auT,auX,auW,au8,and_self]
      ·simp only [ai,auU,auY,auV,au9,and_self]
     ·rw [gE e.ax i hi];simp only [hi,au2,auU,auW,tv,and_self]
   exact iH n 0 (by omega) (by omega)
  ·rw [if_neg h0];simp only [h0,auU,auY,auV,and_self]
def ac0{n:Nat}(e:Expr)(h:cM e≤n)(ab:cM e≤140737488351232):CT n e=some (g0 e 1):=by
 simp only [CT,(acZ n e 1 h ab).1,ak]
def ac1{n:Nat}(e:Expr)(h:cM e≤n)(ab:cM e≤140737488351232):Eg n e=some (g0 e 1):=by
 simp only [Eg,(acZ n e 1 h ab).2,ak]
def ni(e:Expr):Bool:=decide (e.Op=0)&&decide (e.N=0)&&decide (e.S=[])&&decide (e.ax.length=0)
def ac2(n:Nat)(e:Expr):zo n e=some (ni e):=by
 simp only [zo,ni,fk,fI]
def ac3(n:Nat)(e:Expr):tb n e=some (ni e):=by
 simp only [tb,ni,fk,fI]
def kj(op:Int):ls×Bool:=
 if op=1∨op=2 then(⟨true,true,false,false,false,false⟩,true)
 else if op=3 then(⟨false,true,true,false,false,false⟩,true)
 else if op=4∨op=7 then(⟨false,true,false,false,false,false⟩,true)
 else if op=5 then(⟨false,true,false,false,true,true⟩,true)
 else if op=6 then(⟨true,true,true,true,true,false⟩,true)
 else if op=8 then(⟨false,false,false,true,false,false⟩,true)
 else(⟨false,false,false,false,false,false⟩,false)
def aoa(n:Nat)(op:Int):H6 n op=some (kj op):=by
 by_cases h:1≤op∧op≤8
 ·obtain rfl|rfl|rfl|rfl|rfl|rfl|rfl|rfl:op=1∨op=2∨op=3∨op=4∨op=5∨op=6∨op=7∨op=8:=by omega
  all_goals rfl
 ·have e:kj op=(⟨false,false,false,false,false,false⟩,false):=by
   unfold kj;rw [if_neg (by omega),if_neg (by omega),if_neg (by omega),if_neg (by omega),if_neg (by omega),if_neg (by omega)]
  rw [e];simp only [H6,H5,H4,O3,show¬ op=1 by omega,show¬ op=2 by omega,show¬ op=3 by omega,show¬ op=4 by omega,show¬ op=5 by omega,show¬ op=6 by omega,show¬ op=7 by omega,show¬ op=8 by omega,auU,auW]
def aob(n:Nat)(op:Int)(h:1≤op∧op≤8):Eh n op=some ((kj op).1.name,(kj op).1.max,(kj op).1.a,(kj op).1.b,(kj op).1.body,(kj op).1.other):=by
 obtain rfl|rfl|rfl|rfl|rfl|rfl|rfl|rfl:op=1∨op=2∨op=3∨op=4∨op=5∨op=6∨op=7∨op=8:=by omega
 all_goals rfl
def aoc(n:Nat)(op:Int)(h:¬ (1≤op∧op≤8)):Eh n op=some (false,true,false,false,false,false):=by
 simp only [Eh,J4,J3,RJ,show¬ op=1 by omega,show¬ op=2 by omega,show¬ op=3 by omega,show¬ op=4 by omega,show¬ op=5 by omega,show¬ op=6 by omega,show¬ op=7 by omega,auU,auW]
def A7(s:Stmt)(u:ls):Bool:=
 (!u.name && !decide (s.Name=[]))||(!u.a && !ni s.A)||(!u.b && !ni s.B)||(!u.max && !decide (s.Max=0))||(!u.body&&decide (0<s.Body.length))||(!u.other&&decide (0<s.bM.length))
def rV(s:Stmt):Bool:=if s.Op=6 then decide (1≤s.Max)&&decide (s.Max≤16)else if s.Op=8 then decide (0≤s.Max)&&decide (s.Max≤999)else true
def kG(s:Stmt)(d:Int):Int:=
 if(kj s.Op).2=false∨A7 s (kj s.Op).1=true∨rV s=false then 1
 else if(kj s.Op).1.name=true∧hr s.Name=false then 7
 else if(kj s.Op).1.a=true∧g0 s.A 1≠0 then g0 s.A 1
 else if(kj s.Op).1.b=true∧g0 s.B 1≠0 then g0 s.B 1
 else if 12<d then 2 else 0
end Go.Ab.Y

/- The plain law: what the functions compute answers as the statement says. -/
import Derived.Lib.ItoaNum
import Derived.Test.YtcjbfnojhpfchaaGreatDoorCtrB
set_option linter.all false
namespace Go.Ab.Y
open Go Go.Ab Go.Proofs
def atF{h:Decidable True}:@decide True h=true:=_root_.decide_true h
def atG{h:Decidable False}:@decide False h=false:=_root_.decide_false h
def atN:(∀n:Nat,(n:Int).toNat=n)∧∀(α:Type)(_:Inhabited α)(l:List α)(n:Nat),atZ l n=l.getD n default:=⟨λ_=>rfl,λ_ _ _ _=>rfl⟩
def atH{α:Type}{a b:α}:cond true a b=a:=rfl
def atI{α:Type}{a b:α}:cond false a b=b:=rfl
def atJ:(!true)=false:=rfl
def atK:(!false)=true:=rfl
def atL{α:Type}{a:α}{l:List α}:(a::l).length=l.length+1:=rfl
def atM{α:Type}:([]:List α).length=0:=rfl
def atO{a b:Nat}:((a:Int)<b)↔a<b:=_root_.Int.ofNat_lt
def atP{α:Type}{a b:List α}:(a++b).length=a.length+b.length:=_root_.List.length_append
def atQ{α:Type}{a:α}:[a].length=1:=rfl
def atR{α:Type}{b:Bool}{x y:α}:cond b x y=if b then x else y:=_root_.Bool.cond_eq_ite b x y
def atS(a:Int):¬a<a:=_root_.Int.lt_irrefl a
def atT(a:Bool):(a||true)=true:=_root_.Bool.or_true a
def atU{α:Type}{a b:α}{h:Decidable True}:@ite α True h a b=a:=_root_.if_true a b
def atV{α:Type}{a b:α}{h:Decidable False}:@ite α False h a b=b:=_root_.if_false a b
def wr{x:Int}(Z : -9223372036854775808≤x)(aa:x≤9223372036854775807):atY x=x:=by(try unfold atY);rw [IntKind.wrap_i64];omega
def bv{i:Nat}(h:i≤4611686018427387904):atY ((i:Int)+1)=((i+1:Nat):Int):=by rw [wr]<;>omega
def bI{i n:Nat}(h:i<n):aJ (i:Int) n=true:=by simp [aJ];omega
def l8{n:Nat}(h:0<n):aJ 0 n=true:=by simp [aJ];omega
def xb{i n:Nat}(h:i≤n):hh (i:Int) n=true:=by simp [hh];omega
def E'{i j n:Nat}(h:i≤j)(aa:j≤n):lU (i:Int) (j:Int) n=true:=by simp [lU];omega
@[simp] def aL {α : Type} (x : Option α) : ax true x = x := rfl
def e8{α:Type}(l:List α)(i:Nat)(d:α)(h:i<l.length):l.drop i=l.getD i d::l.drop (i+1):=by
 rw [List.drop_eq_getElem_cons h];simp [List.getD,h]
def gu{α:Type}(l:List α)(i:Nat)(h:¬ i<l.length):l.drop i=[]:=List.drop_of_length_le (by omega)
def pg(a k:Nat):((a:Int)<(no_index (OfNat.ofNat k):Int))↔a<k:=Int.ofNat_lt
def jD(a k:Nat):((a:Int)≤(no_index (OfNat.ofNat k):Int))↔a≤k:=Int.ofNat_le
def eL(a k:Nat):((no_index (OfNat.ofNat k):Int)<(a:Int))↔k<a:=Int.ofNat_lt
def sZ(a k:Nat):((no_index (OfNat.ofNat k):Int)≤(a:Int))↔k≤a:=Int.ofNat_le
def fq(a k:Nat):((a:Int)=(no_index (OfNat.ofNat k):Int))↔a=k:=Int.ofNat_inj
def dt(a b:Bool):(bif a then true else b)=(a||b):=by cases a<;>rfl
def ef(a b:Bool):(bif a then b else false)=(a&&b):=by cases a<;>rfl
def al{α β:Type}(a:α)(f:α→Option β):Option.bind (some a) f=f a:=rfl
def okB(c:UInt8):Bool:=decide (32≤c.toNat)&&decide (c.toNat≤126)
def js(s:atW):Bool:=s.all okB&&decide (s.length≤64)
def AH(c:UInt8):(decide (c.toNat<32)||decide (126<c.toNat)) = !okB c:=by
 unfold okB;by_cases h:c.toNat<32
 ·simp [h]
 ·by_cases aa:c.toNat≤126
  ·simp [aa,show 32≤c.toNat by omega,h]
  ·simp [aa];omega
def ak2(n:Nat)(s:atW)(hs:s.length≤4611686018427387904):∀m i,s.length<i+m→i≤s.length→yL n s m (i:Int)=some ((s.drop i).all okB&&decide (s.length≤64)):=by
 intro m;induction m with
 |zero=>intro i h aa;omega
 |succ m aH=>
  intro i hm hi;simp only [yL,Pc,Pb];by_cases h:i<s.length
  ·rw [e8 s i 0 h,bv (by omega),aH (i+1) (by omega) (by omega)]
   simp only [h,bI h,atN,atO,atF,atH,aL,atT,List.all_cons,pg,eL,dt,AH];cases okB (s.getD i 0)<;>simp
  ·rw [gu s i h];simp [h,jD]
def aao{n:Nat}{s:atW}(h:s.length<n)(hs:s.length≤4611686018427387904):Pd n s=some (js s):=ak2 n s hs n 0 (by omega) (by omega)
def ak3(n:Nat)(s:atW)(hs:s.length≤4611686018427387904):∀m i,s.length<i+m→i≤s.length→D9 n s m (i:Int)=some ((s.drop i).all okB):=by
 intro m;induction m with
 |zero=>intro i h aa;omega
 |succ m aH=>
  intro i hm hi;simp only [D9,RJ,RI];by_cases h:i<s.length
  ·rw [e8 s i 0 h,bv (by omega),aH (i+1) (by omega) (by omega)]
   simp only [h,bI h,atN,atO,atF,atH,aL,atT,List.all_cons,pg,eL,dt,AH];cases okB (s.getD i 0)<;>simp
  ·rw [gu s i h];simp [h,jD]
def ak4{n:Nat}{s:atW}(h:s.length<n)(hs:s.length≤4611686018427387904):J1 n s=some (js s):=by
 unfold J1;rw [show(0:Int)=((0:Nat):Int)from rfl,ak3 n s hs n 0 (by omega) (by omega)]
 unfold js;simp only [List.drop_zero,eL];by_cases h:64<s.length
 ·simp [h]
 ·simp [h];omega
def ph:List atW:=[[112,114,111,99],[108,101,116],[112,117,116],[100,101,108,101,116,101],[105,102],[101,108,115,101],[102,111,114],[116,111],[109,97,120],[101,109,105,116],[97,98,111,114,116],[110,111,116],[97,110,100],[111,114],[105,110,116],[115,116,114],[98,111,111,108],[116,101,120,116],[108,101,110],[103,101,116,105,110,116],[103,101,116,115,116,114],[104,97,115],[110,111,119],[114,97,110,100,111,109],[110,111,100,101]]
def s0(s:atW):Bool:=decide (s∈ph)
def aap(n:Nat)(s:atW):CI n s=some (s0 s):=by
 unfold s0;by_cases h:s∈ph
 ·simp only [h,atF];simp only [ph,List.mem_cons,List.not_mem_nil,or_false]at h;rcases h with rfl|rfl|rfl|rfl|rfl|rfl|rfl|rfl|rfl|rfl|rfl|rfl|rfl|rfl|rfl|rfl|rfl|rfl|rfl|rfl|rfl|rfl|rfl|rfl|rfl<;>rfl
 ·simp only [h,atG];simp only [ph,List.mem_cons,List.not_mem_nil,or_false,not_or]at h;simp only [CI,il,OT,h,atG,atI]
def ak5(n:Nat)(l:List atW)(s:atW)(hs:l.length≤4611686018427387904):∀m i,l.length<i+m→i≤l.length→D3 n l s m (i:Int)=some (decide (s∈l.drop i)):=by
 intro m;induction m with
 |zero=>intro i h aa;omega
 |succ m aH=>
  intro i hm hi;simp only [D3,Rq,Rp];by_cases h:i<l.length
  ·rw [e8 l i default h,bv (by omega),aH (i+1) (by omega) (by omega)]
   simp only [h,bI h,atN,atO,atF,atH,aL,List.mem_cons];by_cases he:l.getD i default=s
   ·simp only [he,atF,atH,true_or]
   ·simp only [he,atG,atI,show¬ s=l.getD i default from λx=>he x.symm,false_or]
  ·rw [gu l i h];simp [h]
def ak6(n:Nat):Ro n=some ph:=rfl
def ak7{n:Nat}(l:List atW)(s:atW)(h:l.length<n)(hs:l.length≤4611686018427387904):Rr n l s=some (decide (s∈l)):=ak5 n l s hs n 0 (by omega) (by omega)
def aaq{n:Nat}(s:atW)(h:25<n):D4 n s=some (s0 s):=by
 unfold D4;simp only [ak6,al];rw [ak7 ph s (by show 25<_;omega) (by decide)]
 rfl
def lJ(c:UInt8):Bool:=decide (97≤c.toNat)&&decide (c.toNat≤122)
def S8(n:Nat)(c:UInt8):zY n ((c.toNat:Nat):Int)=some (lJ c):=by
 simp only [zY,ef,sZ,jD,lJ]
def ak8{x:Nat}(h:x<256):IntKind.i32.wrap (x:Int)=x:=by rw [IntKind.wrap_i32];omega
def aar(n:Nat)(c:UInt8):CJ n (IntKind.i32.wrap ((c.toNat:Nat):Int))=some (lJ c):=by
 rw [ak8 c.toNat_lt];simp only [CJ,ef,sZ,jD,lJ]
def aas(n:Nat)(c:UInt8):D5 n ((c.toNat:Nat):Int)=some (fP c):=by
 simp only [D5,S8,al,Rs,ef,dt,sZ,jD,fq];unfold fP lJ;by_cases h:97≤c.toNat∧c.toNat≤122
 ·simp [h.1,h.2]
 ·have:(decide (97≤c.toNat)&&decide (c.toNat≤122))=false:=by simpa using h
  rw [this];simp only [atK,atH,al,Bool.false_or,h,false_or,Bool.decide_or,Bool.decide_and]
def Ls(s:atW):hE s≤s.length:=by unfold hE;exact(List.takeWhile_prefix _).length_le
def uy(c:UInt8)(s:atW):hE (c::s)=bif fP c then hE s+1 else 0:=by
 unfold hE;cases h:fP c<;>simp [List.takeWhile,h]
def ak9(n:Nat)(s:atW)(hs:s.length≤4611686018427387904):∀m i,s.length<i+m→i≤s.length→D6 n s m (i:Int)=some (((i+hE (s.drop i):Nat):Int)):=by
 intro m;induction m with
 |zero=>intro i h aa;omega
 |succ m aH=>
  intro i hm hi;simp only [D6,Ru,Rt];by_cases h:i<s.length
  ·rw [e8 s i 0 h,bv (by omega),aH (i+1) (by omega) (by omega)]
   simp only [h,bI h,atN,atO,atF,atH,aL,atT,aas,al,uy];cases fP (s.getD i 0)
   ·rfl
   ·simp only [atH,Option.some.injEq];omega
  ·rw [gu s i h];simp [h,hE]
def aat{n:Nat}{s:atW}(i:Nat)(h:s.length<n)(hi:i≤s.length)(hs:s.length≤4611686018427387904):JX n s (i:Int)=some (((i+hE (s.drop i):Nat):Int)):=ak9 n s hs n i (by omega) hi
def gv(s:atW):Bool:=
 match s with
 |[]=>false
 |c::l=>decide (l.length≤15)&&lJ c&&decide (hE (c::l)=l.length+1) && !s0 (c::l)
def AI{n:Nat}(s:atW)(h:s.length<n)(aa:25<n)(hs:s.length≤4611686018427387904):sO n s=some (gv s):=by
 unfold sO;cases s with
 |nil=>rfl
 |cons c l=>
  simp only [aaq _ aa,ef,sZ,jD,atL,show 1≤l.length+1 by omega,atF,Bool.true_and,l8 (show 0<l.length+1 by omega),atT,aL,List.getD_cons_zero,S8]
  rw [show(0:Int)=((0:Nat):Int)from rfl,aat 0 h (by omega) hs]
  simp only [List.drop_zero,Nat.zero_add,gv,Int.ofNat_inj,show(l.length+1≤16)=(l.length≤15)by rw [eq_iff_iff];omega]
  cases decide (l.length≤15)<;>simp only [Bool.false_and,atI,al,Bool.true_and,atH]
  cases lJ c<;>simp only [Bool.false_and,atI,al,Bool.true_and,atH,Int.ofNat_inj]
  cases decide (hE (c::l)=l.length+1)<;>simp only [Bool.false_and,atI,al,Bool.true_and,atH]
def aau(n:Nat)(s:atW)(h:s.length≤140737488351232):yt n s=some ((hE s:Nat):Int):=by
 unfold yt;simp only [h,atF,aL]
def AJ(n:Nat)(s:atW)(h:s.length≤140737488351232):sA n s=some (gv s):=by
 unfold sA;cases s with
 |nil=>rfl
 |cons c l=>
  simp only [aap,ef,sZ,jD,atL,reduceCtorEq,atG,atK,Bool.true_and,l8 (show 0<l.length+1 by omega),atT,aL,List.getD_cons_zero,aar,aau _ _ h]
  simp only [gv,Int.ofNat_inj,show(l.length+1≤16)=(l.length≤15)by rw [eq_iff_iff];omega]
  cases decide (l.length≤15)<;>simp only [Bool.false_and,atI,al,Bool.true_and,atH]
  cases lJ c<;>simp only [Bool.false_and,atI,al,Bool.true_and,atH,Int.ofNat_inj]
  cases decide (hE (c::l)=l.length+1)<;>simp only [Bool.false_and,atI,al,Bool.true_and,atH]
def jE(op:Int):Int:=bif decide (op<1)||decide (27<op)then -1 else bif decide (op≤3)||decide (25≤op)then 0 else bif decide (op=9)||decide (op=18)||decide (20≤op)then 1 else 2
def ak'(n:Nat)(op:Int):HL n op=some (jE op):=by
 simp only [HL,jE,dt];cases decide (op<1)||decide (27<op)<;>simp only [atH,atI]
 cases decide (op≤3)||decide (25≤op)<;>simp only [atH,atI]
 cases decide (op=9)||decide (op=18)||decide (20≤op)<;>rfl
def ak_(n:Nat)(op:Int):D8 n op=some (jE op):=by
 by_cases h:1≤op∧op≤27
 ·obtain rfl|rfl|rfl|rfl|rfl|rfl|rfl|rfl|rfl|rfl|rfl|rfl|rfl|rfl|rfl|rfl|rfl|rfl|rfl|rfl|rfl|rfl|rfl|rfl|rfl|rfl|rfl:op=1∨op=2∨op=3∨op=4∨op=5∨op=6∨op=7∨op=8∨op=9∨op=10∨op=11∨op=12∨op=13∨op=14∨op=15∨op=16∨op=17∨op=18∨op=19∨op=20∨op=21∨op=22∨op=23∨op=24∨op=25∨op=26∨op=27:=by omega
  all_goals rfl
 ·have ha:jE op = -1:=by
   unfold jE;by_cases Z:op<1
   ·simp [Z]
   ·simp [show 27<op by omega]
  have hb:(decide (4≤op)&&decide (op≤19))=false:=by
   by_cases Z:4≤op
   ·simp [Z];omega
   ·simp [Z]
  simp only [D8,um,sR,RH,ef,hb,ha,show¬ op=1 by omega,show¬ op=2 by omega,show¬ op=3 by omega,show¬ op=25 by omega,show¬ op=26 by omega,show¬ op=27 by omega,show¬ op=9 by omega,show¬ op=18 by omega,show¬ op=20 by omega,show¬ op=21 by omega,show¬ op=22 by omega,show¬ op=23 by omega,show¬ op=24 by omega,atG,atI]
def pi(e:Expr)(depth:Int):Int:=
 if jE e.Op<0∨(e.Op≠1∧e.N≠0)∨(e.Op≠2∧e.Op≠3∧e.S≠[])then 1
 else if e.Op=3∧gv e.S=false then 7
 else if e.N<0∨(e.Op=2∧js e.S=false)∨(e.ar.length:Int)≠jE e.Op then 1
 else if 12<depth then 2 else 0
def ala{n:Nat}(e:Expr)(depth:Int)(h:e.S.length<n)(hs:e.S.length≤140737488351232):HM n e depth=some (pi e depth):=by
 obtain⟨Op,N,S,ar⟩:=e;simp only at h hs
 simp only [HM,ak',al,AJ _ _ hs,aao h (by omega),pi]
 by_cases Z:jE Op<0
 ·simp [Z]
 by_cases aa:Op=1
 ·subst aa;by_cases aT:S=[]
  ·by_cases bQ:N<0
   ·simp [Z,aT,bQ]
   ·by_cases cK:(ar.length:Int)=jE 1
    ·by_cases di:12<depth<;>simp [Z,aT,bQ,cK,di]
    ·simp [Z,aT,bQ,cK]
  ·simp [Z,aT]
 ·by_cases aj:N=0
  ·by_cases aC:Op=3
   ·subst aC;cases hn:gv S
    ·simp [Z,aj,hn]
    ·by_cases cK:(ar.length:Int)=jE 3
     ·by_cases di:12<depth<;>simp [Z,aj,hn,cK,di]
     ·simp [Z,aj,hn,cK]
   ·by_cases aT:Op=2
    ·subst aT;cases hn:js S
     ·simp [Z,aj,hn]
     ·by_cases cK:(ar.length:Int)=jE 2
      ·by_cases di:12<depth<;>simp [Z,aj,hn,cK,di]
      ·simp [Z,aj,hn,cK]
    ·by_cases bQ:S=[]
     ·by_cases cK:(ar.length:Int)=jE Op
      ·by_cases di:12<depth<;>simp [Z,aa,aj,aC,aT,bQ,cK,di]
      ·simp [Z,aa,aj,aC,aT,bQ,cK]
     ·simp [Z,aa,aj,aC,aT,bQ]
  ·simp [Z,aa,aj]
def alb{n:Nat}(e:Expr)(depth:Int)(h:e.S.length<n)(aa:25<n)(hs:e.S.length≤140737488351232):J2 n e depth=some (pi e depth):=by
 obtain⟨Op,N,S,ar⟩:=e;simp only at h hs
 simp only [J2,ak_,al,AI S h aa (by omega),ak4 h (by omega),pi]
 clear aa;by_cases Z:jE Op<0
 ·simp [Z]
 by_cases aa:Op=1
 ·subst aa;by_cases aT:S=[]
  ·by_cases bQ:N<0
   ·simp [Z,aT,bQ]
   ·by_cases cK:(ar.length:Int)=jE 1
    ·by_cases di:12<depth<;>simp [Z,aT,bQ,cK,di]
    ·simp [Z,aT,bQ,cK]
  ·simp [Z,aT]
 ·by_cases aj:N=0
  ·by_cases aC:Op=3
   ·subst aC;cases hn:gv S
    ·simp [Z,aj,hn]
    ·by_cases cK:(ar.length:Int)=jE 3
     ·by_cases di:12<depth<;>simp [Z,aj,hn,cK,di]
     ·simp [Z,aj,hn,cK]
   ·by_cases aT:Op=2
    ·subst aT;cases hn:js S
     ·simp [Z,aj,hn]
     ·by_cases cK:(ar.length:Int)=jE 2
      ·by_cases di:12<depth<;>simp [Z,aj,hn,cK,di]
      ·simp [Z,aj,hn,cK]
    ·by_cases bQ:S=[]
     ·by_cases cK:(ar.length:Int)=jE Op
      ·by_cases di:12<depth<;>simp [Z,aa,aj,aC,aT,bQ,cK,di]
      ·simp [Z,aa,aj,aC,aT,bQ,cK]
     ·simp [Z,aa,aj,aC,aT,bQ]
  ·simp [Z,aa,aj]
mutual
def dd:Expr→Nat
 |⟨_,_,S,ar⟩=>30+S.length+mx ar
def mx:List Expr→Nat
 |[]=>0
 |x::l=>dd x+1+mx l
end
def qi(e:Expr):dd e=30+e.S.length+mx e.ar:=by cases e;rfl
def E_:∀l:List Expr,l.length≤mx l
 |[]=>Nat.le_refl _
 |x::l=>by have:=E_ l;simp only [mx,atL];omega
def Fa:∀(l:List Expr) (i:Nat),i<l.length→dd (l.getD i default)<mx l
 |[],i,h=>by simp at h
 |x::l,0,h=>by simp only [mx,List.getD_cons_zero];omega
 |x::l,i+1,h=>by have:=Fa l i (by simpa using h);simp only [mx,List.getD_cons_succ];omega
def aav:∀(n:Nat) (e:Expr),dd e≤n→dd e≤140737488351232→wO n e e=some true:=by
 intro n;induction n with
 |zero=>intro e h;rw [qi]at h;omega
 |succ n aH=>
  intro e h ab;have uz:=qi e;have ru:=E_ e.ar;simp only [wO,QT,atF,atJ,atI]
  have gN:∀m i,e.ar.length<i+m→i≤e.ar.length→DT n (wO n) e e m (i:Int)=some true:=by
   intro m;induction m with
   |zero=>intro i Z aa;omega
   |succ m k8=>
    intro i Z aa;simp only [DT,QS,QR];by_cases hi:i<e.ar.length
    ·have hg:=Fa e.ar i hi;simp only [hi,bI hi,atN,atO,atF,atH,aL,aH (e.ar.getD i default) (by omega) (by omega),al,bv (show i≤4611686018427387904 by omega),atJ,atI]
     exact k8 (i+1) (by omega) (by omega)
    ·simp only [hi,atO,atG,atI]
  exact gN n 0 (by omega) (by omega)
open Go Go.Ab Go.Proofs
def ip(c:UInt8):Bool:=decide (48≤c.toNat)&&decide (c.toNat≤57)
def val(u:Nat)(l:atW):Nat:=l.foldl (λu c=>u*10+(c.toNat-48)) u
def Fb(u:Nat):val u []=u:=rfl
def Fc(u:Nat)(c:UInt8)(l:atW):val u (c::l)=val (u*10+(c.toNat-48)) l:=by unfold val;rw [List.foldl_cons]
def aaw(l:atW):∀(u:Nat),u≤val u l:=by
 induction l with
 |nil=>intro u;simp only [Fb,Nat.le_refl]
 |cons c l aH=>
  intro u;rw [Fc];have Z:u≤u*10+(c.toNat-48):=by omega
  exact Nat.le_trans Z (aH _)
def qj(c:UInt8):ip c=true↔48≤c.toNat∧c.toNat≤57:=by simp [ip]
def alc(l:atW):∀u,l.all ip=true→Lib.parseUintM 18446744073709551615 u l=(if val u l≤18446744073709551615 then .ok (val u l)else .range)∨18446744073709551615<u:=by
 induction l with
 |nil=>
  intro u _;by_cases h:u≤18446744073709551615
  ·left;rw [Fb,if_pos h];rfl
  ·right;omega
 |cons c l aH=>
  intro u h;simp only [List.all_cons,Bool.and_eq_true,qj]at h;left
  rw [Fc];simp only [Lib.parseUintM,h.1,and_self,atU];have hg:=aaw l (u*10+(c.toNat-48));have pj:=aH (u*10+(c.toNat-48)) h.2;generalize val (u*10+(c.toNat-48)) l=w at hg pj ⊢
  by_cases Z:1844674407370955162≤u
  ·rw [if_pos Z,if_neg (by omega)]
  ·rw [if_neg Z];by_cases aa:18446744073709551615<u*10+(c.toNat-48)
   ·rw [if_pos aa,if_neg (by omega)]
   ·rw [if_neg aa];rcases pj with aj|aj
    ·exact aj
    ·exact absurd aj aa
def nL(w:atW):Int×Int:=
 if w.all ip=true∧(w.head? ≠ some 48∨w.length=1) then
  if val 0 w≤9223372036854775807 then(((val 0 w:Nat):Int),0) else(0,3)
 else(0,5)
def aax(c:UInt8)(l:atW)(h:(c::l).all ip=true):CF (c::l)=if val 0 (c::l)≤9223372036854775807 then .inl (val 0 (c::l):Nat)else .inr 9223372036854775807:=by
 have hc:48≤c.toNat∧c.toNat≤57:=by
  simp only [List.all_cons,Bool.and_eq_true,qj]at h;exact h.1
 have Z:Lib.parseIntB 64 (c::l)=_:=Lib.parseIntB_plain 64 c l (by omega) (by omega)
 have aa:Lib.parseUintB 64 (c::l)=(if val 0 (c::l)≤18446744073709551615 then .ok (val 0 (c::l))else .range):=by
  unfold Lib.parseUintB;rw [if_neg (by simp)]
  rcases alc (c::l) 0 h with aj|aj
  ·exact aj
  ·omega
 have aC:Lib.intSat 64 (c::l)=9223372036854775807:=by rw [Lib.intSat_other 64 c l (by omega)];rfl
 rw [aa]at Z;unfold CF;rw [Z,aC];by_cases aT:val 0 (c::l)≤18446744073709551615
 ·rw [if_pos aT];by_cases bQ:val 0 (c::l)≤9223372036854775807
  ·rw [if_pos bQ];simp only [Lib.signlessC];rw [if_neg (by omega)]
  ·rw [if_neg bQ];simp only [Lib.signlessC];rw [if_pos (by omega)]
 ·rw [if_neg aT,if_neg (by omega)];rfl
def ald{c:UInt8}(h:48≤c.toNat∧c.toNat≤57):IntKind.u8.wrap (((c.toNat:Nat):Int)-48)=((c.toNat-48:Nat):Int):=by rw [IntKind.wrap_u8];omega
def aay{x:Nat}(h:x≤18446744073709551615):IntKind.u64.wrap (x:Int)=x:=by rw [IntKind.wrap_u64];omega
def ale{x:Nat}(h:x≤9223372036854775807):atY (x:Int)=x:=by(try unfold atY);rw [IntKind.wrap_i64];omega
def alf(n:Nat)(s:atW)(hs:s.length≤4611686018427387904)(hd:s.all ip=true)(h0:s.head? ≠ some 45):
 ∀(m i u:Nat),s.length<i+m→i≤s.length→u≤9223372036854775807→KY n s s 9223372036854775807 m (u:Int) (i:Int)=some (if val u (s.drop i)≤9223372036854775807 then(((val u (s.drop i):Nat):Int),(0:Int)) else(0,3)):=by
 intro m;induction m with
 |zero=>intro i u h aa;omega
 |succ m aH=>
  intro i u hm hi hu;simp only [KY,YG];by_cases h:i<s.length
  ·have hc:48≤(s.getD i 0).toNat∧(s.getD i 0).toNat≤57:=by
    rw [←qj];have:=List.all_eq_true.1 hd s[i] (List.getElem_mem h)
    simpa [List.getD,h]using this
   have ao:=aaw (s.drop (i+1)) (u*10+((s.getD i 0).toNat-48));rw [e8 s i 0 h,bv (by omega),Fc]
   simp only [h,bI h,atN,atO,atF,atH,aL,ald hc];rw [aay (show(s.getD i 0).toNat-48≤18446744073709551615 by omega)]
   have e1:IntKind.u64.wrap (9223372036854775807-(((s.getD i 0).toNat-48:Nat):Int))=((9223372036854775807-((s.getD i 0).toNat-48):Nat):Int):=by rw [IntKind.wrap_u64];omega
   have e2:IntKind.u64.wrap (Int.tdiv ((9223372036854775807-((s.getD i 0).toNat-48):Nat):Int) 10)=(((9223372036854775807-((s.getD i 0).toNat-48)) / 10:Nat):Int):=by
    rw [show(Int.tdiv ((9223372036854775807-((s.getD i 0).toNat-48):Nat):Int) 10)=(((9223372036854775807-((s.getD i 0).toNat-48)) / 10:Nat):Int)from rfl]
    exact aay (by omega)
   rw [e1,e2];simp only [atO];by_cases aj:(9223372036854775807-((s.getD i 0).toNat-48)) / 10<u
   ·simp only [aj,atF,atH];rw [if_neg (by omega)]
   ·simp only [aj,atG,atI]
    have e3:IntKind.u64.wrap (IntKind.u64.wrap ((u:Int)*10)+(((s.getD i 0).toNat-48:Nat):Int))=((u*10+((s.getD i 0).toNat-48):Nat):Int):=by
     rw [IntKind.wrap_u64,IntKind.wrap_u64];omega
    rw [e3];exact aH (i+1) _ (by omega) (by omega) (by omega)
  ·rw [gu s i h,Fb];simp only [h,atO,atG,atI,hu,atU,YF]
   have:(bif (decide (0<((s.length:Nat):Int))) then(decide ((((s.getD 0 0).toNat:Nat):Int)=45))else false)=false:=by
    cases s with
    |nil=>rfl
    |cons c l=>
     simp only [List.head?_cons,ne_eq,Option.some.injEq]at h0;simp only [List.getD_cons_zero,fq];have:¬ c.toNat=45:=λe=>h0 (UInt8.toNat_inj.1 e)
     simp [this]
   rw [this];simp only [atI,ale hu]
def alg(n:Nat)(s:atW)(hs:s.length≤4611686018427387904):∀m i,s.length<i+m→i≤s.length→Ev n s m (i:Int)=some ((s.drop i).all ip&&decide (0<s.length)&&(!decide (s.head? = some 48)||decide (s.length=1))):=by
 intro m;induction m with
 |zero=>intro i h aa;omega
 |succ m aH=>
  intro i hm hi;simp only [Ev,YD,YC];by_cases h:i<s.length
  ·rw [e8 s i 0 h,bv (by omega),aH (i+1) (by omega) (by omega)]
   simp only [h,bI h,atN,atO,atF,atH,aL,atT,List.all_cons,pg,eL,dt];cases hd:ip (s.getD i 0)
   ·have:(decide ((s.getD i 0).toNat<48)||decide (57<(s.getD i 0).toNat))=true:=by
     have:¬ (48≤(s.getD i 0).toNat∧(s.getD i 0).toNat≤57):=λx=>by rw [(qj _).2 x]at hd;cases hd
     by_cases Z:(s.getD i 0).toNat<48
     ·simp only [Z,atF,Bool.true_or]
     ·simp only [show 57<(s.getD i 0).toNat by omega,atF,atT]
    rw [this];rfl
   ·have Z:=(qj _).1 hd
    have:(decide ((s.getD i 0).toNat<48)||decide (57<(s.getD i 0).toNat))=false:=by
     simp only [show¬ (s.getD i 0).toNat<48 by omega,show¬ 57<(s.getD i 0).toNat by omega,atG,Bool.or_self]
    rw [this];simp only [atI,Bool.true_and]
  ·rw [gu s i h];cases s with
   |nil=>
    simp only [atM,atO,Nat.not_lt_zero,atG,atI];rfl
   |cons c l=>
    rw [atL]at h;simp only [h,atG,atI,atO,atL,eL,show 0<l.length+1 by omega,atF,atJ,Bool.false_or,l8 (show 0<l.length+1 by omega),aL,atH,List.getD_cons_zero,fq,List.all_nil,Bool.true_and,List.head?_cons,Option.some.injEq,dt]
    have:decide (c.toNat=48)=decide (c=48):=by
     rw [decide_eq_decide];exact⟨λe=>UInt8.toNat_inj.1 e,λe=>by subst e;rfl⟩
    rw [this]
def alh{n:Nat}(c:UInt8)(l:atW)(h:l.length+1<n)(hs:l.length+1≤4611686018427387904)(hc:c.toNat≠45):SA n (c::l)=some (nL (c::l)):=by
 unfold SA Sz YE;have hd:=alg n (c::l) hs n 0 (by simp only [atL];omega) (by omega)
 have S9:(bif (decide (0<(((c::l).length:Nat):Int))) then(decide (((((c::l).getD 0 0).toNat:Nat):Int)=45))else false)=false:=by
  simp only [List.getD_cons_zero,fq,hc,atG];cases decide (0<(((c::l).length:Nat):Int))<;>rfl
 have hd:Ev n (c::l) n 0=_:=hd;have hin:(!(decide ((0:Int)<(((c::l).length:Nat):Int)))||aJ 0 (c::l).length)=true:=by rw [l8 (show 0<(c::l).length by simp)];simp only [atT]
 rw [S9,hd,hin];simp only [atK,atL,l8 (show 0<l.length+1 by omega),atT,aL,atI,al,List.drop_zero,show(0<l.length+1)=True by simp,atF,Bool.and_true]
 unfold nL;by_cases Z:(c::l).all ip=true∧((c::l).head? ≠ some 48∨(c::l).length=1)
 ·rw [if_pos Z]
  have:((c::l).all ip&&(!decide ((c::l).head? = some 48)||decide (l.length+1=1)))=true:=by
   rw [Z.1];rcases Z.2 with aa|aa
   ·simp only [aa,atG,atK,Bool.true_or,Bool.and_self]
   ·simp only [show l.length+1=1 from aa,atF,atT,Bool.and_self]
  rw [this]
  have bm:(c::l).head? ≠ some 45:=by
   intro e;simp only [List.head?_cons,Option.some.injEq]at e;subst e;exact hc rfl
  have:=alf n (c::l) hs Z.1 bm n 0 0 (by simp only [atL];omega) (by omega) (by omega)
  simpa using this
 ·rw [if_neg Z]
  have:((c::l).all ip&&(!decide ((c::l).head? = some 48)||decide (l.length+1=1)))=false:=by
   cases aa:(c::l).all ip
   ·rfl
   ·by_cases aj:(c::l).head? = some 48
    ·by_cases aC:l.length+1=1
     ·exact absurd ⟨aa,Or.inr aC⟩ Z
     ·simp only [aj,aC,atF,atG,atJ,Bool.or_self,Bool.and_false]
    ·exact absurd ⟨aa,Or.inl aj⟩ Z
  rw [this];rfl
open Go Go.Ab Go.Proofs
def dl(l:atW):Nat:=(l.takeWhile ip).length
def S'(c:UInt8)(l:atW):dl (c::l)=bif ip c then dl l+1 else 0:=by
 unfold dl;cases h:ip c<;>simp [List.takeWhile,h]
def ali(l:atW):dl l≤l.length:=by unfold dl;exact(List.takeWhile_prefix _).length_le
def aaz(l:atW):dl l=l.length↔l.all ip=true:=by
 induction l with
 |nil=>simp [dl]
 |cons c l aH=>
  rw [S'];cases h:ip c
  ·simp [h]
  ·simp [h,aH]
def alj(n:Nat)(s:atW)(b:Bool)(hs:s.length≤4611686018427387904):∀m i,s.length<i+m→i≤s.length→zn n s s b m (i:Int)=Dz n s s b ((i+dl (s.drop i):Nat):Int):=by
 intro m;induction m with
 |zero=>intro i h aa;omega
 |succ m aH=>
  intro i hm hi;simp only [zn,Qf];by_cases h:i<s.length
  ·rw [e8 s i 0 h,bv (by omega),aH (i+1) (by omega) (by omega),S']
   simp only [h,bI h,atN,atO,atF,atH,aL,sZ,jD,ef];rw [show(decide (48≤(s.getD i 0).toNat)&&decide ((s.getD i 0).toNat≤57))=ip (s.getD i 0)from rfl]
   cases ip (s.getD i 0)
   ·rfl
   ·simp only [atH];rw [show i+1+dl (s.drop (i+1))=i+(dl (s.drop (i+1))+1)by omega]
  ·rw [gu s i h];simp only [h,atO,atG,atI];rfl
def alk{n:Nat}{s:atW}(h:s.length≤281474976710656):yu n s 10 64=some (CF s):=by
 unfold yu;rw [decide_eq_true (show(10:Int)=10∧(64:Int)=64∧s.length≤281474976710656 from⟨rfl,rfl,h⟩)]
 rfl
def alm{n:Nat}(c:UInt8)(l:atW)(h:l.length+1<n)(hs:l.length+1≤140737488351232)(hc:ip c=true):IU n (c::l)=some (nL (c::l)):=by
 have lX:=(qj c).1 hc;have dh:¬ c.toNat=45:=by omega
 unfold IU IT
 have S9:(bif (decide (0<(((c::l).length:Nat):Int))) then(decide (((((c::l).getD 0 0).toNat:Nat):Int)=45))else false)=false:=by
  simp only [List.getD_cons_zero,fq,dh,atG];cases decide (0<(((c::l).length:Nat):Int))<;>rfl
 have hin:(!(decide ((0:Int)<(((c::l).length:Nat):Int)))||aJ 0 (c::l).length)=true:=by rw [l8 (show 0<(c::l).length by simp)];simp only [atT]
 have gN:=alj n (c::l) false (by simp only [atL];omega) n 0 (by simp only [atL];omega) (by omega)
 have gN:zn n (c::l) (c::l) false n 0=_:=gN;rw [S9,hin,gN];simp only [aL,atI,List.drop_zero,Nat.zero_add];have Z:1≤dl (c::l):=by rw [S',hc];simp
 have hlen:(c::l).length=l.length+1:=rfl;have hle:=ali (c::l);unfold Dz;simp only [l8 (show 0<(c::l).length by simp),atT,aL,fq,show¬ dl (c::l)=0 by omega,atG,atI,atO,List.getD_cons_zero,eL,dt]
 unfold nL;by_cases ha:(c::l).all ip=true
 ·have hd:=(aaz _).2 ha;simp only [hd,Nat.lt_irrefl,atG,Bool.false_or,ha,true_and];by_cases S_:c=48
  ·subst S_;by_cases fk:l=[]
   ·subst fk;simp only [List.head?_cons,atL,atM];rw [if_pos (by simp)]
    simp only [yu,aax _ _ ha];rw [if_pos (by decide)]
    rfl
   ·have:1<((48::l:atW)).length:=by
     cases l with
     |nil=>exact absurd rfl fk
     |cons _ _=>simp
    simp only [this,atF,atH];rw [if_neg (by simp [fk])]
    rfl
  ·have aln:¬ c.toNat=48:=λe=>S_ (UInt8.toNat_inj.1 e)
   simp only [aln,atG,atI];rw [if_pos (show(c::l).head? ≠ some 48∨(c::l).length=1 from Or.inl (by simpa using S_))]
   rw [alk (by simp only [atL];omega),aax _ _ ha]
   by_cases aw:val 0 (c::l)≤9223372036854775807
   ·rw [if_pos aw,if_pos aw];rfl
   ·rw [if_neg aw,if_neg aw];rfl
 ·have hd:dl (c::l)<(c::l).length:=by
   have:¬ dl (c::l)=(c::l).length:=λe=>ha ((aaz _).1 e)
   omega
  simp only [hd,atF,Bool.true_or,atH];rw [if_neg (λx=>ha x.1)]
def k9(w:atW):Token×Int:=
 match w with
 |[]=>(⟨0,[],0,0⟩,0)
 |c::_=>
  if lJ c=true then
   if s0 w=true then(⟨2,w,0,0⟩,0)else if gv w=true then(⟨1,w,0,0⟩,0) else(⟨0,[],0,0⟩,2)
  else if(nL w).2=0 then(⟨3,[],(nL w).1,0⟩,0) else(⟨0,[],0,0⟩,(nL w).2)
def alo{n:Nat}(c:UInt8)(l:atW)(h:l.length+1<n)(hs:l.length+1≤140737488351232)(hw:fP c=true):IV n (c::l)=some (k9 (c::l)):=by
 unfold IV k9;simp only [l8 (show 0<(c::l).length by simp),aL,List.getD_cons_zero,fq,aar,al,aap,AJ _ _ (show(c::l).length≤140737488351232 from hs)]
 by_cases Z:c.toNat=95
 ·have e:c=95:=UInt8.toNat_inj.1 Z;subst e
  have alp:nL (95::l)=(0,5):=by
   unfold nL;rw [if_neg (by simp [show ip 95=false from rfl])]
  simp only [Z,atF,atH];rw [if_neg (by decide),alp]
  rfl
 ·simp only [Z,atG,atI];cases ab:lJ c
  ·have hd:ip c=true:=by
    unfold fP at hw;have hw:=of_decide_eq_true hw;unfold lJ at ab;rw [qj];simp only [Bool.and_eq_false_iff,decide_eq_false_iff_not]at ab;omega
   simp only [atI,alm c l h hs hd,al,Bool.false_eq_true,atV];by_cases aT:(nL (c::l)).2=0
   ·simp only [aT,atF,atJ,atI,atU]
   ·simp only [aT,atG,atK,atH,atV]
  ·simp only [atH,atU];cases s0 (c::l)
   ·cases gv (c::l)<;>rfl
   ·rfl
def alq{n:Nat}(c:UInt8)(l:atW)(h:l.length+1<n)(aa:25<n)(hs:l.length+1≤140737488351232)(hw:fP c=true):SB n (c::l)=some (k9 (c::l)):=by
 unfold SB k9
 have hc:c.toNat≠45:=by
  unfold fP at hw;have hw:=of_decide_eq_true hw;omega
 simp only [l8 (show 0<(c::l).length by simp),aL,List.getD_cons_zero,fq,S8,al,aaq _ aa,AI (c::l) h aa (show(c::l).length≤4611686018427387904 by simp only [atL];omega),alh c l h (by omega) hc]
 cases ab:lJ c
 ·simp only [atI,al,Bool.false_eq_true,atV];by_cases aT:(nL (c::l)).2=0
  ·simp only [aT,atF,atJ,atI,atU]
  ·simp only [aT,atG,atK,atH,atV]
 ·simp only [atH,atU];cases s0 (c::l)
  ·cases gv (c::l)<;>rfl
  ·rfl
open Go Go.Ab Go.Proofs
def up(k:Nat):Int ⊕ (atW×Nat)→Int ⊕ (atW×Nat)
 |.inl e=>.inl e
 |.inr p=>.inr (p.1,p.2+k)
def gw:atW→atW→Int ⊕ (atW×Nat)
 |[],acc=>.inl 6
 |[c],acc=>if c.toNat=34 then .inr (acc,1)else if c.toNat=92 then .inl 6 else if okB c=false then .inl 5 else if acc.length=64 then .inl 2 else .inl 6
 |c::d::l,acc=>
  if c.toNat=34 then .inr (acc,1)
  else if c.toNat=92 then
   if d.toNat≠34∧d.toNat≠92 then .inl 5 else if acc.length=64 then .inl 2 else up 2 (gw l (acc++[d]))
  else if okB c=false then .inl 5
  else if acc.length=64 then .inl 2
  else up 1 (gw (d::l) (acc++[c]))
def fR(l:atW):List Int:=l.map λc=>((c.toNat:Nat):Int)
def Ta(l:atW):jR (fR l)=l:=by
 unfold jR fR;rw [List.map_map]
 conv=>rhs;rw [←List.map_id l]
 refine List.map_congr_left λc _=>?_
 simp
def Tb(l:atW):nv (fR l)=true:=by
 unfold nv fR;rw [List.all_eq_true];intro x hx;obtain⟨c,_,rfl⟩:=List.mem_map.1 hx;have:=c.toNat_lt
 simp only [Bool.and_eq_true,decide_eq_true_eq];omega
def Lt(l:atW):(fR l).length=l.length:=by simp [fR]
def Tc(l:atW)(c:UInt8):fR l++[((c.toNat:Nat):Int)]=fR (l++[c]):=by simp [fR]
def xc(z:Int)(i:Nat):Int ⊕ (atW×Nat)→atW×Int×Int
 |.inl e=>([],z,e)
 |.inr p=>(p.1,((i+p.2:Nat):Int),0)
def Lu(z:Int)(i k:Nat)(r:Int ⊕ (atW×Nat)):xc z i (up k r)=xc z (i+k) r:=by
 cases r with
 |inl e=>rfl
 |inr p=>simp only [up,xc];rw [show i+(p.2+k)=i+k+p.2 by omega]
def aaA{k:Nat}(h:k≤65):room k 1=true:=by simp [room];omega
def AK(c:UInt8)(l acc:atW)(h:c.toNat≠92):gw (c::l) acc=if c.toNat=34 then .inr (acc,1)else if okB c=false then .inl 5 else if acc.length=64 then .inl 2 else up 1 (gw l (acc++[c])):=by
 cases l with
 |nil=>
  simp only [gw];by_cases Z:c.toNat=34
  ·simp only [Z,atU]
  ·simp only [Z,h,atV,up]
 |cons d l =>
  simp only [gw];by_cases Z:c.toNat=34
  ·simp only [Z,atU]
  ·simp only [Z,h,atV]
def alr{d:UInt8}(h:¬ (d.toNat≠34∧d.toNat≠92)):okB d=true:=by
 unfold okB;simp only [Bool.and_eq_true,decide_eq_true_eq];omega
def aaB(p:Prop)[Decidable p]:(!decide p)=decide (¬ p):=by by_cases h:p<;>simp [h]
def als(n:Nat)(s:atW)(hs:s.length≤4611686018427387904):∀(m i:Nat) (acc:atW),s.length<i+m→i≤s.length→acc.length≤64→
 zm n s m (fR acc) (i:Int)=some (xc 0 i (gw (s.drop i) acc)):=by
 intro m;induction m with
 |zero=>intro i acc h aa;omega
 |succ m aH=>
  intro i acc hm hi ha;simp only [zm,Qc,IR,Qb,IQ];by_cases h:i<s.length
  ·rw [e8 s i 0 h,bv (by omega)]
   simp only [h,bI h,atN,atO,Int.ofNat_inj,atF,atH,aL,pg,eL,fq,dt,AH,Lt];generalize hc:s.getD i 0=c
   by_cases gZ:c.toNat=34
   ·simp only [gZ,atF,atH,Tb,aL,Ta];rw [AK c _ _ (by omega),if_pos gZ]
    rfl
   ·by_cases nM:c.toNat=92
    ·simp only [nM,atF,atH,show¬ (92=34)by omega,atG,atI]
     by_cases l9:i+1=s.length
     ·simp only [l9,atF,atH];rw [gu s s.length (by omega)]
      simp only [gw,gZ,atV,nM,atU];rfl
     ·have cM:i+1<s.length:=by omega
      rw [e8 s (i+1) 0 cM,bv (by omega)]
      simp only [l9,atG,atI,bI cM,aL];generalize s.getD (i+1) 0=d
      simp only [gw,gZ,atV,nM,atU,ef,aaB,show¬ (92=34)by omega]
      by_cases hd:d.toNat≠34∧d.toNat≠92
      ·rw [if_pos hd];simp only [hd.1,hd.2,atF,not_false_eq_true,Bool.and_self,atH];rfl
      ·rw [if_neg hd];have:(decide (¬ d.toNat=34)&&decide (¬ d.toNat=92))=false:=by rw [←Bool.decide_and];exact decide_eq_false hd
       simp only [this,atI,alr hd,atJ];by_cases qk:acc.length=64
       ·simp only [qk,atF,atH,atU];rfl
       ·simp only [qk,atG,atI,atV,atL,atM,aaA (show acc.length+(0+1)≤65 by omega),aL,Tc]
        rw [aH (i+1+1) (acc++[d]) (by omega) (by omega) (by simp only [atP,atL,atM];omega),Lu]
    ·simp only [gZ,nM,atG,atI];rw [AK c _ _ nM,if_neg gZ];cases cE:okB c
     ·simp only [atK,atH,atU];rfl
     ·simp only [atJ,atI,atV,Bool.true_eq_false];by_cases qk:acc.length=64
      ·simp only [qk,atF,atH,atU];rfl
      ·simp only [qk,atG,atI,atV,atL,atM,aaA (show acc.length+(0+1)≤65 by omega),aL,Tc]
       rw [aH (i+1) (acc++[c]) (by omega) (by omega) (by simp only [atP,atL,atM];omega),Lu]
  ·rw [gu s i h];simp only [h,atO,atG,atI];rfl
def Td{k:Nat}(h:k≤9223372036854775807):b0 k=true:=by simp [b0];omega
def aaC(s:atW)(i:Nat)(h:i<s.length):(s.take (i+1)).drop i=[s.getD i 0]:=by
 rw [e8 (s.take (i+1)) i 0 (by simp;omega),gu _ _ (by simp;omega)]
 simp [List.getD,h]
def alt(n:Nat)(s:atW)(hs:s.length≤4611686018427387904):∀(m i:Nat) (acc:atW),s.length<i+m→i≤s.length→acc.length≤64→
 ∃z,KZ n s m (i:Int) acc=some (xc z i (gw (s.drop i) acc)):=by
 intro m;induction m with
 |zero=>intro i acc h aa;omega
 |succ m aH=>
  intro i acc hm hi ha;simp only [KZ,YI,SC,YH];by_cases h:i<s.length
  ·rw [e8 s i 0 h,bv (by omega)]
   simp only [h,bI h,atN,atO,Int.ofNat_inj,atF,atH,aL,pg,eL,fq,dt,AH,Lt,E' (Nat.le_succ i) h,aaC s i h];generalize hc:s.getD i 0=c
   by_cases gZ:c.toNat=34
   ·simp only [gZ,atF,atH];rw [AK c _ _ (by omega),if_pos gZ]
    exact⟨0,rfl⟩
   ·by_cases nM:c.toNat=92
    ·simp only [nM,atF,atH,show¬ (92=34)by omega,atG,atI]
     by_cases l9:i+1=s.length
     ·simp only [l9,atF,atH];rw [gu s s.length (by omega)]
      simp only [gw,gZ,atV,nM,atU];exact⟨_,rfl⟩
     ·have cM:i+1<s.length:=by omega
      rw [e8 s (i+1) 0 cM,bv (by omega)]
      simp only [l9,atG,atI,bI cM,aL,atT,atN,aaC s (i+1) cM,E' (Nat.le_succ (i+1)) cM];generalize s.getD (i+1) 0=d
      simp only [gw,gZ,atV,nM,atU,ef,aaB,show¬ (92=34)by omega]
      by_cases hd:d.toNat≠34∧d.toNat≠92
      ·rw [if_pos hd];simp only [hd.1,hd.2,atF,not_false_eq_true,Bool.and_self,atH];exact⟨_,rfl⟩
      ·rw [if_neg hd];have:(decide (¬ d.toNat=34)&&decide (¬ d.toNat=92))=false:=by rw [←Bool.decide_and];exact decide_eq_false hd
       simp only [this,atI];by_cases qk:acc.length=64
       ·simp only [qk,atF,atH,atU];exact⟨_,rfl⟩
       ·simp only [qk,atG,atI,atV,atL,atM,Td (show acc.length+(0+1)≤9223372036854775807 by omega),aL]
        obtain⟨z,dw⟩:=aH (i+1+1) (acc++[d]) (by omega) (by omega) (by simp only [atP,atL,atM];omega)
        exact⟨z,by rw [dw,Lu]⟩
    ·simp only [gZ,nM,atG,atI];rw [AK c _ _ nM,if_neg gZ];cases cE:okB c
     ·simp only [atK,atH,atU];exact⟨_,rfl⟩
     ·simp only [atJ,atI,atV,Bool.true_eq_false];by_cases qk:acc.length=64
      ·simp only [qk,atF,atH,atU];exact⟨_,rfl⟩
      ·simp only [qk,atG,atI,atV,atL,atM,Td (show acc.length+(0+1)≤9223372036854775807 by omega),aL]
       obtain⟨z,dw⟩:=aH (i+1) (acc++[c]) (by omega) (by omega) (by simp only [atP,atL,atM];omega)
       exact⟨z,by rw [dw,Lu]⟩
  ·rw [gu s i h];simp only [h,atO,atG,atI];exact⟨_,rfl⟩
open Go Go.Ab Go.Proofs
def two:List atW:=[[61,61],[33,61],[60,61],[62,61],[43,43]]
def pk:atW:=[40,41,123,125,44,59,58,61,60,62,43,45,42,47,37]
def marks:List atW:=two++pk.map λc=>[c]
def kN(l w:atW):Bool:=decide (w.length≤l.length∧l.take w.length=w)
def lK(l:atW):atW:=(marks.find? (kN l)).getD []
def find_eq{α β:Type}[DecidableEq β](x:β)(p:α→Bool)(f:α→β)(L:List α)(h:∀w,w∈L→p w=decide (x=f w))(aW:∀v w,v∈L→w∈L→f v=f w→v=w):
 (∃v,v∈L∧x=f v∧L.find? p=some v)∨((∀v,v∈L→x≠f v)∧L.find? p=none):=by
 cases ao:L.find? p with
 |none=>
  right
  rw [List.find?_eq_none]at ao;refine⟨λv aw e=>ao v aw ?_,rfl⟩
  rw [h v aw];exact decide_eq_true e
 |some v=>
  left
  have aw:=List.mem_of_find?_eq_some ao;have:=List.find?_some ao
  rw [h v aw]at this;exact⟨v,aw,of_decide_eq_true this,rfl⟩
def alu(a c:UInt8)(t:atW):kN (a::t) [c]=decide (a=c):=by
 unfold kN;rw [decide_eq_decide];simp
def alv(a b:UInt8)(t:atW)(w:atW)(h:w∈two):kN (a::b::t) w=decide ([a,b]=w):=by
 have:w.length=2:=by
  simp only [two,List.mem_cons,List.not_mem_nil,or_false]at h;rcases h with rfl|rfl|rfl|rfl|rfl<;>rfl
 unfold kN;rw [decide_eq_decide,this];simp
def alw(a:UInt8)(w:atW)(h:w∈two):kN [a] w=false:=by
 have:w.length=2:=by
  simp only [two,List.mem_cons,List.not_mem_nil,or_false]at h;rcases h with rfl|rfl|rfl|rfl|rfl<;>rfl
 unfold kN;rw [this];simp
def aaD(a:UInt8)(t:atW):((pk.map λc=>[c]).find? (kN (a::t))).getD []=if a∈pk then[a] else[]:=by
 rw [List.find?_map];have Z:((λw=>kN (a::t) w)∘λc=>[c])=λc=>decide (a=c):=by funext c;exact alu a c t
 have Z:(kN (a::t)∘λc=>[c])=λc=>decide (a=c):=Z
 rw [Z];rcases find_eq a (λc=>decide (a=c)) (λc=>c) pk (λ_ _=>rfl) (λ_ _ _ _ e=>e) with⟨v,aw,rfl,aa⟩|⟨hn,aa⟩
 ·rw [aa,if_pos aw];rfl
 ·rw [aa,if_neg λhm=>hn a hm rfl];rfl
def Te(a b:UInt8)(t:atW):lK (a::b::t)=if[a,b]∈two then[a,b]else if a∈pk then[a] else[]:=by
 unfold lK marks;rw [List.find?_append];rcases find_eq [a,b] (kN (a::b::t)) (λc=>c) two (λw hw=>alv a b t w hw) (λ_ _ _ _ e=>e) with⟨v,aw,rfl,aa⟩|⟨hn,aa⟩
 ·rw [aa,if_pos aw];rfl
 ·rw [aa,if_neg λhm=>hn _ hm rfl]
  exact aaD a (b::t)
def aaE(a:UInt8):lK [a]=if a∈pk then[a] else[]:=by
 unfold lK marks;rw [List.find?_append]
 have:two.find? (kN [a])=none:=by
  rw [List.find?_eq_none];intro w hw;rw [alw a w hw];exact Bool.false_ne_true
 rw [this];exact aaD a []
def aaF(a:UInt8):∀l:atW,Lib.indexByte l a = -1∧a∉l∨0≤Lib.indexByte l a∧a∈l
 |[]=>Or.inl ⟨rfl,by simp⟩
 |b::l=>by
  unfold Lib.indexByte;by_cases h:b=a
  ·subst h;right;simp
  ·have cM:(b == a)=false:=by simp [h]
   rw [cM];simp only [Bool.false_eq_true,atV];rcases aaF a l with⟨Z,aa⟩|⟨Z,aa⟩
   ·left
    rw [Z];refine⟨rfl,?_⟩
    simp only [List.mem_cons,not_or];exact⟨λe=>h e.symm,aa⟩
   ·right
    have:(Lib.indexByte l a == -1)=false:=by
     simp only [beq_eq_false_iff_ne,ne_eq];omega
    rw [this];simp only [Bool.false_eq_true,atV];exact⟨by omega,List.mem_cons_of_mem _ aa⟩
def alx(a:UInt8):(((a.toNat:Nat):Int)).toNat.toUInt8=a:=by
 (simp only [atN]);exact UInt8.ofNat_toNat
def aaG(n:Nat)(a:UInt8)(t:atW):Dy n (a::t)=some (if a∈pk then[a] else[]):=by
 unfold Dy Qe Hn;simp only [reduceCtorEq,atG,atK,l8 (show 0<(a::t).length by simp),atT,aL,atH,al,List.getD_cons_zero,alx]
 rw [show([40,41,123,125,44,59,58,61,60,62,43,45,42,47,37]:atW)=pk from rfl]
 rcases aaF a pk with⟨Z,aa⟩|⟨Z,aa⟩
 ·rw [Z,if_neg aa];rfl
 ·rw [if_pos aa];have hu:hh 1 (a::t).length=true:=xb (i:=1) (show 1≤(a::t).length by simp)
  simp only [Z,atF,atH,hu,aL,List.take_succ_cons,List.take_zero]
def aly(n:Nat)(a:UInt8)(t:atW):IS n (a::t)=some (lK (a::t)):=by
 unfold IS;cases t with
 |nil=>
  rw [aaE];exact aaG n a []
 |cons b t=>
  rw [Te];have aa:decide ((2:Int)≤(((a::b::t).length:Nat):Int))=true:=decide_eq_true (by simp only [atL];omega)
  have hu:hh 2 (a::b::t).length=true:=xb (i:=2) (show 2≤(a::b::t).length by simp)
  simp only [aa,atH,hu,aL,wC,aaG];rw [show(a::b::t).take 2=[a,b]from rfl]
  generalize [a,b]=w
  by_cases h:w∈two
  ·rw [if_pos h];simp only [two,List.mem_cons,List.not_mem_nil,or_false]at h;rcases h with rfl|rfl|rfl|rfl|rfl<;>rfl
  ·rw [if_neg h];simp only [two,List.mem_cons,List.not_mem_nil,or_false,not_or]at h;simp only [h,atG,atI]
def alz(n:Nat):YB n=some marks:=rfl
def Tf(w:atW)(h:w∈marks):1≤w.length∧w.length≤2:=by
 have:∀w,w∈marks→decide (1≤w.length∧w.length≤2)=true:=by decide
 exact of_decide_eq_true (this w h)
def alA(i:Nat):Option atW→Token×Int×Int
 |none=>(⟨0,[],0,0⟩,(i:Int),5)
 |some w=>(⟨5,w,0,0⟩,((i+w.length:Nat):Int),0)
def aaH(s:atW)(i k:Nat):(s.take (i+k)).drop i=(s.drop i).take k:=by
 rw [List.drop_take];congr 1;omega
def alB(n:Nat)(s:atW)(at_:Nat)(L:List atW)(hs:s.length≤4611686018427387904)(ha:at_≤s.length)(cZ:L.length≤100)(hw:∀w,w∈L→w.length≤2):
 ∀m i,L.length<i+m→i≤L.length→Ew n s (at_:Int) L m (i:Int)=some (alA at_ ((L.drop i).find? (kN (s.drop at_)))):=by
 intro m;induction m with
 |zero=>intro i h aa;omega
 |succ m aH=>
  intro i hm hi;simp only [Ew,YL,YK];by_cases h:i<L.length
  ·(rw [e8 L i default h,bv (by omega),aH (i+1) (by omega) (by omega)];simp only [atN])
   have Tg:(L.getD i default).length≤2:=hw _ (by simp [List.getD,h])
   generalize L.getD i default=w at Tg
   simp only [h,bI h,atO,atF,atH,aL,atT];have e1:atY ((at_:Int)+((w.length:Nat):Int))=((at_+w.length:Nat):Int):=by rw [wr]<;>omega
   simp only [e1,atN,aaH,Int.ofNat_le];by_cases Z:at_+w.length≤s.length
   ·simp only [Z,atF,atJ,Bool.false_or,E' (Nat.le_add_right at_ w.length) Z,aL,atH];by_cases aa:(s.drop at_).take w.length=w
    ·have:kN (s.drop at_) w=true:=decide_eq_true ⟨by simp;omega,aa⟩
     simp only [aa,atF,atH,List.find?_cons,this];rfl
    ·have:kN (s.drop at_) w=false:=decide_eq_false λx=>aa x.2
     simp only [aa,atG,atI,List.find?_cons,this]
   ·have:kN (s.drop at_) w=false:=decide_eq_false λx=>by have:=x.1;simp at this;omega
    simp only [Z,atG,atK,Bool.true_or,aL,atI,List.find?_cons,this]
  ·rw [gu L i h];simp only [h,atO,atG,atI];rfl
open Go Go.Ab Go.Proofs
def xd:Int ⊕ (atW×Nat)→Token×Nat×Int
 |.inl e=>(⟨4,[],0,0⟩,0,e)
 |.inr p=>(⟨4,p.1,0,0⟩,p.2+1,0)
def fS(l:atW):Token×Nat×Int:=
 match l with
 |[]=>(⟨0,[],0,0⟩,0,0)
 |c::t=>
  if fP c=true then((k9 ((c::t).take (hE (c::t)))).1,hE (c::t),(k9 ((c::t).take (hE (c::t)))).2)
  else if c.toNat=34 then xd (gw t [])
  else if lK (c::t)=[] then(⟨0,[],0,0⟩,0,5) else(⟨5,lK (c::t),0,0⟩,(lK (c::t)).length,0)
def Fd:∀(l acc:atW) (e:Int),gw l acc = .inl e→e≠0
 |[],acc,e,h=>by simp only [gw,Sum.inl.injEq]at h;omega
 |[c],acc,e,h=>by
  simp only [gw]at h
  (repeat' split at h)<;>simp only [reduceCtorEq,Sum.inl.injEq]at h<;>omega
 |c::d::l,acc,e,h=>by
  simp only [gw]at h;split at h
  ·cases h
  ·split at h
   ·split at h
    ·simp only [Sum.inl.injEq]at h;omega
    ·split at h
     ·simp only [Sum.inl.injEq]at h;omega
     ·cases ao:gw l (acc++[d]) with
      |inl bg=>rw [ao]at h;simp only [up,Sum.inl.injEq]at h;subst h;exact Fd l _ _ ao
      |inr p=>rw [ao]at h;cases h
   ·split at h
    ·simp only [Sum.inl.injEq]at h;omega
    ·split at h
     ·simp only [Sum.inl.injEq]at h;omega
     ·cases ao:gw (d::l) (acc++[c]) with
      |inl bg=>rw [ao]at h;simp only [up,Sum.inl.injEq]at h;subst h;exact Fd (d::l) _ _ ao
      |inr p=>rw [ao]at h;cases h
def Th:∀(l acc:atW) (p:atW×Nat),gw l acc = .inr p→1≤p.2∧p.2≤l.length∧p.1.length≤acc.length+p.2
 |[],acc,e,h=>by simp only [gw,reduceCtorEq]at h
 |[c],acc,p,h=>by
  simp only [gw]at h;split at h
  ·simp only [Sum.inr.injEq]at h;subst h;simp
  ·(repeat' split at h)<;>simp only [reduceCtorEq]at h
 |c::d::l,acc,p,h=>by
  simp only [gw]at h;split at h
  ·simp only [Sum.inr.injEq]at h;subst h;simp
  ·split at h
   ·split at h
    ·simp only [reduceCtorEq]at h
    ·split at h
     ·simp only [reduceCtorEq]at h
     ·cases ao:gw l (acc++[d]) with
      |inl bg=>rw [ao]at h;simp only [up,reduceCtorEq]at h
      |inr q=>
       rw [ao]at h;simp only [up,Sum.inr.injEq]at h;subst h;have:=Th l _ _ ao
       simp only [atP,atL,atM]at this ⊢;omega
   ·split at h
    ·simp only [reduceCtorEq]at h
    ·split at h
     ·simp only [reduceCtorEq]at h
     ·cases ao:gw (d::l) (acc++[c]) with
      |inl bg=>rw [ao]at h;simp only [up,reduceCtorEq]at h
      |inr q=>
       rw [ao]at h;simp only [up,Sum.inr.injEq]at h;subst h;have:=Th (d::l) _ _ ao
       simp only [atP,atL,atM]at this ⊢;omega
def alC(l:atW):lK l=[]∨(1≤(lK l).length∧(lK l).length≤l.length):=by
 unfold lK;cases h:marks.find? (kN l) with
 |none=>left;rfl
 |some w=>
  right
  have Z:=Tf w (List.mem_of_find?_eq_some h);have aa:=List.find?_some h;have:=(of_decide_eq_true aa).1
  exact⟨Z.1,this⟩
def alD(w:atW):(k9 w).1.Text.length≤w.length:=by
 cases w with
 |nil=>simp [k9]
 |cons c l=>
  unfold k9;simp only
  (repeat' split)<;>simp
def aaI(l:atW)(ab:l≠[])(h:(fS l).2.2=0):1≤(fS l).2.1∧(fS l).2.1≤l.length∧(fS l).1.Text.length≤(fS l).2.1:=by
 cases l with
 |nil=>exact absurd rfl ab
 |cons c t=>
  unfold fS at h ⊢;simp only at h ⊢
  split at h
  ·rename_i hw;rw [if_pos hw];simp only
   have Z:=Ls (c::t);refine⟨by rw [uy,hw];simp,Z,?_⟩
   refine Nat.le_trans (alD _) ?_;simp only [List.length_take];omega
  ·rename_i hw;rw [if_neg hw];split at h
   ·rename_i gZ;rw [if_pos gZ];cases ao:gw t [] with
    |inl e=>rw [ao]at h;exact absurd h (Fd t [] e ao)
    |inr p=>
     have:=Th t [] p ao
     simp only [xd,atL,atM]at this ⊢;omega
   ·rename_i gZ;rw [if_neg gZ];split at h
    ·simp only at h;omega
    ·rename_i hm;rw [if_neg hm];have:=(alC (c::t)).resolve_left hm
     simp only
     exact⟨this.1,this.2,Nat.le_refl _⟩
def aaJ(c:UInt8)(t:atW)(h:fP c=true):∃k,hE (c::t)=k+1∧(c::t).take (hE (c::t))=c::t.take k∧k≤t.length:=by
 refine⟨hE t,by rw [uy,h];rfl,by rw [uy,h];rfl,Ls t⟩
def alE{c:UInt8}(h:c.toNat=34):fP c=false:=by
 unfold fP;exact decide_eq_false (by omega)
def aaK{n:Nat}(c:UInt8)(t:atW)(h:t.length+1<n)(hs:t.length+1≤140737488351232):
 zo n (c::t)=some ((fS (c::t)).1,(((fS (c::t)).2.1:Nat):Int),(fS (c::t)).2.2):=by
 unfold zo;rw [aau n (c::t) hs,al];unfold fS;simp only
 cases hw:fP c
 ·have h0:hE (c::t)=0:=by rw [uy,hw];rfl
  rw [h0];simp only [show decide ((0:Int)<((0:Nat):Int))=false from rfl,atI,l8 (show 0<(c::t).length by simp),aL,List.getD_cons_zero,fq,Bool.false_eq_true,atV]
  by_cases gZ:c.toNat=34
  ·rw [if_pos gZ];simp only [gZ,atF,atH];unfold Qd;have:=als n (c::t) (by simp only [atL];omega) n 1 [] (by simp only [atL];omega) (by simp) (by simp)
   rw [show zm n (c::t) n ([]:List Int) 1=_ from this,List.drop_succ_cons,List.drop_zero]
   cases gw t [] with
   |inl e=>rfl
   |inr p=>simp only [xc,xd,al];rw [Nat.add_comm 1 p.2]
  ·rw [if_neg gZ];simp only [gZ,atG,atI,aly,al];by_cases hm:lK (c::t)=[]
   ·rw [if_pos hm];simp only [hm,atF,atH];rfl
   ·rw [if_neg hm];simp only [hm,atG,atI]
 ·obtain⟨k,hk,xe,G_⟩:=aaJ c t hw;rw [if_pos rfl];simp only [eL,show 0<hE (c::t)by omega,atF,atH,xb (Ls (c::t)),aL,atN]
  rw [xe,alo c (t.take k) (by simp only [List.length_take];omega) (by simp only [List.length_take];omega) hw]
  rfl
def alF{n:Nat}(s:atW)(i:Nat)(hi:i<s.length)(h:s.length<n)(aa:100<n)(hs:s.length≤140737488351232):
 ∃t z,SD n s (i:Int)=some (t,z,(fS (s.drop i)).2.2)∧((fS (s.drop i)).2.2=0→t=(fS (s.drop i)).1∧z=((i+(fS (s.drop i)).2.1:Nat):Int)):=by
 unfold SD;have hd:=e8 s i 0 hi
 (simp only [atN])
 generalize hc:s.getD i 0=c at hd
 generalize aF:s.drop (i+1)=t at hd
 have Fe:t.length+(i+1)=s.length:=by rw [←aF,List.length_drop];omega
 rw [hd];unfold fS;simp only [bI hi,aL,fq];by_cases gZ:c.toNat=34
 ·simp only [alE gZ,Bool.false_eq_true,atV,gZ,atF,atH,atU];unfold YJ;rw [bv (by omega)]
  obtain⟨z,dw⟩:=alt n s (by omega) n (i+1) [] (by omega) (by omega) (by simp)
  rw [dw,aF];cases ao:gw t [] with
  |inl e=>exact⟨_,_,rfl,λb3=>absurd b3 (Fd _ _ _ ao)⟩
  |inr p=>exact⟨_,_,rfl,λ_=>⟨rfl,by simp only [xd,xc];rw [show i+1+p.2=i+(p.2+1)by omega]⟩⟩
 ·simp only [gZ,atG,atI,atV,aas,al];cases hw:fP c
  ·simp only [atI,Bool.false_eq_true,atV,alz,al];have:=alB n s i marks (by omega) (by omega) (by decide) (λw hw=>(Tf w hw).2) n 0 (by have:marks.length=20:=rfl;omega) (by omega)
   rw [show Ew n s (i:Int) marks n 0=_ from this,List.drop_zero,hd]
   unfold lK;cases ao:marks.find? (kN (c::t)) with
   |none=>exact⟨_,_,rfl,λb3=>absurd b3 (by decide)⟩
   |some w=>
    have dh:¬ w=[]:=λe=>by have:=(Tf w (List.mem_of_find?_eq_some ao)).1;rw [e]at this;simp at this
    simp only [Option.getD_some,dh,atV];exact⟨_,_,rfl,λ_=>⟨rfl,rfl⟩⟩
  ·obtain⟨k,hk,xe,G_⟩:=aaJ c t hw;have Tg:=Ls (c::t);simp only [atL]at Tg;simp only [atH,atU,aat i h (by omega) (show s.length≤4611686018427387904 by omega),al,hd,E' (Nat.le_add_right i (hE (c::t))) (show i+hE (c::t)≤s.length by omega),aL,atN,aaH]
   rw [xe,alq c (t.take k) (by simp only [List.length_take];omega) (by omega) (by simp only [List.length_take];omega) hw]
   exact⟨_,_,rfl,λ_=>⟨rfl,rfl⟩⟩
open Go Go.Ab Go.Proofs
def i7:Bool→atW→Nat
 |_,[]=>0
 |false,c::l=>if c.toNat=35 then 1+i7 true l else if c.toNat=32∨c.toNat=9∨c.toNat=10 then 1+i7 false l else 0
 |true,c::l=>if c.toNat=10 then 1+i7 false l else 1+i7 true l
def gO:atW→Nat
 |[]=>0
 |c::l=>if c.toNat=10 then 0 else 1+gO l
def Ti:∀l,gO l≤l.length
 |[]=>Nat.le_refl _
 |c::l=>by have:=Ti l;simp only [gO];split<;>simp only [atL]<;>omega
def Tj:∀l,i7 true l=gO l+i7 false (l.drop (gO l))
 |[]=>rfl
 |c::l=>by
  by_cases h:c.toNat=10
  ·simp only [i7,gO,h,atU,List.drop_zero,Nat.zero_add,show¬ (10=35)by omega,atV,or_true]
  ·simp only [i7,gO,h,atV];rw [Tj l,Nat.add_comm 1 (gO l),List.drop_succ_cons];omega
def alG(n:Nat)(s:atW)(ak:Int→at1)(hs:s.length≤4611686018427387904):∀m i,s.length<i+m→i≤s.length→KV n ak s m (i:Int)=ak ((i+gO (s.drop i):Nat):Int):=by
 intro m;induction m with
 |zero=>intro i h aa;omega
 |succ m aH=>
  intro i hm hi;simp only [KV,Yz];by_cases h:i<s.length
  ·(rw [e8 s i 0 h,bv (by omega),aH (i+1) (by omega) (by omega)];simp only [atN])
   generalize s.getD i 0=c
   simp only [h,bI h,atO,atF,atH,aL,atT,fq,gO];by_cases gF:c.toNat=10
   ·simp only [gF,atF,atJ,atI,atU];rfl
   ·simp only [gF,atG,atK,atH,atV];rw [show i+(1+gO (s.drop (i+1)))=i+1+gO (s.drop (i+1))by omega]
  ·rw [gu s i h];simp only [h,atO,atG,atI,atK,Bool.true_or,aL];rfl
def alH(n:Nat)(s:atW)(hs:s.length≤4611686018427387904)(hn:s.length<n):∀m i,s.length<i+m→i≤s.length→KW n s m (i:Int)=some ((i+i7 false (s.drop i):Nat):Int):=by
 intro m;induction m with
 |zero=>intro i h aa;omega
 |succ m aH=>
  intro i hm hi;simp only [KW,YA,Yy];by_cases h:i<s.length
  ·have gJ:=Ti (s.drop i);rw [alG n s _ hs n i (by omega) hi]
   rw [e8 s i 0 h]at gJ ⊢
   (rw [bv (by omega),aH (i+1) (by omega) (by omega)];simp only [atN])
   have Fe:(s.drop (i+1)).length=s.length-(i+1):=List.length_drop;generalize s.getD i 0=c at gJ ⊢
   simp only [h,bI h,atO,atF,atH,aL,atT,fq,dt];by_cases uA:c.toNat=35
   ·have e:gO (c::s.drop (i+1))=1+gO (s.drop (i+1)):=by simp only [gO,uA,show¬ (35=10)by omega,atV]
    rw [e]at gJ ⊢;simp only [atL,Fe]at gJ;rw [aH (i+(1+gO (s.drop (i+1)))) (by omega) (by omega)]
    simp only [uA,atF,atH,i7,atU];rw [Tj,List.drop_drop]
    congr 2
    rw [show i+(1+gO (s.drop (i+1)))=i+1+gO (s.drop (i+1))by omega]
    omega
   ·simp only [uA,atG,atI,i7,atV];by_cases hb:c.toNat=32∨c.toNat=9∨c.toNat=10
    ·have:(decide (c.toNat=32)||decide (c.toNat=9)||decide (c.toNat=10))=true:=by
      rcases hb with hb|hb|hb<;>simp [hb]
     rw [if_pos hb,this,atH]
     congr 2;omega
    ·have:(decide (c.toNat=32)||decide (c.toNat=9)||decide (c.toNat=10))=false:=by
      simp only [not_or]at hb;simp only [hb.1,hb.2.1,hb.2.2,atG,Bool.or_self]
     rw [if_neg hb,this,atI];rfl
  ·rw [gu s i h];simp only [h,atO,atG,atI];rfl
def fd(s:atW)(i:Nat):Nat:=(s.take i).count 10
def aaL(s:atW)(i k:Nat)(h:(10:UInt8)∉(s.drop i).take k):fd s (i+k)=fd s i:=by
 unfold fd;rw [List.take_add,List.count_append,List.count_eq_zero.2 h];rfl
def aaM(s:atW)(i:Nat)(h:i<s.length):fd s (i+1)=fd s i+(if(s.getD i 0).toNat=10 then 1 else 0):=by
 unfold fd;rw [List.take_add,List.count_append,e8 s i 0 h,List.take_succ_cons,List.take_zero]
 congr 1
 generalize s.getD i 0=c
 by_cases hc:c.toNat=10
 ·rw [if_pos hc];obtain rfl:c=10:=UInt8.toNat_inj.1 hc;rfl
 ·rw [if_neg hc];refine List.count_eq_zero.2 λhm=>?_
  simp only [List.mem_cons,List.not_mem_nil,or_false]at hm;exact hc (by rw [←hm];rfl)
def alI(n:Nat)(s:atW)(a:Nat)(hs:s.length≤4611686018427387904)(ha:a≤s.length):∀m i,a<i+m→i≤a→KU n s (a:Int) m ((fd s i:Nat):Int) (i:Int)=some ((fd s a:Nat):Int):=by
 intro m;induction m with
 |zero=>intro i h aa;omega
 |succ m aH=>
  intro i hm hi;simp only [KU,Yx,Yw,Sx];by_cases h:i<a
  ·have hle:fd s i≤i:=by unfold fd;exact Nat.le_trans List.count_le_length (by simp;omega)
   have kb:=aaM s i (by omega)
   have pj:=aH (i+1) (by omega) (by omega)
   rw [kb]at pj
   (rw [bv (by omega),bv (by omega)];simp only [atN])
   generalize s.getD i 0=c at pj
   simp only [h,bI (show i<s.length by omega),atO,atF,atH,aL,fq]
   by_cases gF:c.toNat=10
   ·rw [if_pos gF]at pj;simp only [gF,atF,atH];exact pj
   ·rw [if_neg gF]at pj;simp only [gF,atG,atI];exact pj
  ·obtain rfl:i=a:=by omega
   simp only [Nat.lt_irrefl,atO,atG,atI]
def alJ{n:Nat}(s:atW)(a:Nat)(hs:s.length≤4611686018427387904)(ha:a≤s.length)(hn:s.length<n):Sy n s (a:Int)=some ((fd s a:Nat):Int):=by
 unfold Sy;exact alI n s a hs ha n 0 (by omega) (by omega)
def Tk:∀(l acc:atW) (p:atW×Nat),gw l acc = .inr p→(10:UInt8)∉l.take p.2
 |[],acc,e,h=>by simp only [gw,reduceCtorEq]at h
 |[c],acc,p,h=>by
  simp only [gw]at h;split at h
  ·rename_i hc;simp only [Sum.inr.injEq]at h;subst h;intro hm;simp only [List.take_succ_cons,List.take_zero,List.mem_cons,List.not_mem_nil,or_false]at hm;rw [←hm]at hc;exact absurd hc (by decide)
  ·(repeat' split at h)<;>simp only [reduceCtorEq]at h
 |c::d::l,acc,p,h=>by
  simp only [gw]at h;split at h
  ·rename_i hc;simp only [Sum.inr.injEq]at h;subst h;intro hm;simp only [List.take_succ_cons,List.take_zero,List.mem_cons,List.not_mem_nil,or_false]at hm;rw [←hm]at hc;exact absurd hc (by decide)
  ·split at h
   ·rename_i gZ nM;split at h
    ·simp only [reduceCtorEq]at h
    ·rename_i hd;split at h
     ·simp only [reduceCtorEq]at h
     ·cases ao:gw l (acc++[d]) with
      |inl bg=>rw [ao]at h;simp only [up,reduceCtorEq]at h
      |inr q=>
       rw [ao]at h;simp only [up,Sum.inr.injEq]at h;subst h;have:=Tk l _ _ ao
       intro hm;simp only [List.take_succ_cons,List.mem_cons]at hm;rcases hm with hm|hm|hm
       ·rw [←hm]at nM;exact absurd nM (by decide)
       ·rw [←hm]at hd;exact absurd (show(10:UInt8).toNat≠34∧(10:UInt8).toNat≠92 by decide) hd
       ·exact this hm
   ·split at h
    ·simp only [reduceCtorEq]at h
    ·rename_i cE;split at h
     ·simp only [reduceCtorEq]at h
     ·cases ao:gw (d::l) (acc++[c]) with
      |inl bg=>rw [ao]at h;simp only [up,reduceCtorEq]at h
      |inr q=>
       rw [ao]at h;simp only [up,Sum.inr.injEq]at h;subst h;have:=Tk (d::l) _ _ ao
       intro hm;rw [List.take_succ_cons,List.mem_cons]at hm;rcases hm with hm|hm
       ·rw [←hm]at cE;exact cE (by decide)
       ·exact this hm
def alK(l:atW)(ab:l≠[])(h:(fS l).2.2=0):(10:UInt8)∉l.take (fS l).2.1:=by
 cases l with
 |nil=>exact absurd rfl ab
 |cons c t=>
  unfold fS at h ⊢;simp only at h ⊢
  split at h
  ·rename_i hw;rw [if_pos hw];simp only
   intro hm
   have e:(c::t).take (hE (c::t))=(c::t).takeWhile fP:=by
    unfold hE;exact(List.prefix_iff_eq_take.1 (List.takeWhile_prefix fP)).symm
   rw [e]at hm;have:=List.all_eq_true.1 (List.all_takeWhile (p:=fP) (l:=c::t)) _ hm
   exact absurd this (by decide)
  ·rename_i hw;rw [if_neg hw];split at h
   ·rename_i gZ;rw [if_pos gZ];cases ao:gw t [] with
    |inl e=>rw [ao]at h;exact absurd h (Fd t [] e ao)
    |inr p=>
     simp only [xd];intro hm;rw [List.take_succ_cons,List.mem_cons]at hm;rcases hm with hm|hm
     ·rw [←hm]at gZ;exact absurd gZ (by decide)
     ·exact Tk _ _ _ ao hm
   ·rename_i gZ;rw [if_neg gZ];split at h
    ·simp only at h;omega
    ·rename_i hm;rw [if_neg hm];simp only
     unfold lK at hm ⊢;cases ao:marks.find? (kN (c::t)) with
     |none=>rw [ao]at hm;exact absurd rfl hm
     |some w=>
      simp only [Option.getD_some];have aa:=List.find?_some ao;rw [(of_decide_eq_true aa).2];have:∀w,w∈marks→decide ((10:UInt8)∉w)=true:=by decide
      exact of_decide_eq_true (this w (List.mem_of_find?_eq_some ao))
def aaN:∀l:atW,(10:UInt8)∉l.take (gO l)
 |[]=>by simp
 |c::l=>by
  by_cases h:c.toNat=10
  ·simp [gO,h]
  ·have:=aaN l
   simp only [gO,h,atV];rw [Nat.add_comm,List.take_succ_cons,List.mem_cons];intro hm;rcases hm with hm|hm
   ·rw [←hm]at h;exact h rfl
   ·exact this hm
open Go Go.Ab Go.Proofs
def lL:List Token→Nat
 |[]=>0
 |t::l=>60+t.Text.length+lL l
def Tl:∀l m:List Token,lL (l++m)=lL l+lL m
 |[],m=>by simp [lL]
 |t::l,m=>by rw [List.cons_append,lL,lL,Tl l m];omega
def Lv:∀l:List Token,60*l.length≤lL l
 |[]=>Nat.le_refl _
 |t::l=>by have:=Lv l;simp only [lL,atL];omega
def alL(n:Nat)(src:atW)(ak:List Token→Int→Int→Option (List Token×Int×Int))(out:List Token)(jW:Int)(hs:src.length≤4611686018427387904):
 ∀m i,src.length<i+m→i≤src.length→DB n ak src out jW m (i:Int)=ak out jW ((i+gO (src.drop i):Nat):Int):=by
 intro m;induction m with
 |zero=>intro i h aa;omega
 |succ m aH=>
  intro i hm hi;simp only [DB,Qh,Qg];by_cases h:i<src.length
  ·(rw [e8 src i 0 h,bv (by omega),aH (i+1) (by omega) (by omega)];simp only [atN])
   generalize src.getD i 0=c
   simp only [h,bI h,atO,atF,atH,aL,atT,fq,gO];by_cases gF:c.toNat=10
   ·simp only [gF,atF,atJ,atI,atU];rfl
   ·simp only [gF,atG,atK,atH,atV];rw [show i+(1+gO (src.drop (i+1)))=i+1+gO (src.drop (i+1))by omega]
  ·rw [gu src i h];simp only [h,atO,atG,atI,atK,Bool.true_or,aL];rfl
def clone{n:Nat}{s:atW}(h:s.length≤281474976710656):IW n s=some s:=by
 unfold IW Hm;simp only [h,atF,aL,al]
def aaO{k:Nat}(h:k≤1000000000000):room k 40=true:=by simp [room];omega
def aaP{n:Nat}(s:atW)(i:Nat)(hs:s.length≤4611686018427387904)(hn:s.length<n)(hi:i≤s.length):KX n s (i:Int)=some ((i+i7 false (s.drop i):Nat):Int):=alH n s hs hn n i (by omega) hi
def alM(
 G:Token→Prop) (sv:∀(s:atW) (jW:Int),s≠[]→(fS s).2.2=0→G ⟨(fS s).1.Kind,(fS s).1.Text,(fS s).1.N,jW⟩) (n:Nat) (src:atW) (hs:src.length≤1000000000) (hn:src.length<n) (rv:100<n):∀(k i m m2:Nat) (out:List Token),src.length-i=k→i≤src.length→src.length<i+m→src.length<i+m2→lL out≤61*i→(∀t,t∈out→G t)→
 ∃r,sM n src m out ((fd src i+1:Nat):Int) (i:Int)=some r∧Ex n src m2 out ((i+i7 false (src.drop i):Nat):Int)=some r∧(r.2.2=0→lL r.1≤61*src.length∧∀t,t∈r.1→G t):=by
 intro k;induction k using Nat.strongRecOn with
 |_ k aaQ=>
  intro i m m2 out hk hi hm asX hw Tm;cases m with
  |zero=>omega
  |succ m=>
   simp only [sM,zr,zp];by_cases h:i<src.length
   ·have hd:=e8 src i 0 h;have kb:=aaM src i h;have asY:fd src i≤i:=by unfold fd;exact Nat.le_trans List.count_le_length (by simp;omega)
    simp only [zq,DA]
    (rw [alL n src _ out _ (by omega) n i (by omega) hi,bv (by omega),bv (by omega)];simp only [atN])
    have Fe:(src.drop (i+1)).length=src.length-(i+1):=List.length_drop;have gJ:=Ti (src.drop i);have alN:=aaN (src.drop i);have Tn:∀(j:Nat),i<j→j≤src.length→_:=λj hj vv=>aaQ (src.length-j) (by omega) j m m2 out rfl vv (by omega) (by omega) (by omega) Tm
    generalize hc:src.getD i 0=c at hd kb
    simp only [h,bI h,atO,atF,atH,aL,fq];by_cases gF:c.toNat=10
    ·simp only [gF,atF,atH];obtain⟨r,Z,aa,aj⟩:=Tn (i+1) (by omega) (by omega)
     rw [kb,if_pos gF]at Z;refine⟨r,Z,?_,aj⟩
     rw [hd];simp only [i7,gF,show¬ (10=35)by omega,atV,or_true,atU]
     rw [show i+(1+i7 false (src.drop (i+1)))=i+1+i7 false (src.drop (i+1))by omega]
     exact aa
    ·have alO:fd src (i+1)=fd src i:=by rw [kb,if_neg gF];rfl
     simp only [gF,atG,atI];by_cases hb:c.toNat=32∨c.toNat=9
     ·obtain⟨r,Z,aa,aj⟩:=Tn (i+1) (by omega) (by omega)
      rw [alO]at Z;refine⟨r,?_,?_,aj⟩
      ·rcases hb with hb|hb
       ·simp only [hb,atF,atH];exact Z
       ·simp only [hb,show¬ (9=32)by omega,atG,atF,atH,atI];exact Z
      ·rw [hd];simp only [i7];rw [if_neg (by omega),if_pos (by omega),show i+(1+i7 false (src.drop (i+1)))=i+1+i7 false (src.drop (i+1))by omega]
       exact aa
     ·have c':¬ c.toNat=32:=λe=>hb (Or.inl e)
      have fA:¬ c.toNat=9:=λe=>hb (Or.inr e)
      simp only [c',fA,atG,atI];by_cases uA:c.toNat=35
      ·simp only [uA,atF,atH];have e:gO (src.drop i)=1+gO (src.drop (i+1)):=by rw [hd];simp only [gO,gF,atV]
       obtain⟨r,Z,aa,aj⟩:=Tn (i+gO (src.drop i)) (by omega) (by simp only [List.length_drop]at gJ;omega)
       rw [aaL src i _ alN]at Z;refine⟨r,Z,?_,aj⟩
       rw [hd];simp only [i7,uA,atU]
       rw [Tj,List.drop_drop,show i+(1+(gO (src.drop (i+1))+i7 false (src.drop (i+1+gO (src.drop (i+1))))))=i+gO (src.drop i)+i7 false (src.drop (i+gO (src.drop i))) by
        rw [e,show i+(1+gO (src.drop (i+1)))=i+1+gO (src.drop (i+1))by omega];omega]
       exact aa
      ·simp only [uA,atG,atI,xb (Nat.le_of_lt h),aL]
       have alP:i7 false (src.drop i)=0:=by
        rw [hd];simp only [i7];rw [if_neg uA,if_neg (by omega)]
       rw [alP,show i+0=i from rfl]
       cases m2 with
       |zero=>omega
       |succ m2=>
        simp only [Ex,SE];have dh:src.drop i≠[]:=by rw [hd];simp
        obtain⟨t,z,iu,iR⟩:=alF (n:=n) src i h (by omega) rv (by omega)
        have aW:zo n (src.drop i)=some ((fS (src.drop i)).1,(((fS (src.drop i)).2.1:Nat):Int),(fS (src.drop i)).2.2):=by
         rw [hd];exact aaK c (src.drop (i+1)) (by omega) (by omega)
        rw [aW,iu,alJ src i (by omega) hi hn]
        simp only [h,atO,atF,atH,al];rw [bv (by omega)]
        by_cases he:(fS (src.drop i)).2.2=0
        ·have cE:=aaI _ dh he;have To:=alK _ dh he;have asZ:(src.drop i).length=src.length-i:=List.length_drop;obtain⟨rfl,rfl⟩:=iR he;have fE:=sv (src.drop i) ((fd src i+1:Nat):Int) dh he;generalize fS (src.drop i)=T at he cE To fE
         obtain⟨t,kk,e⟩:=T;simp only at he cE To fE
         subst he;have Gr:=Lv out;simp only [atF,atJ,atI,clone (show t.Text.length≤281474976710656 by omega),al,atL,atM,aaO (show out.length+(0+1)≤1000000000000 by omega),aL]
         rw [show atY ((i:Int)+((kk:Nat):Int))=((i+kk:Nat):Int)by rw [wr]<;>omega,aaP src (i+kk) (by omega) hn (by omega),al]
         obtain⟨r,Z,aa,aj⟩:=aaQ (src.length-(i+kk)) (by omega) (i+kk) m m2 (out++[⟨t.Kind,t.Text,t.N,((fd src i+1:Nat):Int)⟩]) rfl (by omega) (by omega) (by omega) (by rw [Tl];simp only [lL];omega) (λbS eK=>by
          rcases List.mem_append.1 eK with cM|cM
          ·exact Tm bS cM
          ·obtain rfl:=List.mem_singleton.1 cM;exact fE)
         rw [aaL src i _ To]at Z;exact⟨r,Z,aa,aj⟩
        ·simp only [he,atG,atK,atH];exact⟨_,rfl,rfl,λb3=>absurd b3 he⟩
   ·rw [gu src i h];simp only [i7,Nat.add_zero];cases m2 with
    |zero=>omega
    |succ m2=>
     simp only [Ex,SE,YM,h,atO,atG,atI];exact⟨_,rfl,rfl,λ_=>⟨by simp only;omega,Tm⟩⟩
def alQ(G:Token→Prop)(sv:∀(s:atW) (jW:Int),s≠[]→(fS s).2.2=0→G ⟨(fS s).1.Kind,(fS s).1.Text,(fS s).1.N,jW⟩){n:Nat}(src:atW)(hn:src.length≤16384→src.length<n)(rv:100<n):
 ∃r,wD n src=some r∧YN n src=some r∧(r.2.2=0→lL r.1≤61*src.length∧src.length≤16384∧∀t,t∈r.1→G t):=by
 unfold wD YN;simp only [eL];by_cases h:16384<src.length
 ·simp only [h,atF,atH];exact⟨_,rfl,rfl,λe=>absurd e (by decide)⟩
 ·simp only [h,atG,atI];have hn:=hn (by omega)
  have:=aaP (n:=n) src 0 (by omega) hn (by omega)
  rw [show KX n src 0=_ from this,al]
  obtain⟨r,Z,aa,aj⟩:=alM G sv n src (by omega) hn rv (src.length-0) 0 n n [] rfl (by omega) (by omega) (by omega) (by simp [lL]) (λt aF=>by cases aF)
  exact⟨r,Z,aa,λe=>⟨(aj e).1,by omega,(aj e).2⟩⟩
def alR(s:atW)(jW:Int)(hs:s≠[])(h:(fS s).2.2=0):(fS s).1.Kind=5→(fS s).1.Text∈marks:=by
 cases s with
 |nil=>exact absurd rfl hs
 |cons c t=>
  unfold fS at h ⊢;simp only at h ⊢
  split
  ·intro hk;exfalso
   revert hk
   generalize (c::t).take (hE (c::t))=w
   cases w with
   |nil=>intro hk;simp [k9]at hk
   |cons d w=>
    unfold k9;simp only
    (repeat' split)<;>(intro hk;simp at hk)
  ·split
   ·cases gw t []<;>(intro hk;exfalso;simp [xd]at hk)
   ·split
    ·rename_i hm;intro hk;exfalso;simp at hk
    ·rename_i hm;intro _;simp only
     unfold lK at hm ⊢;cases ao:marks.find? (kN (c::t)) with
     |none=>rw [ao]at hm;exact absurd rfl hm
     |some w=>exact List.mem_of_find?_eq_some ao
open Go Go.Ab Go.Proofs
def hH(l:List Token)(i:Nat)(w:atW):Bool:=
 decide (i<l.length)&&((decide ((l.getD i default).Kind=2)||decide ((l.getD i default).Kind=5))&&decide ((l.getD i default).Text=w))
def Tp{l:List Token}{i:Nat}{w:atW}(h:hH l i w=true):i<l.length:=by
 unfold hH at h;simp only [Bool.and_eq_true,decide_eq_true_eq]at h;exact h.1
def xf(n:Nat)(l:List Token)(i:Nat)(w:atW):ug n w ⟨l,(i:Int)⟩=some (hH l i w):=by
 unfold ug hH;simp only [atN,Int.ofNat_le,dt,ef];by_cases h:i<l.length
 ·simp only [show¬ l.length≤i by omega,atG,atI,bI h,aL,h,atF,Bool.true_and]
 ·simp only [show l.length≤i by omega,atF,atH,h,atG,Bool.false_and]
def aaR(l:List Token)(i:Nat):Int:=
 if i<l.length then(l.getD i default).lC else if l.length=0 then 1 else(l.getD (l.length-1) default).lC
def tz(l:List Token)(i:Nat)(c:Int):V:=.iface 332 (.agg [.int .i64 (aaR l i),.int .i64 c])
def AL(l:List Token)(i:Nat)(c:Int):Int:=if i<l.length then c else 6
def Lw(n:Nat)(l:List Token)(i:Nat)(c:Int)(ab:l.length≤4611686018427387904):sN n c ⟨l,(i:Int)⟩=some (.bf (tz l i (AL l i c)) ()):=by
 unfold sN Qj Qi tz aaR AL;simp only [atN,atO];by_cases h:i<l.length
 ·simp only [h,bI h,atF,atH,aL,atU]
 ·simp only [h,atG,atI,atV];by_cases h0:l.length=0
  ·simp only [h0,atU];rfl
  ·have:atY (((l.length:Nat):Int)-1)=((l.length-1:Nat):Int):=by rw [wr]<;>omega
   rw [this];simp only [fq,h0,atG,atI,bI (show l.length-1<l.length by omega),aL,atN,atV]
def Ff(n:Nat)(l:List Token)(i:Nat)(w:atW)(hi:i≤4611686018427387904):kF n w ⟨l,(i:Int)⟩=some (hH l i w,(((bif hH l i w then i+1 else i):Nat):Int)):=by
 unfold kF;rw [xf,al,bv hi];cases hH l i w<;>rfl
def AM(n:Nat)(l:List Token)(i:Nat)(w:atW)(hi:i≤4611686018427387904)(ab:l.length≤4611686018427387904):
 kG n w ⟨l,(i:Int)⟩=some (bif hH l i w then .ret () ((i+1:Nat):Int)else .bf (tz l i (AL l i 5)) (i:Int)):=by
 unfold kG;rw [Ff n l i w hi,al];cases hH l i w
 ·simp only [atK,atH,atI];rw [Lw n l i 5 ab,al];rfl
 ·rfl
def rx:List (atW×Int×Int):=[([111,114],1,17),([97,110,100],2,16),([61,61],4,10),([33,61],4,11),([60],4,12),([60,61],4,13),([62],4,14),([62,61],4,15),([43,43],5,19),([43],6,4),([45],6,5),([42],7,6),([47],7,7),([37],7,8)]
def Lx:Option (atW×Int×Int)→Int×Int
 |none=>(0,0)
 |some r=>r.2
def s1(l:List Token)(i:Nat):Int×Int:=Lx (rx.find? λr=>hH l i r.1)
def Tq{l:List Token}{i:Nat}(h:i<l.length)(hk:(l.getD i default).Kind=2∨(l.getD i default).Kind=5)(w:atW):hH l i w=decide ((l.getD i default).Text=w):=by
 unfold hH;have:(decide ((l.getD i default).Kind=2)||decide ((l.getD i default).Kind=5))=true:=by rcases hk with hk|hk<;>rw [decide_eq_true hk]<;>simp
 rw [this,decide_eq_true h];rfl
def Ly{l:List Token}{i:Nat}(h:¬ (i<l.length∧((l.getD i default).Kind=2∨(l.getD i default).Kind=5)))(w:atW):hH l i w=false:=by
 unfold hH;by_cases Z:i<l.length
 ·by_cases aa:(l.getD i default).Kind=2
  ·exact absurd ⟨Z,Or.inl aa⟩ h
  ·by_cases aj:(l.getD i default).Kind=5
   ·exact absurd ⟨Z,Or.inr aj⟩ h
   ·rw [decide_eq_false aa,decide_eq_false aj];simp
 ·rw [decide_eq_false Z];rfl
def Tr(n:Nat)(l:List Token)(i:Nat):IY n ⟨l,(i:Int)⟩=some (s1 l i):=by
 unfold IY s1
 (simp only [atN])
 simp only [Int.ofNat_le,ef];by_cases h:i<l.length
 ·simp only [show¬ l.length≤i by omega,atG,atI,bI h,aL]
  by_cases hk:(l.getD i default).Kind=2∨(l.getD i default).Kind=5
  ·have h_:((!decide ((l.getD i default).Kind=2)) && !decide ((l.getD i default).Kind=5))=false:=by
    rcases hk with hk|hk<;>rw [decide_eq_true hk]<;>simp
   rw [h_];simp only [atI,Tq h hk];generalize (l.getD i default).Text=w
   by_cases hw:w∈rx.map (·.1)
   ·simp only [rx,List.map_cons,List.map_nil,List.mem_cons,List.not_mem_nil,or_false]at hw;rcases hw with rfl|rfl|rfl|rfl|rfl|rfl|rfl|rfl|rfl|rfl|rfl|rfl|rfl|rfl<;>rfl
   ·simp only [rx,List.map_cons,List.map_nil,List.mem_cons,List.not_mem_nil,or_false,not_or]at hw;simp only [hw,atG,atI,rx,List.find?_cons,List.find?_nil];rfl
  ·have h_:((!decide ((l.getD i default).Kind=2)) && !decide ((l.getD i default).Kind=5))=true:=by
    simp only [not_or]at hk;rw [decide_eq_false hk.1,decide_eq_false hk.2];rfl
   rw [h_];simp only [atH,Ly (λx=>hk x.2),rx,List.find?_cons,List.find?_nil]
   rfl
 ·simp only [show l.length≤i by omega,atF,atH,Ly (λx=>h x.1),rx,List.find?_cons,List.find?_nil]
  rfl
open Go Go.Ab Go.Proofs
def ql:List (atW×Int):=[([116,101,120,116],20),([108,101,110],21),([103,101,116,105,110,116],22),([103,101,116,115,116,114],23),([104,97,115],24),([110,111,119],25),([114,97,110,100,111,109],26),([110,111,100,101],27)]
def call2:Option (atW×Int)→Int
 |none=>0
 |some r=>r.2
def Lz(l:List Token)(i:Nat):Int:=call2 (ql.find? λr=>hH l i r.1)
def k_(l:List Token):Prop:=∀t,t∈l→t.Kind=5→t.Text∈marks
def Ts(n:Nat)(l:List Token)(i:Nat)(hg:k_ l):I0 n ⟨l,(i:Int)⟩=some (Lz l i):=by
 unfold I0 Lz
 (simp only [atN])
 simp only [Int.ofNat_le,dt];by_cases h:i<l.length
 ·simp only [show¬ l.length≤i by omega,atG,Bool.false_or,bI h,aL]
  by_cases hk:(l.getD i default).Kind=2
  ·simp only [hk,atF,atJ,atI,Tq h (Or.inl hk)];generalize (l.getD i default).Text=w
   by_cases hw:w∈ql.map (·.1)
   ·simp only [ql,List.map_cons,List.map_nil,List.mem_cons,List.not_mem_nil,or_false]at hw;rcases hw with rfl|rfl|rfl|rfl|rfl|rfl|rfl|rfl<;>rfl
   ·simp only [ql,List.map_cons,List.map_nil,List.mem_cons,List.not_mem_nil,or_false,not_or]at hw;simp only [hw,atG,atI,ql,List.find?_cons,List.find?_nil];rfl
  ·simp only [hk,atG,atK,atH];by_cases aT:(l.getD i default).Kind=5
   ·have hm:(l.getD i default).Text∈marks:=hg _ (by simp [List.getD,h]) aT
    simp only [Tq h (Or.inr aT)];generalize (l.getD i default).Text=w at hm
    have:∀w,w∈marks→ql.find? (λr=>decide (w=r.1))=none:=by decide
    rw [this w hm];rfl
   ·have:∀w,hH l i w=false:=Ly (λx=>by rcases x.2 with e|e;exact hk e;exact aT e)
    simp only [this,ql,List.find?_cons,List.find?_nil];rfl
 ·simp only [show l.length≤i by omega,atF,Bool.true_or,aL,atH,Ly (λx=>h x.1),ql,List.find?_cons,List.find?_nil]
  rfl
def Tt(n:Nat)(l:List Token)(i d:Nat)(ab:l.length≤4611686018427387904)(hd:d≤24):zt n (d:Int) ⟨l,(i:Int)⟩=some (if d=24 then .bf (tz l i (AL l i 2)) ()else .ret ((d+1:Nat):Int) ()):=by
 unfold zt IZ;simp only [sZ];by_cases h:d=24
 ·simp only [show 24≤d by omega,atF,atH,Lw n l i 2 ab,al,h,atU];rfl
 ·simp only [show¬ 24≤d by omega,atG,atI,h,atV]
  rw [bv (by omega)]
open Go Go.Ab Go.Proofs
def Fg(n:Nat):hZ (n+1)=uh n (hZ n) (oy n) (m7 n) (oz n):=rfl
def alS(n:Nat):oy (n+1)=I1 n (hZ n) (oy n) (m7 n) (oz n):=rfl
def alT(n:Nat):m7 (n+1)=I3 n (hZ n) (oy n) (m7 n) (oz n):=rfl
def alU(n:Nat):oz (n+1)=I4 n (hZ n) (oy n) (m7 n) (oz n):=rfl
section
variable {l:List Token}
theorem aaS{i:Nat}(h:i≤1000000000):atY (((i+1:Nat):Int)-1)=(i:Int):=by rw [wr]<;>omega
end
open Go Go.Ab Go.Proofs
def i8(e:Expr):(⟨e.Op,e.N,e.S,e.ar⟩:Expr)=e:=by cases e;rfl
section
variable {l:List Token}
end
open Go Go.Ab Go.Proofs
open Go Go.Ab Go.Proofs
def alV(n:Nat)(l:List Token)(i:Nat)(kd:Int)(ab:l.length≤1000000000)(hi:i≤l.length):
 p_ n kd ⟨l,(i:Int)⟩=some (if i<l.length∧(l.getD i default).Kind=kd then .ret (l.getD i default) ((i+1:Nat):Int)else .bf (tz l i (AL l i 5)) (i:Int)):=by
 unfold p_ I5
 (rw [bv (by omega),aaS (by omega)];simp only [atN])
 simp only [Int.ofNat_le,dt];by_cases h:i<l.length
 ·simp only [show¬ l.length≤i by omega,atG,Bool.false_or,bI h,aL,h,true_and]
  by_cases hk:(l.getD i default).Kind=kd
  ·rw [if_pos hk];simp only [hk,atF,atJ,atI]
  ·rw [if_neg hk];simp only [hk,atG,atK,atH,Lw n l i 5 (by omega),al,aD.on]
 ·rw [if_neg (λx=>h x.1)]
  simp only [show l.length≤i by omega,atF,Bool.true_or,aL,atH,Lw n l i 5 (by omega),al,aD.on]
section
variable {α:Type} {wt:α→Nat} {l:List Token}
end
mutual
def fst:Stmt→Nat
 |⟨_,Name,_,A,B,Body,bx⟩=>80+Name.length+dd A+dd B+du Body+du bx
def du:List Stmt→Nat
 |[]=>0
 |x::l=>fst x+1+du l
end
def my(s:Stmt):(⟨s.Op,s.Name,s.Max,s.A,s.B,s.Body,s.bx⟩:Stmt)=s:=by cases s;rfl
def fst_eq(s:Stmt):fst s=80+s.Name.length+dd s.A+dd s.B+du s.Body+du s.bx:=by cases s;rfl
def Tu:∀l m:List Stmt,du (l++m)=du l+du m
 |[],m=>by simp [du]
 |x::l,m=>by rw [List.cons_append,du,du,Tu l m];omega
def s2:∀l:List Stmt,80*l.length≤du l
 |[]=>Nat.le_refl _
 |x::l=>by have:=s2 l;have:=fst_eq x;simp only [du,atL];omega
def alW(n:Nat)(s:Stmt)(l:List Token)(i:Nat)(hi:i≤4611686018427387904)(ab:l.length≤4611686018427387904):
 rj n s ⟨l,(i:Int)⟩=some (bif hH l i [59]then .ret s ((i+1:Nat):Int)else .bf (tz l i (AL l i 5)) (i:Int)):=by
 unfold rj;rw [AM n l i _ hi ab];cases hH l i [59]
 ·rfl
 ·simp only [al,atH,aD.on,i8,my]
open Go Go.Ab Go.Proofs
def alX(n:Nat):rl (n+1)=I8 n (rl n) (wN n) (zw n):=rfl
def s3(n:Nat):wN (n+1)=o_ n (rl n) (wN n) (zw n):=rfl
def alY(n:Nat):zw (n+1)=Jd n (rl n) (wN n) (zw n):=rfl
section
variable {l:List Token}
theorem alZ{k:Nat}(h:k≤100000000000):room k 192=true:=by simp [room];omega
end
open Go Go.Ab Go.Proofs
section
variable {l:List Token}
end
open Go Go.Ab Go.Proofs
section
variable {l:List Token}
end
open Go Go.Ab Go.Proofs
section
variable {l:List Token}
end
open Go Go.Ab Go.Proofs
section
variable {l:List Token}
theorem aaT{k:Nat}(h:k≤100000000000):room k 24=true:=by simp [room];omega
end
open Go Go.Ab Go.Proofs
def h2:List Param→Nat
 |[]=>0
 |p::l=>60+p.Name.length+h2 l
def AN:∀l:List Param,60*l.length≤h2 l
 |[]=>Nat.le_refl _
 |t::l=>by have:=AN l;simp only [h2,atL];omega
section
variable {l:List Token}
def al0(p:bc):Nat:=p.Name.length+h2 p.Params+du p.Body
end
open Go Go.Ab Go.Proofs
mutual
def gS:Expr→Int→Int
 |⟨Op,N,S,ar⟩,d=>if pi ⟨Op,N,S,ar⟩ d=0 then s4 ar (atY (d+1))else pi ⟨Op,N,S,ar⟩ d
def s4:List Expr→Int→Int
 |[],d=>0
 |x::l,d=>if gS x d=0 then s4 l d else gS x d
end
def aaU(e:Expr)(d:Int):gS e d=if pi e d=0 then s4 e.ar (atY (d+1))else pi e d:=by cases e;rfl
def aaV:∀(n:Nat) (e:Expr) (d:Int),dd e≤n→dd e≤140737488351232→yM n e d=some (gS e d)∧z1 n e d=some (gS e d):=by
 intro n;induction n with
 |zero=>intro e d h;rw [qi]at h;omega
 |succ n aH=>
  intro e d h ab;have uz:=qi e;have ru:=E_ e.ar;simp only [yM,z1,Pg,RM];rw [ala e d (by omega) (by omega),alb e d (by omega) (by omega) (by omega),aaU]
  simp only [al];by_cases h0:pi e d=0
  ·rw [if_pos h0];simp only [h0,atF,atJ,atI]
   have gN:∀m i,e.ar.length<i+m→i≤e.ar.length→CS n (yM n) d e m (i:Int)=some (s4 (e.ar.drop i) (atY (d+1)))∧D' n (z1 n) d e m (i:Int)=some (s4 (e.ar.drop i) (atY (d+1))):=by
    intro m;induction m with
    |zero=>intro i Z aa;omega
    |succ m k8=>
     intro i Z aa;simp only [CS,Pf,Pe,D',RL,RK];by_cases hi:i<e.ar.length
     ·have hg:=Fa e.ar i hi;obtain⟨iu,iR⟩:=aH (e.ar.getD i default) (atY (d+1)) (by omega) (by omega)
      obtain⟨al1,rv⟩:=k8 (i+1) (by omega) (by omega)
      (rw [e8 e.ar i default hi,bv (by omega)];simp only [atN];rw [iu,iR,al1,rv])
      simp only [hi,bI hi,atO,atF,atH,aL,al,s4];by_cases ai:gS (e.ar.getD i default) (atY (d+1))=0
      ·simp only [ai,atF,atJ,atI,atU,and_self]
      ·simp only [ai,atG,atK,atH,atV,and_self]
     ·rw [gu e.ar i hi];simp only [hi,atO,atG,atI,s4,and_self]
   exact gN n 0 (by omega) (by omega)
  ·rw [if_neg h0];simp only [h0,atG,atK,atH,and_self]
def aaW{n:Nat}(e:Expr)(h:dd e≤n)(ab:dd e≤140737488351232):CT n e=some (gS e 1):=by
 simp only [CT,(aaV n e 1 h ab).1,al]
def aaX{n:Nat}(e:Expr)(h:dd e≤n)(ab:dd e≤140737488351232):D_ n e=some (gS e 1):=by
 simp only [D_,(aaV n e 1 h ab).2,al]
def nb(e:Expr):Bool:=decide (e.Op=0)&&decide (e.N=0)&&decide (e.S=[])&&decide (e.ar.length=0)
def aaY(n:Nat)(e:Expr):yN n e=some (nb e):=by
 simp only [yN,nb,ef,fq]
def aaZ(n:Nat)(e:Expr):sP n e=some (nb e):=by
 simp only [sP,nb,ef,fq]
def jX(op:Int):k2×Bool:=
 if op=1∨op=2 then(⟨true,true,false,false,false,false⟩,true)
 else if op=3 then(⟨false,true,true,false,false,false⟩,true)
 else if op=4∨op=7 then(⟨false,true,false,false,false,false⟩,true)
 else if op=5 then(⟨false,true,false,false,true,true⟩,true)
 else if op=6 then(⟨true,true,true,true,true,false⟩,true)
 else if op=8 then(⟨false,false,false,true,false,false⟩,true)
 else(⟨false,false,false,false,false,false⟩,false)
def al2(n:Nat)(op:Int):HQ n op=some (jX op):=by
 by_cases h:1≤op∧op≤8
 ·obtain rfl|rfl|rfl|rfl|rfl|rfl|rfl|rfl:op=1∨op=2∨op=3∨op=4∨op=5∨op=6∨op=7∨op=8:=by omega
  all_goals rfl
 ·have e:jX op=(⟨false,false,false,false,false,false⟩,false):=by
   unfold jX;rw [if_neg (by omega),if_neg (by omega),if_neg (by omega),if_neg (by omega),if_neg (by omega),if_neg (by omega)]
  rw [e];simp only [HQ,HP,HO,Ph,show¬ op=1 by omega,show¬ op=2 by omega,show¬ op=3 by omega,show¬ op=4 by omega,show¬ op=5 by omega,show¬ op=6 by omega,show¬ op=7 by omega,show¬ op=8 by omega,atG,atI]
def al3(n:Nat)(op:Int)(h:1≤op∧op≤8):Ea n op=some ((jX op).1.name,(jX op).1.max,(jX op).1.a,(jX op).1.b,(jX op).1.body,(jX op).1.other):=by
 obtain rfl|rfl|rfl|rfl|rfl|rfl|rfl|rfl:op=1∨op=2∨op=3∨op=4∨op=5∨op=6∨op=7∨op=8:=by omega
 all_goals rfl
def al4(n:Nat)(op:Int)(h:¬ (1≤op∧op≤8)):Ea n op=some (false,true,false,false,false,false):=by
 simp only [Ea,J4,J3,RN,show¬ op=1 by omega,show¬ op=2 by omega,show¬ op=3 by omega,show¬ op=4 by omega,show¬ op=5 by omega,show¬ op=6 by omega,show¬ op=7 by omega,atG,atI]
def AO(s:Stmt)(u:k2):Bool:=
 (!u.name && !decide (s.Name=[]))||(!u.a && !nb s.A)||(!u.b && !nb s.B)||(!u.max && !decide (s.Max=0))||(!u.body&&decide (0<s.Body.length))||(!u.other&&decide (0<s.bx.length))
def ry(s:Stmt):Bool:=if s.Op=6 then decide (1≤s.Max)&&decide (s.Max≤16)else if s.Op=8 then decide (0≤s.Max)&&decide (s.Max≤999)else true
def km(s:Stmt)(d:Int):Int:=
 if(jX s.Op).2=false∨AO s (jX s.Op).1=true∨ry s=false then 1
 else if(jX s.Op).1.name=true∧gv s.Name=false then 7
 else if(jX s.Op).1.a=true∧gS s.A 1≠0 then gS s.A 1
 else if(jX s.Op).1.b=true∧gS s.B 1≠0 then gS s.B 1
 else if 12<d then 2 else 0
open Go Go.Ab Go.Proofs
def al5(n:Nat)(s:Stmt)(u:k2):HN n s u=some (!AO s u&&ry s):=by
 have hm:(bif decide (s.Op=6)then some (bif decide (1≤s.Max)then decide (s.Max≤16)else false)else bif decide (s.Op=8)then some (bif decide (0≤s.Max)then decide (s.Max≤999)else false)else some true)=some (ry s):=by
  unfold ry;by_cases bQ:s.Op=6
  ·simp only [bQ,atF,atH,atU,ef]
  ·by_cases di:s.Op=8
   ·simp only [di,show¬ (8:Int)=6 by omega,atF,atG,atH,atI,atU,atV,ef]
   ·simp only [bQ,di,atG,atI,atV]
 unfold HN AO;rw [hm];simp only [aaY,i8,ef,dt,eL];generalize decide (s.Name=[])=x
 generalize nb s.A=y
 generalize nb s.B=z
 generalize decide (s.Max=0)=w
 generalize decide (0<s.Body.length)=p
 generalize decide (0<s.bx.length)=q
 generalize ry s=r
 obtain⟨mz,a,b,j_,kW,xg⟩:=u;cases mz<;>cases x<;>cases a<;>cases y<;>cases b<;>cases z<;>simp only [atJ,atK,Bool.and_true,Bool.and_false,Bool.true_and,Bool.false_and,atT,Bool.or_false,Bool.true_or,Bool.false_or,atH,atI,al]<;>(cases ((!j_ && !w)||(!kW&&p)||(!xg&&q))<;>simp_all)
def al6{n:Nat}(s:Stmt)(d:Int)(aN:dd s.A≤n)(cL:dd s.B≤n)(uB:dd s.A≤140737488351232)(mA:dd s.B≤140737488351232)(aR:s.Name.length≤140737488351232):HT n s d=some (km s d):=by
 unfold HT HS HR km;simp only [al2,al,i8,my,al5,AJ n s.Name aR,aaW s.A aN uB,aaW s.B cL mA];generalize (jX s.Op)=U
 obtain⟨u,al7⟩:=U;obtain⟨mz,a,b,j_,kW,xg⟩:=u;simp only
 generalize AO s ⟨mz,a,b,j_,kW,xg⟩=m
 generalize ry s=r
 cases al7
 ·simp
 ·cases m
  ·cases r
   ·simp
   ·generalize gv s.Name=x
    simp only [atJ,atK,atH,atI,al,Bool.true_and,Bool.and_true,Bool.true_eq_false,Bool.false_eq_true,or_self,atV];cases mz
    ·simp only [atI,al,Bool.false_eq_true,false_and,atV];cases a
     ·simp only [atI,Bool.false_eq_true,false_and,atV];cases b
      ·by_cases gL:12<d<;>simp [gL]
      ·by_cases hb:gS s.B 1=0<;>by_cases gL:12<d<;>simp [hb,gL]
     ·by_cases ha:gS s.A 1=0
      ·cases b
       ·by_cases gL:12<d<;>simp [ha,gL]
       ·by_cases hb:gS s.B 1=0<;>by_cases gL:12<d<;>simp [ha,hb,gL]
      ·simp [ha]
    ·cases x
     ·simp
     ·simp only [atH,al,atJ,atI,Bool.true_eq_false,and_false,atV];cases a
      ·simp only [atI,Bool.false_eq_true,false_and,atV];cases b
       ·by_cases gL:12<d<;>simp [gL]
       ·by_cases hb:gS s.B 1=0<;>by_cases gL:12<d<;>simp [hb,gL]
      ·by_cases ha:gS s.A 1=0
       ·cases b
        ·by_cases gL:12<d<;>simp [ha,gL]
        ·by_cases hb:gS s.B 1=0<;>by_cases gL:12<d<;>simp [ha,hb,gL]
       ·simp [ha]
  ·simp
def al8(s:Stmt):((decide (s.Op=6)&&(decide (s.Max<1)||decide (16<s.Max)))||(decide (s.Op=8)&&(decide (s.Max<0)||decide (999<s.Max)))) = !ry s:=by
 unfold ry;by_cases bQ:s.Op=6
 ·simp only [bQ,atU,atF,Bool.true_and,show¬ (6:Int)=8 by omega,atG,Bool.false_and,Bool.or_false]
  by_cases Z:s.Max<1
  ·simp only [Z,show¬ 1≤s.Max by omega,atF,atG,Bool.true_or,Bool.false_and,atK]
  ·by_cases aa:16<s.Max
   ·simp only [Z,aa,show¬ s.Max≤16 by omega,atF,atG,atT,Bool.and_false,atK]
   ·simp only [Z,aa,show s.Max≤16 by omega,show 1≤s.Max by omega,atF,atG,Bool.or_self,Bool.and_self,atJ]
 ·by_cases di:s.Op=8
  ·simp only [di,show¬ (8:Int)=6 by omega,atU,atV,atF,atG,Bool.true_and,Bool.false_and,Bool.false_or]
   by_cases Z:s.Max<0
   ·simp only [Z,show¬ 0≤s.Max by omega,atF,atG,Bool.true_or,Bool.false_and,atK]
   ·by_cases aa:999<s.Max
    ·simp only [Z,aa,show¬ s.Max≤999 by omega,atF,atG,atT,Bool.and_false,atK]
    ·simp only [Z,aa,show s.Max≤999 by omega,show 0≤s.Max by omega,atF,atG,Bool.or_self,Bool.and_self,atJ]
  ·simp only [bQ,di,atV,atG,Bool.false_and,Bool.or_self,atJ]
def al9(a y b z pre P Q:Bool)(G:Bool→at1):
 (Option.bind (bif (!pre && !a)then some y else some default) λr2=>Option.bind (bif (!(pre||(!a && !r2)) && !b)then some z else some default) λr3=>G ((((pre||(!a && !r2))||(!b && !r3))||P)||Q))=G ((((pre||(!a && !y))||(!b && !z))||P)||Q):=by
 cases pre<;>cases a<;>cases y<;>cases b<;>cases z<;>rfl
def al'{n:Nat}(s:Stmt)(d:Int)(hn:25<n)(aN:dd s.A≤n)(cL:dd s.B≤n)(uB:dd s.A≤140737488351232)(mA:dd s.B≤140737488351232)(aR:s.Name.length<n)(al_:s.Name.length≤140737488351232):J7 n s d=some (km s d):=by
 unfold J7 J6 J5 km;by_cases dV:1≤s.Op∧s.Op≤8
 ·have Tv:(
   jX s.Op).2=true:=by
   have:s.Op=1∨s.Op=2∨s.Op=3∨s.Op=4∨s.Op=5∨s.Op=6∨s.Op=7∨s.Op=8:=by omega
   rcases this with e|e|e|e|e|e|e|e<;>rw [e]<;>rfl
  simp only [al3 n s.Op dV,al,i8,my,aaZ,AI s.Name aR hn (by omega),aaX s.A aN uB,aaX s.B cL mA,Tv,show¬ s.Op<1 by omega,show¬ 8<s.Op by omega,atG,atI,ef,dt,Bool.or_self,Bool.false_or,al8,eL]
  generalize ry s=r
  unfold AO;generalize (jX s.Op).1=u
  generalize decide (s.Name=[])=fG
  generalize nb s.A=y
  generalize nb s.B=z
  generalize decide (s.Max=0)=w
  generalize decide (0<s.Body.length)=p
  generalize decide (0<s.bx.length)=q
  generalize gv s.Name=x
  obtain⟨mz,a,b,j_,kW,xg⟩:=u;simp only
  have hm:((!mz && !fG)||(!a && !y)||(!b && !z)||(!j_ && !w)||(!kW&&p)||(!xg&&q))=((((((!mz && !fG)||(!j_ && !w))||(!a && !y))||(!b && !z))||(!kW&&p))||(!xg&&q)):=by
   generalize (!mz && !fG)=c1
   generalize (!j_ && !w)=c2
   generalize (!a && !y)=c3
   generalize (!b && !z)=c4
   cases c1<;>cases c2<;>cases c3<;>cases c4<;>rfl
  rw [hm];clear hm;generalize ((!mz && !fG)||(!j_ && !w))=pre
  generalize (!kW&&p)=c1
  generalize (!xg&&q)=c2
  refine(al9 a y b z pre c1 c2 (λc=>bif c then some 1 else bif !r then some 1 else Option.bind (bif mz then some x else some default) λbO=>bif (mz && !bO)then some 7 else
   bif a then(bif !decide (gS s.A 1=0)then some (gS s.A 1)else bif b then(bif !decide (gS s.B 1=0)then some (gS s.B 1)else bif decide (12<d)then some 2 else some 0)else bif decide (12<d)then some 2 else some 0)
   else bif b then(bif !decide (gS s.B 1=0)then some (gS s.B 1)else bif decide (12<d)then some 2 else some 0)else bif decide (12<d)then some 2 else some 0)).trans ?_
  generalize ((((pre||(!a && !y))||(!b && !z))||c1)||c2)=m
  cases m
  ·cases r
   ·simp
   ·simp only [atJ,atK,atH,atI,al,Bool.true_and,Bool.and_true,Bool.true_eq_false,Bool.false_eq_true,or_self,atV];cases mz
    ·simp only [atI,al,Bool.false_eq_true,false_and,atV,Bool.false_and];cases a
     ·simp only [atI,Bool.false_eq_true,false_and,atV];cases b
      ·by_cases gL:12<d<;>simp [gL]
      ·by_cases hb:gS s.B 1=0<;>by_cases gL:12<d<;>simp [hb,gL]
     ·by_cases ha:gS s.A 1=0
      ·cases b
       ·by_cases gL:12<d<;>simp [ha,gL]
       ·by_cases hb:gS s.B 1=0<;>by_cases gL:12<d<;>simp [ha,hb,gL]
      ·simp [ha]
    ·cases x
     ·simp
     ·simp only [atH,al,atJ,atI,Bool.true_eq_false,and_false,atV,Bool.and_false];cases a
      ·simp only [atI,Bool.false_eq_true,false_and,atV];cases b
       ·by_cases gL:12<d<;>simp [gL]
       ·by_cases hb:gS s.B 1=0<;>by_cases gL:12<d<;>simp [hb,gL]
      ·by_cases ha:gS s.A 1=0
       ·cases b
        ·by_cases gL:12<d<;>simp [ha,gL]
        ·by_cases hb:gS s.B 1=0<;>by_cases gL:12<d<;>simp [ha,hb,gL]
       ·simp [ha]
  ·simp
 ·have Tv:(jX s.Op).2=false:=by
   unfold jX;rw [if_neg (by omega),if_neg (by omega),if_neg (by omega),if_neg (by omega),if_neg (by omega),if_neg (by omega)]
  have hb:(decide (s.Op<1)||decide (8<s.Op))=true:=by
   by_cases Z:s.Op<1
   ·rw [decide_eq_true Z];rfl
   ·rw [decide_eq_true (show 8<s.Op by omega)];simp
  simp only [al4 n s.Op dV,al,Tv,hb,dt,ef,Bool.true_or,atJ,Bool.false_and,atI,atH,true_or,atU]
open Go Go.Ab Go.Proofs
def uC(before:List Param):List Param→Int
 |[]=>0
 |x::l=>if gv x.Name=false then 7 else if x.fs<1∨3<x.fs then 10 else if(before.any λy=>decide (y.Name=x.Name))=true then 8 else uC (before++[x]) l
def ama(n:Nat)(s:List Param)(b:Param)(hs:s.length≤4611686018427387904):∀m i,s.length<i+m→i≤s.length→
 ∃r,yJ n s b m (i:Int)=some r∧(decide (0≤r)=(s.drop i).any λy=>decide (y.Name=b.Name)):=by
 intro m;induction m with
 |zero=>intro i h aa;omega
 |succ m aH=>
  intro i hm hi;simp only [yJ,O9,O8,O7];by_cases h:i<s.length
  ·obtain⟨r,Z,aa⟩:=aH (i+1) (by omega) (by omega)
   (rw [e8 s i default h,bv (by omega)];simp only [atN];rw [Z])
   generalize s.getD i default=c
   simp only [h,bI h,atO,atF,atH,aL,al,List.any_cons];by_cases hc:c.Name=b.Name
   ·simp only [hc,atF,atH,Bool.true_or];exact⟨_,rfl,decide_eq_true (by omega)⟩
   ·simp only [hc,atG,atI,Bool.false_or];exact⟨r,rfl,aa⟩
  ·rw [gu s i h];simp only [h,atO,atG,atI];exact⟨-1,rfl,rfl⟩
def amb{n:Nat}(s:List Param)(b:Param)(hs:s.length≤4611686018427387904)(hn:s.length<n):HJ n s b=some (s.any λy=>decide (y.Name=b.Name)):=by
 unfold HJ O';obtain⟨r,Z,aa⟩:=ama n s b hs n 0 (by omega) (by omega)
 rw [show yJ n s b n 0=_ from Z,al,aa,List.drop_zero]
def xh{α:Type}[Inhabited α](l:List α)(i:Nat)(h:i<l.length):l.take (i+1)=l.take i++[l.getD i default]:=by
 rw [List.take_add,e8 l i default h,List.take_succ_cons,List.take_zero]
def Tw:∀(l:List Param) (i:Nat),i<l.length→(l.getD i default).Name.length<h2 l
 |[],i,h=>by simp at h
 |x::l,0,h=>by simp only [h2,List.getD_cons_zero];omega
 |x::l,i+1,h=>by have:=Tw l i (by simpa using h);simp only [h2,List.getD_cons_succ];omega
def amc(n:Nat)(l:List Param)(aW:h2 l<n)(tA:h2 l≤140737488351232):∀m i,l.length<i+m→i≤l.length→yK n l m (i:Int)=some (uC (l.take i) (l.drop i)):=by
 have hlen:=AN l;intro m;induction m with
 |zero=>intro i h aa;omega
 |succ m aH=>
  intro i hm hi;simp only [yK,Pa,O_];by_cases h:i<l.length
  ·have hg:=Tw l i h
   (rw [e8 l i default h,bv (by omega)];simp only [atN];rw [aH (i+1) (by omega) (by omega),xh l i h])
   generalize l.getD i default=c at hg
   rw [AJ n c.Name (by omega),amb (l.take i) c (by simp;omega) (by simp;omega)]
   simp only [h,bI h,atO,atF,atH,aL,al,xb hi,dt,uC];cases gv c.Name
   ·simp
   ·by_cases aF:c.fs<1∨3<c.fs
    ·have:(decide (c.fs<1)||decide (3<c.fs))=true:=by rcases aF with aF|aF<;>rw [decide_eq_true aF]<;>simp
     simp [this,aF]
    ·have:(decide (c.fs<1)||decide (3<c.fs))=false:=by rw [decide_eq_false (λe=>aF (Or.inl e)),decide_eq_false (λe=>aF (Or.inr e))];rfl
     rw [this];simp only [atJ,atI,Bool.true_eq_false,atV,aF];cases ((l.take i).any λy=>decide (y.Name=c.Name))<;>rfl
  ·rw [gu l i h];simp only [h,atO,atG,atI];rfl
def amd(n:Nat)(ak:Int→at1)(l:List Param)(i:Nat)(h:i<l.length)(hs:l.length≤4611686018427387904):∀m k,i<k+m→k≤i→
 zZ n ak l (i:Int) m (k:Int)=if(((l.take i).drop k).any λy=>decide (y.Name=(l.getD i default).Name))=true then some 8 else ak ((i+1:Nat):Int):=by
 intro m;induction m with
 |zero=>intro k Z aa;omega
 |succ m aH=>
  intro k hm hk;simp only [zZ,RF,RE];by_cases GS:k<i
  ·have e:(l.take i).drop k=l.getD k default::(l.take i).drop (k+1):=by
    rw [e8 (l.take i) k default (by simp;omega)]
    congr 1
    simp [List.getD,GS]
   (rw [e,bv (by omega),aH (k+1) (by omega) (by omega)];simp only [atN])
   generalize l.getD k default=c
   simp only [GS,bI h,bI (show k<l.length by omega),atO,atF,atH,aL,List.any_cons]
   by_cases hc:c.Name=(l.getD i default).Name
   ·simp only [hc,atF,atH,Bool.true_or,atU]
   ·simp only [hc,atG,atI,Bool.false_or]
  ·obtain rfl:k=i:=by omega
   rw [gu (l.take k) k (by simp;omega),bv (by omega)]
   simp only [atO,Nat.lt_irrefl,atG,atI,List.any_nil,Bool.false_eq_true,atV]
def ame(n:Nat)(l:List Param)(hn:25<n)(aW:h2 l<n)(tA:h2 l≤140737488351232):∀m i,l.length<i+m→i≤l.length→ul n l m (i:Int)=some (uC (l.take i) (l.drop i)):=by
 have hlen:=AN l;intro m;induction m with
 |zero=>intro i h aa;omega
 |succ m aH=>
  intro i hm hi;simp only [ul,RG,RD];by_cases h:i<l.length
  ·have hg:=Tw l i h;have aC:=amd n (ul n l m) l i h (by omega) n 0 (by omega) (by omega)
   rw [show zZ n (ul n l m) l (i:Int) n 0=_ from aC,List.drop_zero]
   (rw [e8 l i default h];simp only [atN];rw [aH (i+1) (by omega) (by omega),xh l i h])
   generalize l.getD i default=c at hg
   rw [AI c.Name (by omega) hn (by omega)]
   simp only [h,bI h,atO,atF,atH,aL,al,atT,dt,uC];cases gv c.Name
   ·simp
   ·by_cases aF:c.fs<1∨3<c.fs
    ·have:(decide (c.fs<1)||decide (3<c.fs))=true:=by rcases aF with aF|aF<;>rw [decide_eq_true aF]<;>simp
     simp [this,aF]
    ·have:(decide (c.fs<1)||decide (3<c.fs))=false:=by rw [decide_eq_false (λe=>aF (Or.inl e)),decide_eq_false (λe=>aF (Or.inr e))];rfl
     rw [this];simp only [atJ,atI,Bool.true_eq_false,atV,aF];cases ((l.take i).any λy=>decide (y.Name=c.Name))<;>rfl
  ·rw [gu l i h];simp only [h,atO,atG,atI];rfl
def qm(l:List Param):Int:=if 6<l.length then 2 else uC [] l
def amf{n:Nat}(l:List Param)(aW:h2 l<n)(tA:h2 l≤140737488351232):HK n l=some (qm l):=by
 have hlen:=AN l;unfold HK qm;have:=amc n l aW tA n 0 (by omega) (by omega)
 rw [show yK n l n 0=_ from this]
 simp only [eL];by_cases h:6<l.length
 ·simp only [h,atF,atH,atU]
 ·simp only [h,atG,atI,atV,List.take_zero,List.drop_zero]
def amg{n:Nat}(l:List Param)(hn:25<n)(aW:h2 l<n)(tA:h2 l≤140737488351232):J0 n l=some (qm l):=by
 have hlen:=AN l;unfold J0 qm;have:=ame n l hn aW tA n 0 (by omega) (by omega)
 rw [show ul n l n 0=_ from this]
 simp only [eL];by_cases h:6<l.length
 ·simp only [h,atF,atH,atU]
 ·simp only [h,atG,atI,atV,List.take_zero,List.drop_zero]
open Go Go.Ab Go.Proofs
mutual
def s5:Expr→Nat→Nat
 |⟨_,_,_,ar⟩,k=>if k=0 then 0 else qn ar (k-1)
def qn:List Expr→Nat→Nat
 |[],k=>k
 |x::l,k=>qn l (s5 x k)
end
def aa0(e:Expr)(k:Nat):s5 e k=if k=0 then 0 else qn e.ar (k-1):=by cases e;rfl
mutual
def Fh:∀(e:Expr) (k:Nat),s5 e k≤k
 |⟨_,_,_,ar⟩,k=>by
  have:=Tx ar (k-1)
  simp only [s5];split<;>omega
def Tx:∀(l:List Expr) (k:Nat),qn l k≤k
 |[],k=>Nat.le_refl _
 |x::l,k=>by
  have Z:=Fh x k;have aa:=Tx l (s5 x k);simp only [qn];omega
end
def jY(e:Expr)(k:Nat):Nat:=if k=0∨nb e=true then k else s5 e k
def LA(e:Expr)(k:Nat):jY e k≤k:=by unfold jY;split;exact Nat.le_refl _;exact Fh e k
mutual
def qo:Stmt→Int→Nat×Int→Nat×Int
 |⟨Op,Name,Max,A,B,Body,bx⟩,d,r=>
  h3 bx (atY (d+1)) (h3 Body (atY (d+1)) (jY B (jY A (r.1-1)),if r.2=0 then km ⟨Op,Name,Max,A,B,Body,bx⟩ d else r.2))
def h3:List Stmt→Int→Nat×Int→Nat×Int
 |[],d,r=>r
 |s::l,d,r=>if r.1=0 then r else h3 l d (qo s d r)
end
def aa1(s:Stmt)(d:Int)(r:Nat×Int):qo s d r=h3 s.bx (atY (d+1)) (h3 s.Body (atY (d+1)) (jY s.B (jY s.A (r.1-1)),if r.2=0 then km s d else r.2)):=by cases s;rfl
mutual
def amh:∀(s:Stmt) (d:Int) (r:Nat×Int),(qo s d r).1≤r.1
 |⟨Op,Name,Max,A,B,Body,bx⟩,d,r=>by
  have Z:=LA A (r.1-1);have aa:=LA B (jY A (r.1-1));have aj:=uD Body (atY (d+1)) (jY B (jY A (r.1-1)),if r.2=0 then km ⟨Op,Name,Max,A,B,Body,bx⟩ d else r.2)
  have aC:=uD bx (atY (d+1)) (h3 Body (atY (d+1)) (jY B (jY A (r.1-1)),if r.2=0 then km ⟨Op,Name,Max,A,B,Body,bx⟩ d else r.2))
  simp only [qo]at *;omega
def uD:∀(l:List Stmt) (d:Int) (r:Nat×Int),(h3 l d r).1≤r.1
 |[],d,r=>Nat.le_refl _
 |s::l,d,r=>by
  have Z:=amh s d r;have aa:=uD l d (qo s d r);simp only [h3];split
  ·exact Nat.le_refl _
  ·omega
end
def ami:∀(n:Nat) (e:Expr) (k:Nat) (b:Int),dd e≤n→dd e≤140737488351232→k≤1000→yO n e (k:Int) b=some ((s5 e k:Nat):Int):=by
 intro n;induction n with
 |zero=>intro e k b h;rw [qi]at h;omega
 |succ n aH=>
  intro e k b h ab hk;have uz:=qi e;have ru:=E_ e.ar;simp only [yO,Pk,fq];rw [aa0];by_cases h0:k=0
  ·rw [if_pos h0];simp only [h0,atF,atH]
  ·rw [if_neg h0];simp only [h0,atG,atI]
   have gN:∀m i k,e.ar.length<i+m→i≤e.ar.length→k≤1000→CU n (yO n) e b m ((k:Nat):Int) (i:Int)=some ((qn (e.ar.drop i) k:Nat):Int):=by
    intro m;induction m with
    |zero=>intro i k Z aa;omega
    |succ m k8=>
     intro i k Z aa hk;simp only [CU,Pj];by_cases hi:i<e.ar.length
     ·have hg:=Fa e.ar i hi;have hle:=Fh (e.ar.getD i default) k
      (rw [e8 e.ar i default hi,bv (by omega)];simp only [atN];rw [aH _ k b (by omega) (by omega) hk])
      simp only [hi,bI hi,atO,atF,atH,aL,al,qn];exact k8 (i+1) _ (by omega) (by omega) (by omega)
     ·rw [gu e.ar i hi];simp only [hi,atO,atG,atI,qn]
   rw [show atY ((k:Int)-1)=((k-1:Nat):Int)by rw [wr]<;>omega]
   exact gN n 0 (k-1) (by omega) (by omega) (by omega)
def aa2{n:Nat}(e:Expr)(k:Nat)(b:Int)(h:dd e≤n)(ab:dd e≤140737488351232)(hk:k≤1000):CV n e (k:Int) b=some ((jY e k:Nat):Int):=by
 unfold CV jY Pi;simp only [aaY,fq,ami n e k b h ab hk,al];by_cases h0:k=0
 ·simp [h0]
 ·cases nb e<;>simp [h0]
open Go Go.Ab Go.Proofs
def LB:∀(l:List Stmt) (i:Nat),i<l.length→fst (l.getD i default)<du l
 |[],i,h=>by simp at h
 |x::l,0,h=>by simp only [du,List.getD_cons_zero];omega
 |x::l,i+1,h=>by have:=LB l i (by simpa using h);simp only [du,List.getD_cons_succ];omega
def aa3{α β:Type}(x:α×β):(x.1,x.2)=x:=rfl
def amj:∀(n:Nat) (l:List Stmt) (d:Int) (k:Nat) (e:Int),du l+2≤n→du l≤140737488351232→k≤1000→
 wa n l d (k:Int) e=some ((((h3 l d (k,e)).1:Nat):Int),(h3 l d (k,e)).2):=by
 intro n;induction n with
 |zero=>intro l d k e h;omega
 |succ n aH=>
  intro l d k e h ab hk;have ru:=s2 l;simp only [wa,Pm]
  have gN:∀m i k e,l.length<i+m→i≤l.length→k≤1000→CW n (wa n) d l m ((k:Nat):Int) e (i:Int)=some ((((h3 (l.drop i) d (k,e)).1:Nat):Int),(h3 (l.drop i) d (k,e)).2):=by
   intro m;induction m with
   |zero=>intro i k e Z aa;omega
   |succ m k8=>
    intro i k e Z aa hk;simp only [CW,Pl,i8,my];by_cases hi:i<l.length
    ·have hg:=LB l i hi
     (rw [e8 l i default hi];simp only [atN])
     generalize l.getD i default=s at hg
     have mj:=fst_eq s;rw [bv (by omega)]
     simp only [hi,bI hi,atO,atF,atH,aL,fq,h3];by_cases h0:k=0
     ·simp only [h0,atF,atH,atU]
     ·simp only [h0,atG,atI,atV]
      have aw:HU n s d e=some (if e=0 then km s d else e):=by
       unfold HU;simp only [i8,my,al6 s d (show dd s.A≤n by omega) (show dd s.B≤n by omega) (by omega) (by omega) (by omega),al]
       by_cases he:e=0
       ·simp only [he,atF,atH,atU]
       ·simp only [he,atG,atI,atV]
      rw [aw,al,show atY ((k:Int)-1)=((k-1:Nat):Int)by rw [wr]<;>omega]
      have fk:=LA s.A (k-1);have eQ:=LA s.B (jY s.A (k-1));rw [aa2 s.A (k-1) _ (by omega) (by omega) (by omega),al,aa2 s.B _ _ (by omega) (by omega) (by omega),al]
      have NI:=uD s.Body (atY (d+1)) (jY s.B (jY s.A (k-1)),if e=0 then km s d else e)
      rw [aH s.Body _ _ _ (by omega) (by omega) (by omega),al]
      simp only [aa3]at NI ⊢;have as0:=uD s.bx (atY (d+1)) (h3 s.Body (atY (d+1)) (jY s.B (jY s.A (k-1)),if e=0 then km s d else e))
      rw [aH s.bx _ _ _ (by omega) (by omega) (by omega),al]
      simp only [aa3];rw [k8 (i+1) _ _ (by omega) (by omega) (by omega),aa1]
    ·rw [gu l i hi];simp only [hi,atO,atG,atI,h3]
  exact gN n 0 k e (by omega) (by omega) hk
open Go Go.Ab Go.Proofs
abbrev la:=cr
def iq:Int→List la→Int
 |e,[]=>e
 |e,v::l=>iq (if e=0∧v.p2=true then km v.Stmt v.CC else e) l
def aa4:∀(l m:List la) (e:Int),iq e (l++m)=iq (iq e l) m
 |[],m,e=>rfl
 |v::l,m,e=>by rw [List.cons_append,iq,iq,aa4 l m]
def Ty:∀(l:List la) (e:Int),(∀v,v∈l→v.p2=false)→iq e l=e
 |[],e,h=>rfl
 |v::l,e,h=>by
  rw [iq,h v (List.mem_cons_self),Ty l _ λw hw=>h w (List.mem_cons_of_mem _ hw)]
  simp
def aa5{k:Nat}(h:k≤100000):room k 272=true:=by simp [room];omega
def amk:∀(n:Nat) (e:Expr) (out:List la) (root:Bool),dd e≤n→dd e≤140737488351232→out.length≤401→
 ∃ext,sQ n out e root=some (out++ext)∧(out++ext).length≤401∧401-(out++ext).length=s5 e (401-out.length)∧∀v,v∈ext→v.p2=false:=by
 intro n;induction n with
 |zero=>intro e out root h;rw [qi]at h;omega
 |succ n aH=>
  intro e out root h ab av;have uz:=qi e;have ru:=E_ e.ar;simp only [sQ,Rx,eL];rw [aa0];by_cases h0:400<out.length
  ·simp only [h0,atF,atH];rw [if_pos (by omega)]
   exact⟨[],by simp,by simpa using av,by simp;omega,λv aw=>by cases aw⟩
  ·simp only [h0,atG,atI,atL,atM,aa5 (show out.length+(0+1)≤100000 by omega),aL]
   rw [if_neg (by omega)]
   have gN:∀m i (out:List la),e.ar.length<i+m→i≤e.ar.length→out.length≤401→
    ∃ext,D7 n (sQ n) e m out (i:Int)=some (out++ext)∧(out++ext).length≤401∧401-(out++ext).length=qn (e.ar.drop i) (401-out.length)∧∀v,v∈ext→v.p2=false:=by
    intro m;induction m with
    |zero=>intro i out Z aa;omega
    |succ m k8=>
     intro i out Z aa av;simp only [D7,Rw,Rv];by_cases hi:i<e.ar.length
     ·have hg:=Fa e.ar i hi
      (rw [e8 e.ar i default hi];simp only [atN])
      generalize e.ar.getD i default=a at hg
      rw [bv (by omega)]
      simp only [hi,bI hi,atO,atF,atH,aL,jD,qn];by_cases Fj:out.length≤400
      ·simp only [Fj,atF,atH];obtain⟨dz,e1,e2,e3,h'⟩:=aH a out false (by omega) (by omega) av
       obtain⟨ew,f1,f2,f3,f4⟩:=k8 (i+1) (out++dz) (by omega) (by omega) e2
       rw [e1,al,f1];refine⟨dz++ew,by rw [List.append_assoc],by rw [←List.append_assoc];exact f2,by rw [←List.append_assoc,f3,e3],λv aw=>?_⟩
       rcases List.mem_append.1 aw with aw|aw
       ·exact h' v aw
       ·exact f4 v aw
      ·simp only [Fj,atG,atI];have dw:401-out.length=0:=by omega
       have as1:=Fh a 0;have yj:=Tx (e.ar.drop (i+1)) (s5 a 0);exact⟨[],by simp,by simpa using av,by rw [dw];simp;omega,λv aw=>by cases aw⟩
     ·rw [gu e.ar i hi];simp only [hi,atO,atG,atI,qn];exact⟨[],by simp,by simpa using av,by simp,λv aw=>by cases aw⟩
   obtain⟨x,e1,e2,e3,h'⟩:=gN n 0 (out++[⟨false,⟨0,[],0,⟨0,0,[],[]⟩,⟨0,0,[],[]⟩,[],[]⟩,0,e,root⟩]) (by omega) (by omega) (by simp;omega)
   refine⟨⟨false,⟨0,[],0,⟨0,0,[],[]⟩,⟨0,0,[],[]⟩,[],[]⟩,0,e,root⟩::x,?_,?_,?_,?_⟩
   ·exact e1.trans (by simp)
   ·simpa using e2
   ·have:401-(out++[(⟨false,⟨0,[],0,⟨0,0,[],[]⟩,⟨0,0,[],[]⟩,[],[]⟩,0,e,root⟩:la)]).length=401-out.length-1:=by simp;omega
    rw [this,List.drop_zero]at e3;simpa using e3
   ·intro v aw;rcases List.mem_cons.1 aw with rfl|aw
    ·rfl
    ·exact h' v aw
open Go Go.Ab Go.Proofs
def aa6{α:Type}{n:Nat}(e:Expr)(out:List la)(G:List la→Option α)(h:dd e≤n)(ab:dd e≤140737488351232)(av:out.length≤401):
 ∃ext,(Option.bind (sP n e) λr=>bif !r then Option.bind (sQ n out e true) G else G out)=G (out++ext)∧(out++ext).length≤401∧401-(out++ext).length=jY e (401-out.length)∧∀v,v∈ext→v.p2=false:=by
 rw [aaZ,al];unfold jY;cases mY:nb e
 ·obtain⟨x,e1,e2,e3,h'⟩:=amk n e out true h ab av;refine⟨x,?_,e2,?_,h'⟩
  ·rw [e1];rfl
  ·rw [e3];by_cases h0:401-out.length=0
   ·rw [if_pos (Or.inl h0),h0];have:=Fh e 0
    omega
   ·rw [if_neg (by simp [h0])]
 ·refine⟨[],by simp,by simpa using av,?_,λv aw=>by cases aw⟩
  rw [if_pos (Or.inr rfl)];simp
def aml:∀(n:Nat) (l:List Stmt) (d:Int) (out:List la) (e:Int),du l+2≤n→du l≤140737488351232→out.length≤401→
 ∃ext,m9 n out l d=some (out++ext)∧(out++ext).length≤401∧(401-(out++ext).length,iq e ext)=h3 l d (401-out.length,e)∧∀v,v∈ext→v.p2=true→fst v.Stmt<du l:=by
 intro n;induction n with
 |zero=>intro l d out e h;omega
 |succ n aH=>
  intro l d out e h ab av;have ru:=s2 l;simp only [m9,RB]
  have gN:∀m i (out:List la) (e:Int),l.length<i+m→i≤l.length→out.length≤401→
   ∃ext,uk n (m9 n) l d m out (i:Int)=some (out++ext)∧(out++ext).length≤401∧(401-(out++ext).length,iq e ext)=h3 (l.drop i) d (401-out.length,e)∧∀v,v∈ext→v.p2=true→fst v.Stmt<du l:=by
   intro m;induction m with
   |zero=>intro i out e Z aa;omega
   |succ m k8=>
    intro i out e Z aa av;simp only [uk,RA,Ry,JZ,JY,Rz,i8,my];by_cases hi:i<l.length
    ·have hg:=LB l i hi
     (rw [e8 l i default hi];simp only [atN])
     generalize l.getD i default=s at hg
     have mj:=fst_eq s;rw [bv (by omega)]
     simp only [hi,bI hi,atO,atF,atH,aL,jD,h3];by_cases Fj:out.length≤400
     ·rw [if_neg (by omega)]
      simp only [Fj,atF,atH,atL,atM,aa5 (show out.length+(0+1)≤100000 by omega),aL]
      obtain⟨dz,aZ,a2,a3,a4⟩:=aa6 (n:=n) s.A (out++[(⟨true,s,d,⟨0,0,[],[]⟩,false⟩:la)]) (λv28=>Option.bind (sP n s.B) λim=>bif !im then Option.bind (sQ n v28 s.B true) λmu=>
       Option.bind (m9 n mu s.Body (atY (d+1))) λk4=>Option.bind (m9 n k4 s.bx (atY (d+1))) λoA=>uk n (m9 n) l d m oA ((i+1:Nat):Int)
       else Option.bind (m9 n v28 s.Body (atY (d+1))) λk4=>Option.bind (m9 n k4 s.bx (atY (d+1))) λoA=>uk n (m9 n) l d m oA ((i+1:Nat):Int)) (by omega) (by omega) (by simp;omega)
      rw [aZ];obtain⟨ew,cY,jj,Fk,LC⟩:=aa6 (n:=n) s.B (out++[(⟨true,s,d,⟨0,0,[],[]⟩,false⟩:la)]++dz) (λv=>Option.bind (m9 n v s.Body (atY (d+1))) λk4=>Option.bind (m9 n k4 s.bx (atY (d+1))) λoA=>uk n (m9 n) l d m oA ((i+1:Nat):Int)) (by omega) (by omega) a2
      rw [cY];obtain⟨i',c1,c2,c3,c4⟩:=aH s.Body (atY (d+1)) _ (if e=0 then km s d else e) (by omega) (by omega) jj
      rw [c1,al];obtain⟨fp,d1,d2,d3,d4⟩:=aH s.bx (atY (d+1)) _ (iq (if e=0 then km s d else e) i') (by omega) (by omega) c2
      rw [d1,al];obtain⟨kI,f1,f2,f3,f4⟩:=k8 (i+1) _ (iq (iq (if e=0 then km s d else e) i') fp) (by omega) (by omega) d2
      rw [f1];have Xy:401-(out++[(⟨true,s,d,⟨0,0,[],[]⟩,false⟩:la)]).length=401-out.length-1:=by simp;omega
      refine⟨(⟨true,s,d,⟨0,0,[],[]⟩,false⟩:la)::(dz++(ew++(i'++(fp++kI)))),?_,?_,?_,?_⟩
      ·simp
      ·simpa using f2
      ·have e1:iq e ((⟨true,s,d,⟨0,0,[],[]⟩,false⟩:la)::(dz++(ew++(i'++(fp++kI)))))=iq (iq (iq (if e=0 then km s d else e) i') fp) kI:=by
        simp only [iq,and_true,aa4];rw [Ty dz _ a4,Ty ew _ LC]
       have e2:(out++(⟨true,s,d,⟨0,0,[],[]⟩,false⟩:la)::(dz++(ew++(i'++(fp++kI))))).length=(out++[(⟨true,s,d,⟨0,0,[],[]⟩,false⟩:la)]++dz++ew++i'++fp++kI).length:=by simp
       rw [e1,e2,f3]
       congr 1
       rw [aa1];simp only
       rw [d3,c3,Fk,a3,Xy]
      ·intro v aw dx;simp only [List.mem_cons,List.mem_append]at aw;rcases aw with rfl|aw|aw|aw|aw|aw
       ·exact hg
       ·rw [a4 v aw]at dx;cases dx
       ·rw [LC v aw]at dx;cases dx
       ·have:=c4 v aw dx;omega
       ·have:=d4 v aw dx;omega
       ·exact f4 v aw dx
     ·rw [if_pos (by omega)]
      simp only [Fj,atG,atI];exact⟨[],by simp,by simpa using av,by simp [iq],λv aw=>by cases aw⟩
    ·rw [gu l i hi];simp only [hi,atO,atG,atI,h3];exact⟨[],by simp,by simpa using av,by simp [iq],λv aw=>by cases aw⟩
  exact gN n 0 out e (by omega) (by omega) av
open Go Go.Ab Go.Proofs
def mB(p:bc):Int:=
 if gv p.Name=false then 7 else if qm p.Params≠0 then qm p.Params
 else if(h3 p.Body 1 (401,0)).2=0∧(h3 p.Body 1 (401,0)).1=0 then 2 else(h3 p.Body 1 (401,0)).2
def Tz{n:Nat}(p:bc)(aR:p.Name.length≤140737488351232)(kA:h2 p.Params<n)(LD:h2 p.Params≤140737488351232)(cL:du p.Body+2≤n)(mA:du p.Body≤140737488351232):CX n p=some (mB p):=by
 unfold CX Pn mB;rw [AJ n p.Name aR,amf p.Params kA LD];simp only [al];cases gv p.Name
 ·rfl
 ·simp only [atJ,atI,Bool.true_eq_false,atV];by_cases h:qm p.Params=0
  ·simp only [h,atF,atJ,atI,ne_eq,not_true,atV];have:=amj n p.Body 1 401 0 cL mA (by omega)
   rw [show wa n p.Body 1 401 0=_ from this]
   have hle:=uD p.Body 1 (401,0);simp only at hle
   generalize h3 p.Body 1 (401,0)=r at hle
   obtain⟨k,e⟩:=r;simp only [al];simp only at hle
   rw [show atY (401-((k:Nat):Int))=401-((k:Nat):Int)by rw [wr]<;>omega]
   by_cases he:e=0
   ·by_cases hk:k=0
    ·subst hk;subst he;rfl
    ·simp only [he,hk,atF,atH,and_false,atV,show¬ (400:Int)<401-((k:Nat):Int)by omega,atG,atI]
   ·simp only [he,atG,atI,false_and,atV]
  ·simp only [h,atG,atK,atH,ne_eq,not_false_iff,atU]
def aa7:∀(l:List la) (e:Int),e≠0→iq e l=e
 |[],e,h=>rfl
 |v::l,e,h=>by rw [iq,if_neg (λx=>h x.1),aa7 l e h]
def amm(n:Nat)(l:List la)(hn:25<n)(B:Nat)(cL:B≤n)(mA:B≤140737488351232)(ab:l.length≤401)(hs:∀v,v∈l→v.p2=true→fst v.Stmt<B):∀m i,l.length<i+m→i≤l.length→
 z6 n l m (i:Int)=some (if iq 0 (l.drop i)≠0 then iq 0 (l.drop i)else if 400<l.length then 2 else 0):=by
 intro m;induction m with
 |zero=>intro i h aa;omega
 |succ m aH=>
  intro i hm hi;simp only [z6,RP,RO,J8];by_cases h:i<l.length
  ·have aw:l.getD i default∈l:=by
    have e:l.getD i default=l[i]:=by simp [List.getD,h]
    rw [e];exact List.getElem_mem h
   have dx:=hs _ aw
   (rw [e8 l i default h,bv (by omega)];simp only [atN];rw [aH (i+1) (by omega) (by omega)])
   generalize l.getD i default=v at dx
   simp only [h,bI h,atO,atF,atH,aL,iq];cases ao:v.p2
   ·simp only [atI,Bool.false_eq_true,and_false,atV]
   ·have aW:=dx ao;have uz:=fst_eq v.Stmt;rw [al' v.Stmt v.CC hn (by omega) (by omega) (by omega) (by omega) (by omega) (by omega)]
    simp only [atH,al,and_self,atU];by_cases he:km v.Stmt v.CC=0
    ·simp only [he,atF,atJ,atI]
    ·simp only [he,atG,atK,atH];rw [aa7 _ _ he,if_pos he]
  ·rw [gu l i h];simp only [h,atO,atG,atI,iq,eL,ne_eq,not_true,atV];by_cases aC:400<l.length
   ·simp only [aC,atF,atH,atU]
   ·simp only [aC,atG,atI,atV]
def aa8{n:Nat}(p:bc)(hn:500<n)(aR:p.Name.length<n)(al_:p.Name.length≤140737488351232)(kA:h2 p.Params<n)(LD:h2 p.Params≤140737488351232)(cL:du p.Body+2≤n)(mA:du p.Body≤140737488351232):J9 n p=some (mB p):=by
 unfold J9 RC mB;rw [AI p.Name aR (by omega) (by omega),amg p.Params (by omega) kA LD]
 simp only [al];cases gv p.Name
 ·rfl
 ·simp only [atJ,atI,Bool.true_eq_false,atV];by_cases h:qm p.Params=0
  ·simp only [h,atF,atJ,atI,ne_eq,not_true,atV];obtain⟨ext,e1,e2,e3,h'⟩:=aml n p.Body 1 [] 0 cL mA (by simp)
   rw [List.nil_append]at e1 e2 e3;rw [e1];simp only [al];have:=amm n ext (by omega) (du p.Body) (by omega) mA e2 h' n 0 (by omega) (by omega)
   rw [show z6 n ext n 0=_ from this,List.drop_zero,atM]at *
   rw [show 401-0=401 from rfl]at e3
   rw [←e3];simp only
   by_cases he:iq 0 ext=0
   ·simp only [he,ne_eq,not_true,atV,true_and];by_cases aC:400<ext.length
    ·rw [if_pos aC,if_pos (by omega)]
    ·rw [if_neg aC,if_neg (by omega)]
   ·rw [if_pos he,if_neg (λx=>he x.1)]
  ·simp only [h,atG,atK,atH,ne_eq,not_false_iff,atU]
def amn:∀(n:Nat) (l:List Stmt),du l+2≤n→du l≤140737488351232→zD n l l=some true:=by
 intro n;induction n with
 |zero=>intro l h;omega
 |succ n aH=>
  intro l h ab;have ru:=s2 l;simp only [zD,QW,atF,atJ,atI]
  have gN:∀m i,l.length<i+m→i≤l.length→DU n (zD n) l l m (i:Int)=some true:=by
   intro m;induction m with
   |zero=>intro i Z aa;omega
   |succ m k8=>
    intro i Z aa;simp only [DU,QV,QU,i8,my];by_cases hi:i<l.length
    ·have hg:=LB l i hi
     (rw [bv (by omega),k8 (i+1) (by omega) (by omega)];simp only [atN])
     generalize l.getD i default=s at hg
     have mj:=fst_eq s;simp only [hi,bI hi,atO,atF,atJ,atH,atI,aL,aav n s.A (by omega) (by omega),aav n s.B (by omega) (by omega),aH s.Body (by omega) (by omega),aH s.bx (by omega) (by omega),al]
     rfl
    ·simp only [hi,atO,atG,atI]
  exact gN n 0 (by omega) (by omega)
def amo{n:Nat}(p:bc)(kA:p.Params.length<n)(LD:p.Params.length≤140737488351232)(cL:du p.Body+2≤n)(mA:du p.Body≤140737488351232):Jm n p p=some true:=by
 unfold Jm;simp only [atF,atJ,atI]
 have gN:∀m i,p.Params.length<i+m→i≤p.Params.length→DV n p p m (i:Int)=some true:=by
  intro m;induction m with
  |zero=>intro i Z aa;omega
  |succ m k8=>
   intro i Z aa;simp only [DV,QY,QX];by_cases hi:i<p.Params.length
   ·rw [bv (by omega),k8 (i+1) (by omega) (by omega)]
    simp only [hi,bI hi,atO,atF,Bool.and_self,atJ,atH,atI,aL]
   ·simp only [hi,atO,atG,atI,amn n p.Body cL mA,al]
 exact gN n 0 (by omega) (by omega)
open Go Go.Ab Go.Proofs
def aa9(p:bc):(⟨p.Name,p.Params,p.Body⟩:bc)=p:=rfl
open Go Go.Ab Go.Proofs
def c8(t:Token):Token:=⟨t.Kind,t.Text,t.N,0⟩
inductive eH:atW→List Token→Prop
 |nil:eH [] []
 |sp {c:UInt8} {s:atW} {T:List Token}:(c.toNat=10∨c.toNat=32)→eH s T→eH (c::s) T
 |tok {c:UInt8} {w s:atW} {t:Token} {T:List Token}:c.toNat≠10→c.toNat≠32→c.toNat≠9→c.toNat≠35→fS (c::(w++s))=(t,w.length+1,0)→t.lC=0→eH s T→eH (c::(w++s)) (t::T)
def drop_cons{src s:atW}{c:UInt8}{i:Nat}(h:src.drop i=c::s):i<src.length∧src.getD i 0=c∧src.drop (i+1)=s:=by
 have hi:i<src.length:=by
  by_cases hi:i<src.length
  ·exact hi
  ·rw [gu src i hi]at h;cases h
 rw [e8 src i 0 hi]at h;injection h with Z aa;exact⟨hi,Z,aa⟩
def amp(n:Nat)(src:atW)(hs:src.length≤1000000000)(hn:src.length<n)(rv:100<n){s:atW}{T:List Token}(h:eH s T):
 ∀(i m:Nat) (out:List Token) (jW:Nat),src.drop i=s→i≤src.length→src.length<i+m→lL out≤61*i→1≤jW→jW≤i+1→
 ∃l,sM n src m out (jW:Int) (i:Int)=some (out++l,0,0)∧l.map c8=T∧∀t,t∈l→1≤t.lC:=by
 induction h with
 |nil=>
  intro i m out jW hd hi hm hw Z aa;obtain⟨m,rfl⟩:∃j,m=j+1:=⟨m-1,by omega⟩
  have h:¬ i<src.length:=λh=>by rw [e8 src i 0 h]at hd;cases hd
  simp only [sM,zr,zp,h,atO,atG,atI];exact⟨[],by simp,rfl,λt aF=>by cases aF⟩
 | @sp c s T hc aG aH=>
  intro i m out jW hd hi hm hw Z aa;obtain⟨m,rfl⟩:∃j,m=j+1:=⟨m-1,by omega⟩
  obtain⟨h,hg,jh⟩:=drop_cons hd;simp only [sM,zr,zp,zq,DA]
  (rw [bv (by omega),bv (by omega)];simp only [atN];rw [hg])
  simp only [h,bI h,atO,atF,atH,aL,fq];rcases hc with hc|hc
  ·simp only [hc,atF,atH];exact aH (i+1) m out (jW+1) jh (by omega) (by omega) (by omega) (by omega) (by omega)
  ·simp only [hc,show¬ (32=10)by omega,atG,atF,atH,atI]
   exact aH (i+1) m out jW jh (by omega) (by omega) (by omega) (by omega) (by omega)
 | @tok c w s t T mC amq c9 amr aF ab aG aH=>
  intro i m out jW hd hi hm hw Z aa;obtain⟨m,rfl⟩:∃j,m=j+1:=⟨m-1,by omega⟩
  obtain⟨h,hg,jh⟩:=drop_cons hd;have hlen:(src.drop i).length=src.length-i:=List.length_drop;have NS:w.length+s.length+1=src.length-i:=by rw [←hlen,hd];simp
  have cE:=aaI (c::(w++s)) (by simp) (by rw [aF])
  rw [aF]at cE;simp only at cE
  have aW:zo n (src.drop i)=some (t,((w.length+1:Nat):Int),0):=by
   rw [hd,aaK c (w++s) (by simp;omega) (by simp;omega),aF]
  simp only [sM,zr,zp,zq,DA]
  (simp only [atN];rw [hg,aW])
  have Gr:=Lv out;simp only [h,bI h,atO,atF,atH,aL,fq,mC,amq,c9,amr,atG,atI,xb hi,al,atJ,clone (show t.Text.length≤281474976710656 by omega),atL,atM,aaO (show out.length+(0+1)≤1000000000000 by omega)]
  rw [show atY ((i:Int)+((w.length+1:Nat):Int))=((i+(w.length+1):Nat):Int)by rw [wr]<;>omega]
  obtain⟨l,e1,e2,e3⟩:=aH (i+(w.length+1)) m (out++[⟨t.Kind,t.Text,t.N,(jW:Int)⟩]) jW (by
   rw [←List.drop_drop,hd,List.drop_succ_cons,List.drop_left]) (by omega) (by omega) (by rw [Tl];simp only [lL];omega) Z (by omega)
  refine⟨⟨t.Kind,t.Text,t.N,(jW:Int)⟩::l,by rw [e1];simp,?_,?_⟩
  ·rw [List.map_cons,e2]
   congr 1
   unfold c8;rw [←ab]
  ·intro bS eK;rcases List.mem_cons.1 eK with rfl|eK
   ·simp only;omega
   ·exact e3 bS eK
def ams{n:Nat}{s:atW}{T:List Token}(h:eH s T)(hs:s.length≤16384)(hn:s.length<n)(rv:100<n):
 ∃l,wD n s=some (l,0,0)∧l.map c8=T∧(∀t,t∈l→1≤t.lC)∧k_ l∧lL l≤61*s.length:=by
 obtain⟨l,e1,e2,e3⟩:=amp n s (by omega) hn rv h 0 n [] 1 rfl (by omega) (by omega) (by simp [lL]) (by omega) (by omega)
 have e:wD n s=some (l,0,0):=by
  unfold wD;simp only [eL,show¬ 16384<s.length by omega,atG,atI]
  exact e1
 obtain⟨r,t1,t2,t3⟩:=alQ (λt=>t.Kind=5→t.Text∈marks) (λs jW Z aa=>alR s jW Z aa) (n:=n) s (by omega) (by omega)
 rw [e]at t1;obtain rfl:=Option.some.inj t1;obtain⟨g1,g2,g3⟩:=t3 rfl;exact⟨l,e,e2,e3,g3,g1⟩
open Go Go.Ab Go.Proofs
def amt(u:Nat):Lib.decDigits u=if u<10 then[UInt8.ofNat (48+u)]else Lib.decDigits (u / 10)++[UInt8.ofNat (48+u % 10)]:=by
 rw [Lib.decDigits];split<;>rfl
def aa'{k:Nat}(h:k<10):(UInt8.ofNat (48+k)).toNat=48+k:=by
 rw [UInt8.toNat_ofNat'];omega
def amu(u:Nat)(l m:atW):val u (l++m)=val (val u l) m:=by unfold val;rw [List.foldl_append]
def aa_:∀(u:Nat),(Lib.decDigits u).all ip=true∧val 0 (Lib.decDigits u)=u∧(∃c l,Lib.decDigits u=c::l∧(c=48→u=0))∧(u<10→(Lib.decDigits u).length=1):=by
 intro u;induction u using Nat.strongRecOn with
 |_ u aH=>
  rw [amt];by_cases h:u<10
  ·rw [if_pos h];have e:=aa' h;refine⟨?_,?_,⟨_,_,rfl,λh0=>?_⟩,λ_=>rfl⟩
   ·simp only [List.all_cons,List.all_nil,Bool.and_true,qj,e];omega
   ·rw [Fc,Fb,e];omega
   ·rw [h0]at e;have:(48:UInt8).toNat=48:=rfl
    omega
  ·rw [if_neg h];obtain⟨Z,aa,⟨c,l,aj,aC⟩,aT⟩:=aH (u / 10) (by omega)
   have e:=aa' (show u % 10<10 by omega)
   refine⟨?_,?_,⟨c,l++[UInt8.ofNat (48+u % 10)],by rw [aj];rfl,λh0=>?_⟩,λh0=>absurd h0 h⟩
   ·rw [List.all_append,Z];simp only [List.all_cons,List.all_nil,Bool.and_true,Bool.true_and,qj,e];omega
   ·rw [amu,aa,Fc,Fb,e];omega
   ·have:=aC h0;omega
def amv(u:Nat)(h:u≤9223372036854775807):nL (Lib.decDigits u)=((u:Int),0):=by
 obtain⟨Z,aa,⟨c,l,aj,aC⟩,aT⟩:=aa_ u;unfold nL;rw [if_pos,aa,if_pos h];refine⟨Z,?_⟩
 by_cases hc:c=48
 ·exact Or.inr (aT (by have:=aC hc;omega))
 ·left;rw [aj];simpa using hc
def aba{c:UInt8}(h:ip c=true):fP c=true:=by
 rw [qj]at h;unfold fP;exact decide_eq_true (by omega)
def abb{c:UInt8}(h:lJ c=true):fP c=true:=by
 unfold lJ at h;simp only [Bool.and_eq_true,decide_eq_true_eq]at h;unfold fP;exact decide_eq_true (by omega)
def amw{α:Type}{p q:α→Bool}(h:∀a,p a=true→q a=true){l:List α}(ab:l.all p=true):l.all q=true:=by
 rw [List.all_eq_true]at ab ⊢;exact λa ha=>h a (ab a ha)
def nN(r:atW):Prop:=∀c,r.head? = some c→fP c=false
def amx{w r:atW}(hw:w.all fP=true)(ai:nN r):hE (w++r)=w.length:=by
 induction w with
 |nil=>
  cases r with
  |nil=>rfl
  |cons c r=>rw [List.nil_append,uy,ai c rfl];rfl
 |cons c w aH=>
  simp only [List.all_cons,Bool.and_eq_true]at hw;rw [List.cons_append,uy,hw.1,aH hw.2];rfl
def TA{c:UInt8}{w r:atW}(hw:(c::w).all fP=true)(ai:nN r)(h0:(k9 (c::w)).2=0):fS (c::(w++r))=((k9 (c::w)).1,w.length+1,0):=by
 have hc:fP c=true:=by simp only [List.all_cons,Bool.and_eq_true]at hw;exact hw.1
 have ab:=amx hw ai;have aF:(c::(w++r)).take (w.length+1)=c::w:=by simp
 rw [List.cons_append]at ab;unfold fS;simp only [hc,atU,ab,atL,aF,h0]
def amy{w:atW}(h:w∈ph):∃c l,w=c::l∧lJ c=true∧w.all fP=true:=by
 simp only [ph,List.mem_cons,List.not_mem_nil,or_false]at h;rcases h with rfl|rfl|rfl|rfl|rfl|rfl|rfl|rfl|rfl|rfl|rfl|rfl|rfl|rfl|rfl|rfl|rfl|rfl|rfl|rfl|rfl|rfl|rfl|rfl|rfl<;>exact⟨_,_,rfl,rfl,rfl⟩
def amz{w:atW}:hE w=w.length→w.all fP=true:=by
 induction w with
 |nil=>intro;rfl
 |cons c w aH=>
  intro h;rw [uy]at h;cases hc:fP c
  ·rw [hc]at h;simp at h
  ·rw [hc]at h;simp only [atH,atL]at h;rw [List.all_cons,hc,aH (by omega)];rfl
def LE{w:atW}(h:gv w=true):∃c l,w=c::l∧lJ c=true∧w.all fP=true∧s0 w=false∧w.length≤16:=by
 cases w with
 |nil=>cases h
 |cons c l=>
  simp only [gv,Bool.and_eq_true,decide_eq_true_eq,Bool.not_eq_true']at h;obtain⟨⟨⟨Z,aa⟩,aj⟩,aC⟩:=h;exact⟨c,l,rfl,aa,amz (by simpa using aj),aC,by simp;omega⟩
def gB:atW→atW
 |[]=>[]
 |c::l=>if c.toNat=34∨c.toNat=92 then 92::c::gB l else c::gB l
def quo(s:atW):atW:=34::(gB s++[34])
def abc:∀(s acc r:atW),s.all okB=true→acc.length+s.length≤64→gw (gB s++34::r) acc = .inr (acc++s,(gB s).length+1)
 |[],acc,r,h,ab=>by
  simp only [gB,List.nil_append,List.append_nil,atM];rw [AK 34 r acc (by decide),if_pos (by decide)]
 |c::s,acc,r,h,ab=>by
  simp only [List.all_cons,Bool.and_eq_true]at h;simp only [atL]at ab;have aH:=abc s (acc++[c]) r h.2 (by simp;omega)
  simp only [gB];by_cases hc:c.toNat=34∨c.toNat=92
  ·rw [if_pos hc,List.cons_append,List.cons_append];simp only [gw];rw [if_neg (by decide),if_pos (by decide),if_neg (by omega),if_neg (by omega),aH]
   simp only [up,atL,List.append_assoc,List.singleton_append]
  ·rw [if_neg hc,List.cons_append,AK c _ acc (λe=>hc (Or.inr e)),if_neg (λe=>hc (Or.inl e)),if_neg (by rw [h.1];decide),if_neg (by omega),aH]
   simp only [up,atL,List.append_assoc,List.singleton_append]
def spell(t:Token):atW:=if t.Kind=3 then Lib.decDigits t.N.toNat else if t.Kind=4 then quo t.Text else t.Text
def mD(t:Token):Prop:=
 t.lC=0∧((t.Kind=1∧gv t.Text=true∧t.N=0)∨(t.Kind=2∧t.Text∈ph∧t.N=0)∨(t.Kind=3∧t.Text=[]∧0≤t.N∧t.N≤9223372036854775807)∨
  (t.Kind=4∧js t.Text=true∧t.N=0)∨(t.Kind=5∧t.Text∈marks∧t.N=0))
def AP(t:Token)(r:atW):Prop:=(t.Kind<4→nN r)∧(t.Kind=5→∀c d,t.Text=[c]→r.head? = some d→[c,d]∉two)
def amA{w:atW}(h:w∈marks):(w∈two∧∃a b,w=[a,b])∨∃c,w=[c]∧c∈pk:=by
 unfold marks at h;rcases List.mem_append.1 h with h|h
 ·left
  refine⟨h,?_⟩
  simp only [two,List.mem_cons,List.not_mem_nil,or_false]at h;rcases h with rfl|rfl|rfl|rfl|rfl<;>exact⟨_,_,rfl⟩
 ·right
  obtain⟨c,hc,rfl⟩:=List.mem_map.1 h;exact⟨c,rfl,hc⟩
def amB{c:UInt8}(h:c∈pk):fP c=false∧c.toNat≠34∧c.toNat≠10∧c.toNat≠32∧c.toNat≠9∧c.toNat≠35:=by
 simp only [pk,List.mem_cons,List.not_mem_nil,or_false]at h;rcases h with rfl|rfl|rfl|rfl|rfl|rfl|rfl|rfl|rfl|rfl|rfl|rfl|rfl|rfl|rfl<;>exact⟨rfl,by decide,by decide,by decide,by decide,by decide⟩
def amC{a b:UInt8}(h:[a,b]∈two):fP a=false∧a.toNat≠34∧a.toNat≠10∧a.toNat≠32∧a.toNat≠9∧a.toNat≠35:=by
 simp only [two,List.mem_cons,List.not_mem_nil,or_false,List.cons.injEq,and_true]at h;rcases h with⟨rfl,rfl⟩|⟨rfl,rfl⟩|⟨rfl,rfl⟩|⟨rfl,rfl⟩|⟨rfl,rfl⟩<;>exact⟨rfl,by decide,by decide,by decide,by decide,by decide⟩
def TB{c:UInt8}(h:fP c=true):c.toNat≠10∧c.toNat≠32∧c.toNat≠9∧c.toNat≠35:=by
 unfold fP at h;have:=of_decide_eq_true h
 omega
def amD(t:Token)(r:atW)(aw:mD t)(hb:AP t r):∃c w,spell t=c::w∧fS (c::(w++r))=(t,w.length+1,0)∧c.toNat≠10∧c.toNat≠32∧c.toNat≠9∧c.toNat≠35:=by
 obtain⟨k,x,N,jW⟩:=t;obtain⟨rfl,aw⟩:=aw;simp only at aw
 rcases aw with⟨rfl,Z,rfl⟩|⟨rfl,Z,rfl⟩|⟨rfl,rfl,Z,aa⟩|⟨rfl,Z,rfl⟩|⟨rfl,Z,rfl⟩
 ·obtain⟨c,l,rfl,aa,aj,aC,aT⟩:=LE Z;have hw:k9 (c::l)=(⟨1,c::l,0,0⟩,0):=by simp only [k9,aa,aC,Z,atU];rfl
  have:=TB (abb aa)
  exact⟨c,l,rfl,by rw [TA aj (hb.1 (by simp only;omega)) (by rw [hw]),hw],this.1,this.2.1,this.2.2.1,this.2.2.2⟩
 ·obtain⟨c,l,rfl,aa,aj⟩:=amy Z;have hw:k9 (c::l)=(⟨2,c::l,0,0⟩,0):=by simp only [k9,aa,s0,Z,atF,atU]
  have:=TB (abb aa)
  exact⟨c,l,rfl,by rw [TA aj (hb.1 (by simp only;omega)) (by rw [hw]),hw],this.1,this.2.1,this.2.2.1,this.2.2.2⟩
 ·obtain⟨u,rfl⟩:∃u:Nat,N=u:=⟨N.toNat,by omega⟩
  obtain⟨g1,g2,⟨c,l,g3,g4⟩,g5⟩:=aa_ u;have OC:spell ⟨3,[],(u:Int),0⟩=c::l:=by simp only [spell,atU,atN];exact g3
  have pW:(c::l).all ip=true:=by rw [←g3];exact g1
  have abd:ip c=true:=by simp only [List.all_cons,Bool.and_eq_true]at pW;exact pW.1
  have amE:lJ c=false:=by
   rw [qj]at abd;unfold lJ;rw [decide_eq_false (show¬ 97≤c.toNat by omega)];rfl
  have hn:nL (c::l)=((u:Int),0):=by rw [←g3];exact amv u (by omega)
  have hw:k9 (c::l)=(⟨3,[],(u:Int),0⟩,0):=by simp only [k9,amE,hn,atU];rfl
  have:=TB (aba abd)
  exact⟨c,l,OC,by rw [TA (amw (λ_=>aba) pW) (hb.1 (by simp only;omega)) (by rw [hw]),hw],this.1,this.2.1,this.2.2.1,this.2.2.2⟩
 ·unfold js at Z;simp only [Bool.and_eq_true,decide_eq_true_eq]at Z;refine⟨34,gB x++[34],rfl,?_,by decide,by decide,by decide,by decide⟩
  have:=abc x [] r Z.1 (by simp;omega)
  unfold fS;rw [List.append_assoc,List.singleton_append];simp only [show fP 34=false from rfl,Bool.false_eq_true,atV,show(34:UInt8).toNat=34 from rfl,atU,this,xd,List.nil_append,atP,atL,atM]
 ·rcases amA Z with⟨aa,a,b,rfl⟩|⟨c,rfl,aa⟩
  ·obtain⟨g0,g1,g2,g3,g4,g5⟩:=amC aa;refine⟨a,[b],rfl,?_,g2,g3,g4,g5⟩
   have hm:lK (a::b::r)=[a,b]:=by rw [Te,if_pos aa]
   unfold fS;simp only [List.singleton_append,g0,Bool.false_eq_true,atV,g1,hm,reduceCtorEq,atL,atM]
  ·obtain⟨g0,g1,g2,g3,g4,g5⟩:=amB aa;refine⟨c,[],rfl,?_,g2,g3,g4,g5⟩
   have hm:lK (c::r)=[c]:=by
    cases r with
    |nil=>rw [aaE,if_pos aa]
    |cons d r=>rw [Te,if_neg (hb.2 rfl c d rfl rfl),if_pos aa]
   unfold fS;simp only [List.nil_append,g0,Bool.false_eq_true,atV,g1,hm,reduceCtorEq,atL,atM]
def lb{t:Token}{r:atW}{T:List Token}(aw:mD t)(hb:AP t r)(h:eH r T):eH (spell t++r) (t::T):=by
 obtain⟨c,w,e,Z,aa,aj,aC,aT⟩:=amD t r aw hb;rw [e];exact eH.tok aa aj aC aT Z aw.1 h
def mE{r:atW}{T:List Token}(h:eH r T):eH (32::r) T:=eH.sp (Or.inr rfl) h
def TC{r:atW}{T:List Token}(h:eH r T):eH (10::r) T:=eH.sp (Or.inl rfl) h
open Go Go.Ab Go.Proofs
abbrev ld:=List (Option Token)
def flat:ld→atW
 |[]=>[]
 |some t::l=>spell t++flat l
 |none::l=>32::flat l
def da:ld→List Token
 |[]=>[]
 |some t::l=>t::da l
 |none::l=>da l
def mF:∀l m:ld,flat (l++m)=flat l++flat m
 |[],m=>rfl
 |some t::l,m=>by simp only [List.cons_append,flat,mF l m,List.append_assoc]
 |none::l,m=>by simp only [List.cons_append,flat,mF l m]
def s6:∀l m:ld,da (l++m)=da l++da m
 |[],m=>rfl
 |some t::l,m=>by simp only [List.cons_append,da,s6 l m]
 |none::l,m=>by simp only [List.cons_append,da,s6 l m]
def dD(w:atW):Token:=⟨2,w,0,0⟩
def bb(w:atW):Token:=⟨5,w,0,0⟩
def hR(w:atW):Token:=⟨1,w,0,0⟩
def nO(n:Int):Token:=⟨3,[],n,0⟩
def LF(w:atW):Token:=⟨4,w,0,0⟩
def b_(op:Int):Nat:=if op=17 then 1 else if op=16 then 2 else if op=18 then 3 else if 10≤op∧op≤15 then 4 else if op=19 then 5 else if op=4∨op=5 then 6 else if 6≤op∧op≤8 then 7 else if op=9 then 8 else 9
def nP(op:Int):Token:=
 if op=17 then dD [111,114]else if op=16 then dD [97,110,100]else if op=10 then bb [61,61]else if op=11 then bb [33,61]else if op=12 then bb [60]else if op=13 then bb [60,61]
 else if op=14 then bb [62]else if op=15 then bb [62,61]else if op=19 then bb [43,43]else if op=4 then bb [43]else if op=5 then bb [45]else if op=6 then bb [42]else if op=7 then bb [47]else bb [37]
def hI(op:Int):Token:=
 if op=20 then dD [116,101,120,116]else if op=21 then dD [108,101,110]else if op=22 then dD [103,101,116,105,110,116]else if op=23 then dD [103,101,116,115,116,114]else if op=24 then dD [104,97,115]
 else if op=25 then dD [110,111,119]else if op=26 then dD [114,97,110,100,111,109]else dD [110,111,100,101]
def fy(op:Int)(p:ld)(least:Nat):ld:=if b_ op<least then some (bb [40])::(p++[some (bb [41])])else p
def kO(Op N:Int)(S:atW)(L:List (Int×ld)):ld:=
 if Op=1 then[some (nO N)]else if Op=2 then[some (LF S)]else if Op=3 then[some (hR S)]
 else match L with
  |[]=>[some (hI Op),some (bb [40]),some (bb [41])]
  |[a]=>if Op=18 then some (dD [110,111,116])::none::fy a.1 a.2 3 else if Op=9 then some (bb [45])::fy a.1 a.2 8 else some (hI Op)::some (bb [40])::(a.2++[some (bb [41])])
  |a::b::_=>fy a.1 a.2 (if b_ Op=4 then 5 else b_ Op)++none::some (nP Op)::none::fy b.1 b.2 (b_ Op+1)
mutual
def bR:Expr→ld
 |⟨Op,N,S,ar⟩=>kO Op N S (jt ar)
def jt:List Expr→List (Int×ld)
 |[]=>[]
 |x::l=>(x.Op,bR x)::jt l
end
def q2(op:Int)(n:Nat):Prop:=(1≤op∧op≤27)∧(n:Int)=jE op
mutual
def gK:Expr→Prop
 |⟨Op,N,S,ar⟩=>q2 Op ar.length∧(Op=1→0≤N∧N≤9223372036854775807)∧(Op≠1→N=0)∧(Op≠2∧Op≠3→S=[])∧(Op=2→js S=true)∧(Op=3→gv S=true)∧Fl ar
def Fl:List Expr→Prop
 |[]=>True
 |x::l=>gK x∧Fl l
end
mutual
def fE:Expr→Nat
 |⟨_,_,_,ar⟩=>1+qp ar
def qp:List Expr→Nat
 |[]=>0
 |x::l=>max (fE x) (qp l)
end
def LG(e:Expr):gK e↔q2 e.Op e.ar.length∧(e.Op=1→0≤e.N∧e.N≤9223372036854775807)∧(e.Op≠1→e.N=0)∧(e.Op≠2∧e.Op≠3→e.S=[])∧(e.Op=2→js e.S=true)∧(e.Op=3→gv e.S=true)∧Fl e.ar:=by cases e;rfl
def s7(e:Expr):fE e=1+qp e.ar:=by cases e;rfl
def nc(p:ld):Prop:=∀r T,nN r→eH r T→eH (flat p++r) (da p++T)
def i_{c:UInt8}{r:atW}(h:fP c=false):nN (c::r):=λd hd=>by cases hd;exact h
def Fm{t:Token}{r:atW}(aT:t.Kind≠5)(h:nN r):AP t r:=⟨λ_=>h,λe=>absurd e aT⟩
def AQ{t:Token}{r:atW}:AP t (32::r):=⟨λ_=>i_ rfl,λ_ c d hc hd=>by
 cases hd;simp [two]⟩
def TD{t:Token}{r:atW}:AP t (10::r):=⟨λ_=>i_ rfl,λ_ c d hc hd=>by
 cases hd;simp [two]⟩
def Fn{c:UInt8}{r:atW}(h:c≠61∧c≠33∧c≠60∧c≠62∧c≠43):AP (bb [c]) r:=⟨λe=>by simp [bb]at e,λ_ a d ha hd=>by
 simp only [bb,List.cons.injEq,and_true]at ha;subst ha;simp [two,h]⟩
def uE{w:atW}(h:w∈ph):mD (dD w):=⟨rfl,Or.inr (Or.inl ⟨rfl,h,rfl⟩)⟩
def pm{w:atW}(h:w∈marks):mD (bb w):=⟨rfl,Or.inr (Or.inr (Or.inr (Or.inr ⟨rfl,h,rfl⟩)))⟩
def abe{w:atW}(h:gv w=true):mD (hR w):=⟨rfl,Or.inl ⟨rfl,h,rfl⟩⟩
def abf{n:Int}(h:0≤n)(aa:n≤9223372036854775807):mD (nO n):=⟨rfl,Or.inr (Or.inr (Or.inl ⟨rfl,rfl,h,aa⟩))⟩
def amF{w:atW}(h:js w=true):mD (LF w):=⟨rfl,Or.inr (Or.inr (Or.inr (Or.inl ⟨rfl,h,rfl⟩)))⟩
def TE{t:Token}(h:mD t)(aT:t.Kind≠5):nc [some t]:=λr T hb aG=>by
 simp only [flat,da,List.append_nil];exact lb h (Fm aT hb) aG
def LH{r:atW}{T:List Token}(h:eH r T):eH (41::r) (bb [41]::T):=lb (t:=bb [41]) (pm (by decide)) (Fn (by decide)) h
def TF{r:atW}{T:List Token}(h:eH r T):eH (40::r) (bb [40]::T):=lb (t:=bb [40]) (pm (by decide)) (Fn (by decide)) h
def amG{p:ld}(h:nc p):nc (some (bb [40])::(p++[some (bb [41])])):=λr T hb aG=>by
 have e:flat (some (bb [40])::(p++[some (bb [41])]))++r=40::(flat p++41::r):=by
  simp only [flat,mF,spell,bb];simp
 have e2:da (some (bb [40])::(p++[some (bb [41])]))++T=bb [40]::(da p++bb [41]::T):=by
  simp only [da,s6];simp
 rw [e,e2];exact TF (h _ _ (i_ rfl) (LH aG))
def LI{op:Int}{p:ld}(h:nc p)(k:Nat):nc (fy op p k):=by
 unfold fy;split
 ·exact amG h
 ·exact h
def LJ{c:Prop}[Decidable c]{a b:Token}(ha:mD a)(hb:mD b):mD (if c then a else b):=by
 by_cases h:c
 ·rw [if_pos h];exact ha
 ·rw [if_neg h];exact hb
def amH{c:Prop}[Decidable c]{a b:Token}{k:Int}(ha:a.Kind=k)(hb:b.Kind=k):(if c then a else b).Kind=k:=by
 by_cases h:c
 ·rw [if_pos h];exact ha
 ·rw [if_neg h];exact hb
def amI(op:Int):mD (nP op):=by
 unfold nP;refine LJ (uE (by decide)) (LJ (uE (by decide)) ?_)
 repeat refine LJ (pm (by decide)) ?_
 exact pm (by decide)
def AR(op:Int):mD (hI op)∧(hI op).Kind=2:=by
 unfold hI;constructor
 ·repeat refine LJ (uE (by decide)) ?_
  exact uE (by decide)
 ·repeat refine amH rfl ?_
  rfl
def amJ{p q:ld}{t:Token}(aF:mD t)(hp:nc p)(ao:nc q):nc (p++none::some t::none::q):=λr T hb aG=>by
 have e:flat (p++none::some t::none::q)++r=flat p++32::(spell t++32::(flat q++r)):=by
  simp only [flat,mF];simp
 have e2:da (p++none::some t::none::q)++T=da p++t::(da q++T):=by
  simp only [da,s6];simp
 rw [e,e2];exact hp _ _ (i_ rfl) (mE (lb aF AQ (mE (ao r T hb aG))))
def amK{p:ld}{t:Token}(aF:mD t)(hp:nc p):nc (some t::none::p):=λr T hb aG=>by
 have e:flat (some t::none::p)++r=spell t++32::(flat p++r):=by simp only [flat];simp
 have e2:da (some t::none::p)++T=t::(da p++T):=by simp only [da];simp
 rw [e,e2];exact lb aF AQ (mE (hp r T hb aG))
def amL{p:ld}(hp:nc p):nc (some (bb [45])::p):=λr T hb aG=>by
 have e:flat (some (bb [45])::p)++r=spell (bb [45])++(flat p++r):=by simp only [flat];simp
 have e2:da (some (bb [45])::p)++T=bb [45]::(da p++T):=by simp only [da];simp
 rw [e,e2];exact lb (pm (by decide)) (Fn (by decide)) (hp r T hb aG)
def abg{p:ld}{t:Token}(aF:mD t)(aT:t.Kind=2)(hp:∀r T,eH r T→eH (flat p++41::r) (da p++bb [41]::T)):nc (some t::some (bb [40])::(p++[some (bb [41])])):=λr T hb aG=>by
 have e:flat (some t::some (bb [40])::(p++[some (bb [41])]))++r=spell t++40::(flat p++41::r):=by simp only [flat,mF,spell,bb];simp
 have e2:da (some t::some (bb [40])::(p++[some (bb [41])]))++T=t::bb [40]::(da p++bb [41]::T):=by simp only [da,s6];simp
 rw [e,e2];exact lb aF (Fm (by omega) (i_ rfl)) (TF (hp r T aG))
def amM{op:Int}(h:1≤op∧op≤27):jE op=0∧(op≤3∨25≤op)∨jE op=1∧(op=9∨op=18∨20≤op∧op≤24)∨jE op=2∧(4≤op∧op≤8∨10≤op∧op≤17∨op=19):=by
 obtain rfl|rfl|rfl|rfl|rfl|rfl|rfl|rfl|rfl|rfl|rfl|rfl|rfl|rfl|rfl|rfl|rfl|rfl|rfl|rfl|rfl|rfl|rfl|rfl|rfl|rfl|rfl:op=1∨op=2∨op=3∨op=4∨op=5∨op=6∨op=7∨op=8∨op=9∨op=10∨op=11∨op=12∨op=13∨op=14∨op=15∨op=16∨op=17∨op=18∨op=19∨op=20∨op=21∨op=22∨op=23∨op=24∨op=25∨op=26∨op=27:=by omega
 all_goals first|exact Or.inl ⟨rfl,by omega⟩|exact Or.inr (Or.inl ⟨rfl,by omega⟩)|exact Or.inr (Or.inr ⟨rfl,by omega⟩)
mutual
def abh:∀e:Expr,gK e→nc (bR e)
 |⟨Op,N,S,ar⟩,h=>by
  obtain⟨⟨Z,aa⟩,aj,aC,aT,bQ,cK,di⟩:=h;have aH:=abi ar di;unfold bR;unfold kO;by_cases e1:Op=1
  ·rw [if_pos e1];exact TE (abf (aj e1).1 (aj e1).2) (by simp [nO])
  by_cases e2:Op=2
  ·rw [if_neg e1,if_pos e2];exact TE (amF (bQ e2)) (by simp [LF])
  by_cases e3:Op=3
  ·rw [if_neg e1,if_neg e2,if_pos e3];exact TE (abe (cK e3)) (by simp [hR])
  rw [if_neg e1,if_neg e2,if_neg e3]
  match ar,aH with
  |[],_=>exact abg (p:=[]) (AR Op).1 (AR Op).2 (λr T aG=>LH aG)
  |[a],aH=>
   have ha:=aH (a.Op,bR a) (by simp [jt])
   simp only [jt];by_cases abj:Op=18
   ·rw [if_pos abj];exact amK (uE (by decide)) (LI ha 3)
   ·rw [if_neg abj];by_cases abk:Op=9
    ·rw [if_pos abk];exact amL (LI ha 8)
    ·rw [if_neg abk];exact abg (AR Op).1 (AR Op).2 (λr T aG=>ha _ _ (i_ rfl) (LH aG))
  |a::b::_,aH=>
   have ha:=aH (a.Op,bR a) (by simp [jt])
   have hb:=aH (b.Op,bR b) (by simp [jt])
   simp only [jt];exact amJ (amI Op) (LI ha _) (LI hb _)
def abi:∀l:List Expr,Fl l→∀x,x∈jt l→nc x.2
 |[],h,x,hx=>by simp [jt]at hx
 |e::l,h,x,hx=>by
  rcases List.mem_cons.1 hx with rfl|hx
  ·exact abh e h.1
  ·exact abi l h.2 x hx
end
end Go.Ab.Y

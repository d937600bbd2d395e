/- The plain law: what the functions compute answers as the statement says. -/
import Derived.Lib.ItoaNum
import Derived.Test.YtcjbfnojhpfchaaGreatDoorCtrB
set_option linter.all false
namespace Go.Ab.Y
open Go Go.Ab Go.Proofs
def anC{h:Decidable True}:@decide True h=true:=_root_.decide_true h
def anD{h:Decidable False}:@decide False h=false:=_root_.decide_false h
def anK:(∀n:Nat,(n:Int).toNat=n)∧∀(α:Type)(_:Inhabited α)(l:List α)(n:Nat),anW l n=l.getD n default:=⟨λ_=>rfl,λ_ _ _ _=>rfl⟩
def anE{α:Type}{a b:α}:cond true a b=a:=rfl
def anF{α:Type}{a b:α}:cond false a b=b:=rfl
def anG:(!true)=false:=rfl
def anH:(!false)=true:=rfl
def anI{α:Type}{a:α}{l:List α}:(a::l).length=l.length+1:=rfl
def anJ{α:Type}:([]:List α).length=0:=rfl
def anL{a b:Nat}:((a:Int)<b)↔a<b:=_root_.Int.ofNat_lt
def anM{α:Type}{a b:List α}:(a++b).length=a.length+b.length:=_root_.List.length_append
def anN{α:Type}{a:α}:[a].length=1:=rfl
def anO{α:Type}{b:Bool}{x y:α}:cond b x y=if b then x else y:=_root_.Bool.cond_eq_ite b x y
def anP(a:Int):¬a<a:=_root_.Int.lt_irrefl a
def anQ(a:Bool):(a||true)=true:=_root_.Bool.or_true a
def anR{α:Type}{a b:α}{h:Decidable True}:@ite α True h a b=a:=_root_.if_true a b
def anS{α:Type}{a b:α}{h:Decidable False}:@ite α False h a b=b:=_root_.if_false a b
def wr{x:Int}(Z : -9223372036854775808≤x)(aa:x≤9223372036854775807):anV x=x:=by(try unfold anV);rw [IntKind.wrap_i64];omega
def bD{i:Nat}(h:i≤4611686018427387904):anV ((i:Int)+1)=((i+1:Nat):Int):=by rw [wr]<;>omega
def b4{i n:Nat}(h:i<n):a7 (i:Int) n=true:=by simp [a7];omega
def mp{n:Nat}(h:0<n):a7 0 n=true:=by simp [a7];omega
def vK{i n:Nat}(h:i≤n):gC (i:Int) n=true:=by simp [gC];omega
def H8{i j n:Nat}(h:i≤j)(aa:j≤n):lB (i:Int) (j:Int) n=true:=by simp [lB];omega
@[simp] def aX {α : Type} (x : Option α) : aE true x = x := rfl
def fJ{α:Type}(l:List α)(i:Nat)(d:α)(h:i<l.length):l.drop i=l.getD i d::l.drop (i+1):=by
 rw [List.drop_eq_getElem_cons h];simp [List.getD,h]
def gV{α:Type}(l:List α)(i:Nat)(h:¬ i<l.length):l.drop i=[]:=List.drop_of_length_le (by omega)
def s_(a k:Nat):((a:Int)<(no_index (OfNat.ofNat k):Int))↔a<k:=Int.ofNat_lt
def lU(a k:Nat):((a:Int)≤(no_index (OfNat.ofNat k):Int))↔a≤k:=Int.ofNat_le
def fq(a k:Nat):((no_index (OfNat.ofNat k):Int)<(a:Int))↔k<a:=Int.ofNat_lt
def ta(a k:Nat):((no_index (OfNat.ofNat k):Int)≤(a:Int))↔k≤a:=Int.ofNat_le
def fU(a k:Nat):((a:Int)=(no_index (OfNat.ofNat k):Int))↔a=k:=Int.ofNat_inj
def eS(a b:Bool):(bif a then true else b)=(a||b):=by cases a<;>rfl
def fr(a b:Bool):(bif a then b else false)=(a&&b):=by cases a<;>rfl
def ak{α β:Type}(a:α)(f:α→Option β):Option.bind (some a) f=f a:=rfl
def okB(c:UInt8):Bool:=decide (32≤c.toNat)&&decide (c.toNat≤126)
def j'(s:anT):Bool:=s.all okB&&decide (s.length≤64)
def CQ(c:UInt8):(decide (c.toNat<32)||decide (126<c.toNat)) = !okB c:=by
 unfold okB;by_cases h:c.toNat<32
 ·simp [h]
 ·by_cases aa:c.toNat≤126
  ·simp [aa,show 32≤c.toNat by omega,h]
  ·simp [aa];omega
def afs(n:Nat)(s:anT)(hs:s.length≤4611686018427387904):∀m i,s.length<i+m→i≤s.length→xz n s m (i:Int)=some ((s.drop i).all okB&&decide (s.length≤64)):=by
 intro m;induction m with
 |zero=>intro i h aa;omega
 |succ m aG=>
  intro i hm hi;simp only [xz,LY,LX];by_cases h:i<s.length
  ·rw [fJ s i 0 h,bD (by omega),aG (i+1) (by omega) (by omega)]
   simp only [h,b4 h,anK,anL,anC,anE,aX,anQ,List.all_cons,s_,fq,eS,CQ];cases okB (s.getD i 0)<;>simp
  ·rw [gV s i h];simp [h,lU]
def VQ{n:Nat}{s:anT}(h:s.length<n)(hs:s.length≤4611686018427387904):LZ n s=some (j' s):=afs n s hs n 0 (by omega) (by omega)
def aft(n:Nat)(s:anT)(hs:s.length≤4611686018427387904):∀m i,s.length<i+m→i≤s.length→Hk n s m (i:Int)=some ((s.drop i).all okB):=by
 intro m;induction m with
 |zero=>intro i h aa;omega
 |succ m aG=>
  intro i hm hi;simp only [Hk,Ub,Ua];by_cases h:i<s.length
  ·rw [fJ s i 0 h,bD (by omega),aG (i+1) (by omega) (by omega)]
   simp only [h,b4 h,anK,anL,anC,anE,aX,anQ,List.all_cons,s_,fq,eS,CQ];cases okB (s.getD i 0)<;>simp
  ·rw [gV s i h];simp [h,lU]
def afu{n:Nat}{s:anT}(h:s.length<n)(hs:s.length≤4611686018427387904):N0 n s=some (j' s):=by
 unfold N0;rw [show(0:Int)=((0:Nat):Int)from rfl,aft n s hs n 0 (by omega) (by omega)]
 unfold j';simp only [List.drop_zero,fq];by_cases h:64<s.length
 ·simp [h]
 ·simp [h];omega
def ot:List anT:=[[112,114,111,99],[108,101,116],[112,117,116],[100,101,108,101,116,101],[105,102],[101,108,115,101],[102,111,114],[116,111],[109,97,120],[101,109,105,116],[97,98,111,114,116],[110,111,116],[97,110,100],[111,114],[105,110,116],[115,116,114],[98,111,111,108],[116,101,120,116],[108,101,110],[103,101,116,105,110,116],[103,101,116,115,116,114],[104,97,115],[110,111,119],[114,97,110,100,111,109],[110,111,100,101]]
def rJ(s:anT):Bool:=decide (s∈ot)
def VR(n:Nat)(s:anT):A3 n s=some (rJ s):=by
 unfold rJ;by_cases h:s∈ot
 ·simp only [h,anC];simp only [ot,List.mem_cons,List.not_mem_nil,or_false]at h;rcases h with rfl|rfl|rfl|rfl|rfl|rfl|rfl|rfl|rfl|rfl|rfl|rfl|rfl|rfl|rfl|rfl|rfl|rfl|rfl|rfl|rfl|rfl|rfl|rfl|rfl<;>rfl
 ·simp only [h,anD];simp only [ot,List.mem_cons,List.not_mem_nil,or_false,not_or]at h;simp only [A3,hS,LD,h,anD,anF]
def afv(n:Nat)(l:List anT)(s:anT)(hs:l.length≤4611686018427387904):∀m i,l.length<i+m→i≤l.length→He n l s m (i:Int)=some (decide (s∈l.drop i)):=by
 intro m;induction m with
 |zero=>intro i h aa;omega
 |succ m aG=>
  intro i hm hi;simp only [He,T4,T3];by_cases h:i<l.length
  ·rw [fJ l i default h,bD (by omega),aG (i+1) (by omega) (by omega)]
   simp only [h,b4 h,anK,anL,anC,anE,aX,List.mem_cons];by_cases he:l.getD i default=s
   ·simp only [he,anC,anE,true_or]
   ·simp only [he,anD,anF,show¬ s=l.getD i default from λx=>he x.symm,false_or]
  ·rw [gV l i h];simp [h]
def afw(n:Nat):T2 n=some ot:=rfl
def afx{n:Nat}(l:List anT)(s:anT)(h:l.length<n)(hs:l.length≤4611686018427387904):T6 n l s=some (decide (s∈l)):=afv n l s hs n 0 (by omega) (by omega)
def VS{n:Nat}(s:anT)(h:25<n):Hf n s=some (rJ s):=by
 unfold Hf;simp only [afw,ak];rw [afx ot s (by show 25<_;omega) (by decide)]
 rfl
def kZ(c:UInt8):Bool:=decide (97≤c.toNat)&&decide (c.toNat≤122)
def OT(n:Nat)(c:UInt8):Cm n ((c.toNat:Nat):Int)=some (kZ c):=by
 simp only [Cm,fr,ta,lU,kZ]
def afy{x:Nat}(h:x<256):IntKind.i32.wrap (x:Int)=x:=by rw [IntKind.wrap_i32];omega
def VT(n:Nat)(c:UInt8):A4 n (IntKind.i32.wrap ((c.toNat:Nat):Int))=some (kZ c):=by
 rw [afy c.toNat_lt];simp only [A4,fr,ta,lU,kZ]
def VU(n:Nat)(c:UInt8):Hg n ((c.toNat:Nat):Int)=some (fo c):=by
 simp only [Hg,OT,ak,T7,fr,eS,ta,lU,fU];unfold fo kZ;by_cases h:97≤c.toNat∧c.toNat≤122
 ·simp [h.1,h.2]
 ·have:(decide (97≤c.toNat)&&decide (c.toNat≤122))=false:=by simpa using h
  rw [this];simp only [anH,anE,ak,Bool.false_or,h,false_or,Bool.decide_or,Bool.decide_and]
def H9(s:anT):gQ s≤s.length:=by unfold gQ;exact(List.takeWhile_prefix _).length_le
def tb(c:UInt8)(s:anT):gQ (c::s)=bif fo c then gQ s+1 else 0:=by
 unfold gQ;cases h:fo c<;>simp [List.takeWhile,h]
def afz(n:Nat)(s:anT)(hs:s.length≤4611686018427387904):∀m i,s.length<i+m→i≤s.length→Hh n s m (i:Int)=some (((i+gQ (s.drop i):Nat):Int)):=by
 intro m;induction m with
 |zero=>intro i h aa;omega
 |succ m aG=>
  intro i hm hi;simp only [Hh,T9,T8];by_cases h:i<s.length
  ·rw [fJ s i 0 h,bD (by omega),aG (i+1) (by omega) (by omega)]
   simp only [h,b4 h,anK,anL,anC,anE,aX,anQ,VU,ak,tb];cases fo (s.getD i 0)
   ·rfl
   ·simp only [anE,Option.some.injEq];omega
  ·rw [gV s i h];simp [h,gQ]
def VV{n:Nat}{s:anT}(i:Nat)(h:s.length<n)(hi:i≤s.length)(hs:s.length≤4611686018427387904):NZ n s (i:Int)=some (((i+gQ (s.drop i):Nat):Int)):=afz n s hs n i (by omega) hi
def gx(s:anT):Bool:=
 match s with
 |[]=>false
 |c::l=>decide (l.length≤15)&&kZ c&&decide (gQ (c::l)=l.length+1) && !rJ (c::l)
def VW{n:Nat}(s:anT)(h:s.length<n)(aa:25<n)(hs:s.length≤4611686018427387904):Hi n s=some (gx s):=by
 unfold Hi;cases s with
 |nil=>rfl
 |cons c l=>
  simp only [VS _ aa,fr,ta,lU,anI,show 1≤l.length+1 by omega,anC,Bool.true_and,mp (show 0<l.length+1 by omega),anQ,aX,List.getD_cons_zero,OT]
  rw [show(0:Int)=((0:Nat):Int)from rfl,VV 0 h (by omega) hs]
  simp only [List.drop_zero,Nat.zero_add,gx,Int.ofNat_inj,show(l.length+1≤16)=(l.length≤15)by rw [eq_iff_iff];omega]
  cases decide (l.length≤15)<;>simp only [Bool.false_and,anF,ak,Bool.true_and,anE]
  cases kZ c<;>simp only [Bool.false_and,anF,ak,Bool.true_and,anE,Int.ofNat_inj]
  cases decide (gQ (c::l)=l.length+1)<;>simp only [Bool.false_and,anF,ak,Bool.true_and,anE]
def VX(n:Nat)(s:anT)(h:s.length≤140737488351232):xg n s=some ((gQ s:Nat):Int):=by
 unfold xg;simp only [h,anC,aX]
def yY(n:Nat)(s:anT)(h:s.length≤140737488351232):rq n s=some (gx s):=by
 unfold rq;cases s with
 |nil=>rfl
 |cons c l=>
  simp only [VR,fr,ta,lU,anI,reduceCtorEq,anD,anH,Bool.true_and,mp (show 0<l.length+1 by omega),anQ,aX,List.getD_cons_zero,VT,VX _ _ h]
  simp only [gx,Int.ofNat_inj,show(l.length+1≤16)=(l.length≤15)by rw [eq_iff_iff];omega]
  cases decide (l.length≤15)<;>simp only [Bool.false_and,anF,ak,Bool.true_and,anE]
  cases kZ c<;>simp only [Bool.false_and,anF,ak,Bool.true_and,anE,Int.ofNat_inj]
  cases decide (gQ (c::l)=l.length+1)<;>simp only [Bool.false_and,anF,ak,Bool.true_and,anE]
def i7(op:Int):Int:=bif decide (op<1)||decide (27<op)then -1 else bif decide (op≤3)||decide (25≤op)then 0 else bif decide (op=9)||decide (op=18)||decide (20≤op)then 1 else 2
def afA(n:Nat)(op:Int):Fl n op=some (i7 op):=by
 simp only [Fl,i7,eS];cases decide (op<1)||decide (27<op)<;>simp only [anE,anF]
 cases decide (op≤3)||decide (25≤op)<;>simp only [anE,anF]
 cases decide (op=9)||decide (op=18)||decide (20≤op)<;>rfl
def afB(n:Nat)(op:Int):Hj n op=some (i7 op):=by
 by_cases h:1≤op∧op≤27
 ·obtain rfl|rfl|rfl|rfl|rfl|rfl|rfl|rfl|rfl|rfl|rfl|rfl|rfl|rfl|rfl|rfl|rfl|rfl|rfl|rfl|rfl|rfl|rfl|rfl|rfl|rfl|rfl:op=1∨op=2∨op=3∨op=4∨op=5∨op=6∨op=7∨op=8∨op=9∨op=10∨op=11∨op=12∨op=13∨op=14∨op=15∨op=16∨op=17∨op=18∨op=19∨op=20∨op=21∨op=22∨op=23∨op=24∨op=25∨op=26∨op=27:=by omega
  all_goals rfl
 ·have ha:i7 op = -1:=by
   unfold i7;by_cases Z:op<1
   ·simp [Z]
   ·simp [show 27<op by omega]
  have hb:(decide (4≤op)&&decide (op≤19))=false:=by
   by_cases Z:4≤op
   ·simp [Z];omega
   ·simp [Z]
  simp only [Hj,vv,sW,T_,fr,hb,ha,show¬ op=1 by omega,show¬ op=2 by omega,show¬ op=3 by omega,show¬ op=25 by omega,show¬ op=26 by omega,show¬ op=27 by omega,show¬ op=9 by omega,show¬ op=18 by omega,show¬ op=20 by omega,show¬ op=21 by omega,show¬ op=22 by omega,show¬ op=23 by omega,show¬ op=24 by omega,anD,anF]
def ou(e:Expr)(depth:Int):Int:=
 if i7 e.Op<0∨(e.Op≠1∧e.N≠0)∨(e.Op≠2∧e.Op≠3∧e.S≠[])then 1
 else if e.Op=3∧gx e.S=false then 7
 else if e.N<0∨(e.Op=2∧j' e.S=false)∨(e.aw.length:Int)≠i7 e.Op then 1
 else if 12<depth then 2 else 0
def afC{n:Nat}(e:Expr)(depth:Int)(h:e.S.length<n)(hs:e.S.length≤140737488351232):Fm n e depth=some (ou e depth):=by
 obtain⟨Op,N,S,aw⟩:=e;simp only at h hs
 simp only [Fm,afA,ak,yY _ _ hs,VQ h (by omega),ou]
 by_cases Z:i7 Op<0
 ·simp [Z]
 by_cases aa:Op=1
 ·subst aa;by_cases aJ:S=[]
  ·by_cases bE:N<0
   ·simp [Z,aJ,bE]
   ·by_cases cz:(aw.length:Int)=i7 1
    ·by_cases dh:12<depth<;>simp [Z,aJ,bE,cz,dh]
    ·simp [Z,aJ,bE,cz]
  ·simp [Z,aJ]
 ·by_cases ai:N=0
  ·by_cases ay:Op=3
   ·subst ay;cases hn:gx S
    ·simp [Z,ai,hn]
    ·by_cases cz:(aw.length:Int)=i7 3
     ·by_cases dh:12<depth<;>simp [Z,ai,hn,cz,dh]
     ·simp [Z,ai,hn,cz]
   ·by_cases aJ:Op=2
    ·subst aJ;cases hn:j' S
     ·simp [Z,ai,hn]
     ·by_cases cz:(aw.length:Int)=i7 2
      ·by_cases dh:12<depth<;>simp [Z,ai,hn,cz,dh]
      ·simp [Z,ai,hn,cz]
    ·by_cases bE:S=[]
     ·by_cases cz:(aw.length:Int)=i7 Op
      ·by_cases dh:12<depth<;>simp [Z,aa,ai,ay,aJ,bE,cz,dh]
      ·simp [Z,aa,ai,ay,aJ,bE,cz]
     ·simp [Z,aa,ai,ay,aJ,bE]
  ·simp [Z,aa,ai]
def afD{n:Nat}(e:Expr)(depth:Int)(h:e.S.length<n)(aa:25<n)(hs:e.S.length≤140737488351232):N1 n e depth=some (ou e depth):=by
 obtain⟨Op,N,S,aw⟩:=e;simp only at h hs
 simp only [N1,afB,ak,VW S h aa (by omega),afu h (by omega),ou]
 clear aa;by_cases Z:i7 Op<0
 ·simp [Z]
 by_cases aa:Op=1
 ·subst aa;by_cases aJ:S=[]
  ·by_cases bE:N<0
   ·simp [Z,aJ,bE]
   ·by_cases cz:(aw.length:Int)=i7 1
    ·by_cases dh:12<depth<;>simp [Z,aJ,bE,cz,dh]
    ·simp [Z,aJ,bE,cz]
  ·simp [Z,aJ]
 ·by_cases ai:N=0
  ·by_cases ay:Op=3
   ·subst ay;cases hn:gx S
    ·simp [Z,ai,hn]
    ·by_cases cz:(aw.length:Int)=i7 3
     ·by_cases dh:12<depth<;>simp [Z,ai,hn,cz,dh]
     ·simp [Z,ai,hn,cz]
   ·by_cases aJ:Op=2
    ·subst aJ;cases hn:j' S
     ·simp [Z,ai,hn]
     ·by_cases cz:(aw.length:Int)=i7 2
      ·by_cases dh:12<depth<;>simp [Z,ai,hn,cz,dh]
      ·simp [Z,ai,hn,cz]
    ·by_cases bE:S=[]
     ·by_cases cz:(aw.length:Int)=i7 Op
      ·by_cases dh:12<depth<;>simp [Z,aa,ai,ay,aJ,bE,cz,dh]
      ·simp [Z,aa,ai,ay,aJ,bE,cz]
     ·simp [Z,aa,ai,ay,aJ,bE]
  ·simp [Z,aa,ai]
mutual
def dP:Expr→Nat
 |⟨_,_,S,aw⟩=>30+S.length+m4 aw
def m4:List Expr→Nat
 |[]=>0
 |x::l=>dP x+1+m4 l
end
def tc(e:Expr):dP e=30+e.S.length+m4 e.aw:=by cases e;rfl
def H':∀l:List Expr,l.length≤m4 l
 |[]=>Nat.le_refl _
 |x::l=>by have:=H' l;simp only [m4,anI];omega
def H_:∀(l:List Expr) (i:Nat),i<l.length→dP (l.getD i default)<m4 l
 |[],i,h=>by simp at h
 |x::l,0,h=>by simp only [m4,List.getD_cons_zero];omega
 |x::l,i+1,h=>by have:=H_ l i (by simpa using h);simp only [m4,List.getD_cons_succ];omega
def VY:∀(n:Nat) (e:Expr),dP e≤n→dP e≤140737488351232→vu n e e=some true:=by
 intro n;induction n with
 |zero=>intro e h;rw [tc]at h;omega
 |succ n aG=>
  intro e h ab;have Ia:=tc e;have vL:=H' e.aw;simp only [vu,NG,anC,anG,anF]
  have hU:∀m i,e.aw.length<i+m→i≤e.aw.length→Cg n (vu n) e e m (i:Int)=some true:=by
   intro m;induction m with
   |zero=>intro i Z aa;omega
   |succ m nO=>
    intro i Z aa;simp only [Cg,NF,NE];by_cases hi:i<e.aw.length
    ·have hg:=H_ e.aw i hi;simp only [hi,b4 hi,anK,anL,anC,anE,aX,aG (e.aw.getD i default) (by omega) (by omega),ak,bD (show i≤4611686018427387904 by omega),anG,anF]
     exact nO (i+1) (by omega) (by omega)
    ·simp only [hi,anL,anD,anF]
  exact hU n 0 (by omega) (by omega)
open Go Go.Ab Go.Proofs
def hV(c:UInt8):Bool:=decide (48≤c.toNat)&&decide (c.toNat≤57)
def val(u:Nat)(l:anT):Nat:=l.foldl (λu c=>u*10+(c.toNat-48)) u
def CR(u:Nat):val u []=u:=rfl
def CS(u:Nat)(c:UInt8)(l:anT):val u (c::l)=val (u*10+(c.toNat-48)) l:=by unfold val;rw [List.foldl_cons]
def VZ(l:anT):∀(u:Nat),u≤val u l:=by
 induction l with
 |nil=>intro u;simp only [CR,Nat.le_refl]
 |cons c l aG=>
  intro u;rw [CS];have Z:u≤u*10+(c.toNat-48):=by omega
  exact Nat.le_trans Z (aG _)
def ps(c:UInt8):hV c=true↔48≤c.toNat∧c.toNat≤57:=by simp [hV]
def afE(l:anT):∀u,l.all hV=true→Lib.parseUintM 18446744073709551615 u l=(if val u l≤18446744073709551615 then .ok (val u l)else .range)∨18446744073709551615<u:=by
 induction l with
 |nil=>
  intro u _;by_cases h:u≤18446744073709551615
  ·left;rw [CR,if_pos h];rfl
  ·right;omega
 |cons c l aG=>
  intro u h;simp only [List.all_cons,Bool.and_eq_true,ps]at h;left
  rw [CS];simp only [Lib.parseUintM,h.1,and_self,anR];have hg:=VZ l (u*10+(c.toNat-48));have ov:=aG (u*10+(c.toNat-48)) h.2;generalize val (u*10+(c.toNat-48)) l=w at hg ov ⊢
  by_cases Z:1844674407370955162≤u
  ·rw [if_pos Z,if_neg (by omega)]
  ·rw [if_neg Z];by_cases aa:18446744073709551615<u*10+(c.toNat-48)
   ·rw [if_pos aa,if_neg (by omega)]
   ·rw [if_neg aa];rcases ov with ai|ai
    ·exact ai
    ·exact absurd ai aa
def m5(w:anT):Int×Int:=
 if w.all hV=true∧(w.head? ≠ some 48∨w.length=1) then
  if val 0 w≤9223372036854775807 then(((val 0 w:Nat):Int),0) else(0,3)
 else(0,5)
def V0(c:UInt8)(l:anT)(h:(c::l).all hV=true):A0 (c::l)=if val 0 (c::l)≤9223372036854775807 then .inl (val 0 (c::l):Nat)else .inr 9223372036854775807:=by
 have hc:48≤c.toNat∧c.toNat≤57:=by
  simp only [List.all_cons,Bool.and_eq_true,ps]at h;exact h.1
 have Z:Lib.parseIntB 64 (c::l)=_:=Lib.parseIntB_plain 64 c l (by omega) (by omega)
 have aa:Lib.parseUintB 64 (c::l)=(if val 0 (c::l)≤18446744073709551615 then .ok (val 0 (c::l))else .range):=by
  unfold Lib.parseUintB;rw [if_neg (by simp)]
  rcases afE (c::l) 0 h with ai|ai
  ·exact ai
  ·omega
 have ay:Lib.intSat 64 (c::l)=9223372036854775807:=by rw [Lib.intSat_other 64 c l (by omega)];rfl
 rw [aa]at Z;unfold A0;rw [Z,ay];by_cases aJ:val 0 (c::l)≤18446744073709551615
 ·rw [if_pos aJ];by_cases bE:val 0 (c::l)≤9223372036854775807
  ·rw [if_pos bE];simp only [Lib.signlessC];rw [if_neg (by omega)]
  ·rw [if_neg bE];simp only [Lib.signlessC];rw [if_pos (by omega)]
 ·rw [if_neg aJ,if_neg (by omega)];rfl
def afF{c:UInt8}(h:48≤c.toNat∧c.toNat≤57):IntKind.u8.wrap (((c.toNat:Nat):Int)-48)=((c.toNat-48:Nat):Int):=by rw [IntKind.wrap_u8];omega
def V1{x:Nat}(h:x≤18446744073709551615):IntKind.u64.wrap (x:Int)=x:=by rw [IntKind.wrap_u64];omega
def afG{x:Nat}(h:x≤9223372036854775807):anV (x:Int)=x:=by(try unfold anV);rw [IntKind.wrap_i64];omega
def afH(n:Nat)(s:anT)(hs:s.length≤4611686018427387904)(hd:s.all hV=true)(h0:s.head? ≠ some 45):
 ∀(m i u:Nat),s.length<i+m→i≤s.length→u≤9223372036854775807→HJ n s s 9223372036854775807 m (u:Int) (i:Int)=some (if val u (s.drop i)≤9223372036854775807 then(((val u (s.drop i):Nat):Int),(0:Int)) else(0,3)):=by
 intro m;induction m with
 |zero=>intro i u h aa;omega
 |succ m aG=>
  intro i u hm hi hu;simp only [HJ,Up];by_cases h:i<s.length
  ·have hc:48≤(s.getD i 0).toNat∧(s.getD i 0).toNat≤57:=by
    rw [←ps];have:=List.all_eq_true.1 hd s[i] (List.getElem_mem h)
    simpa [List.getD,h]using this
   have al:=VZ (s.drop (i+1)) (u*10+((s.getD i 0).toNat-48));rw [fJ s i 0 h,bD (by omega),CS]
   simp only [h,b4 h,anK,anL,anC,anE,aX,afF hc];rw [V1 (show(s.getD i 0).toNat-48≤18446744073709551615 by omega)]
   have e1:IntKind.u64.wrap (9223372036854775807-(((s.getD i 0).toNat-48:Nat):Int))=((9223372036854775807-((s.getD i 0).toNat-48):Nat):Int):=by rw [IntKind.wrap_u64];omega
   have e2:IntKind.u64.wrap (Int.tdiv ((9223372036854775807-((s.getD i 0).toNat-48):Nat):Int) 10)=(((9223372036854775807-((s.getD i 0).toNat-48)) / 10:Nat):Int):=by
    rw [show(Int.tdiv ((9223372036854775807-((s.getD i 0).toNat-48):Nat):Int) 10)=(((9223372036854775807-((s.getD i 0).toNat-48)) / 10:Nat):Int)from rfl]
    exact V1 (by omega)
   rw [e1,e2];simp only [anL];by_cases ai:(9223372036854775807-((s.getD i 0).toNat-48)) / 10<u
   ·simp only [ai,anC,anE];rw [if_neg (by omega)]
   ·simp only [ai,anD,anF]
    have e3:IntKind.u64.wrap (IntKind.u64.wrap ((u:Int)*10)+(((s.getD i 0).toNat-48:Nat):Int))=((u*10+((s.getD i 0).toNat-48):Nat):Int):=by
     rw [IntKind.wrap_u64,IntKind.wrap_u64];omega
    rw [e3];exact aG (i+1) _ (by omega) (by omega) (by omega)
  ·rw [gV s i h,CR];simp only [h,anL,anD,anF,hu,anR,Uo]
   have:(bif (decide (0<((s.length:Nat):Int))) then(decide ((((s.getD 0 0).toNat:Nat):Int)=45))else false)=false:=by
    cases s with
    |nil=>rfl
    |cons c l=>
     simp only [List.head?_cons,ne_eq,Option.some.injEq]at h0;simp only [List.getD_cons_zero,fU];have:¬ c.toNat=45:=λe=>h0 (UInt8.toNat_inj.1 e)
     simp [this]
   rw [this];simp only [anF,afG hu]
def afI(n:Nat)(s:anT)(hs:s.length≤4611686018427387904):∀m i,s.length<i+m→i≤s.length→Cu n s m (i:Int)=some ((s.drop i).all hV&&decide (0<s.length)&&(!decide (s.head? = some 48)||decide (s.length=1))):=by
 intro m;induction m with
 |zero=>intro i h aa;omega
 |succ m aG=>
  intro i hm hi;simp only [Cu,Um,Ul];by_cases h:i<s.length
  ·rw [fJ s i 0 h,bD (by omega),aG (i+1) (by omega) (by omega)]
   simp only [h,b4 h,anK,anL,anC,anE,aX,anQ,List.all_cons,s_,fq,eS];cases hd:hV (s.getD i 0)
   ·have:(decide ((s.getD i 0).toNat<48)||decide (57<(s.getD i 0).toNat))=true:=by
     have:¬ (48≤(s.getD i 0).toNat∧(s.getD i 0).toNat≤57):=λx=>by rw [(ps _).2 x]at hd;cases hd
     by_cases Z:(s.getD i 0).toNat<48
     ·simp only [Z,anC,Bool.true_or]
     ·simp only [show 57<(s.getD i 0).toNat by omega,anC,anQ]
    rw [this];rfl
   ·have Z:=(ps _).1 hd
    have:(decide ((s.getD i 0).toNat<48)||decide (57<(s.getD i 0).toNat))=false:=by
     simp only [show¬ (s.getD i 0).toNat<48 by omega,show¬ 57<(s.getD i 0).toNat by omega,anD,Bool.or_self]
    rw [this];simp only [anF,Bool.true_and]
  ·rw [gV s i h];cases s with
   |nil=>
    simp only [anJ,anL,Nat.not_lt_zero,anD,anF];rfl
   |cons c l=>
    rw [anI]at h;simp only [h,anD,anF,anL,anI,fq,show 0<l.length+1 by omega,anC,anG,Bool.false_or,mp (show 0<l.length+1 by omega),aX,anE,List.getD_cons_zero,fU,List.all_nil,Bool.true_and,List.head?_cons,Option.some.injEq,eS]
    have:decide (c.toNat=48)=decide (c=48):=by
     rw [decide_eq_decide];exact⟨λe=>UInt8.toNat_inj.1 e,λe=>by subst e;rfl⟩
    rw [this]
def afJ{n:Nat}(c:UInt8)(l:anT)(h:l.length+1<n)(hs:l.length+1≤4611686018427387904)(hc:c.toNat≠45):Oi n (c::l)=some (m5 (c::l)):=by
 unfold Oi Oh Un;have hd:=afI n (c::l) hs n 0 (by simp only [anI];omega) (by omega)
 have OU:(bif (decide (0<(((c::l).length:Nat):Int))) then(decide (((((c::l).getD 0 0).toNat:Nat):Int)=45))else false)=false:=by
  simp only [List.getD_cons_zero,fU,hc,anD];cases decide (0<(((c::l).length:Nat):Int))<;>rfl
 have hd:Cu n (c::l) n 0=_:=hd;have hin:(!(decide ((0:Int)<(((c::l).length:Nat):Int)))||a7 0 (c::l).length)=true:=by rw [mp (show 0<(c::l).length by simp)];simp only [anQ]
 rw [OU,hd,hin];simp only [anH,anI,mp (show 0<l.length+1 by omega),anQ,aX,anF,ak,List.drop_zero,show(0<l.length+1)=True by simp,anC,Bool.and_true]
 unfold m5;by_cases Z:(c::l).all hV=true∧((c::l).head? ≠ some 48∨(c::l).length=1)
 ·rw [if_pos Z]
  have:((c::l).all hV&&(!decide ((c::l).head? = some 48)||decide (l.length+1=1)))=true:=by
   rw [Z.1];rcases Z.2 with aa|aa
   ·simp only [aa,anD,anH,Bool.true_or,Bool.and_self]
   ·simp only [show l.length+1=1 from aa,anC,anQ,Bool.and_self]
  rw [this]
  have bf:(c::l).head? ≠ some 45:=by
   intro e;simp only [List.head?_cons,Option.some.injEq]at e;subst e;exact hc rfl
  have:=afH n (c::l) hs Z.1 bf n 0 0 (by simp only [anI];omega) (by omega) (by omega)
  simpa using this
 ·rw [if_neg Z]
  have:((c::l).all hV&&(!decide ((c::l).head? = some 48)||decide (l.length+1=1)))=false:=by
   cases aa:(c::l).all hV
   ·rfl
   ·by_cases ai:(c::l).head? = some 48
    ·by_cases ay:l.length+1=1
     ·exact absurd ⟨aa,Or.inr ay⟩ Z
     ·simp only [ai,ay,anC,anD,anG,Bool.or_self,Bool.and_false]
    ·exact absurd ⟨aa,Or.inl ai⟩ Z
  rw [this];rfl
open Go Go.Ab Go.Proofs
def dl(l:anT):Nat:=(l.takeWhile hV).length
def OV(c:UInt8)(l:anT):dl (c::l)=bif hV c then dl l+1 else 0:=by
 unfold dl;cases h:hV c<;>simp [List.takeWhile,h]
def afK(l:anT):dl l≤l.length:=by unfold dl;exact(List.takeWhile_prefix _).length_le
def V2(l:anT):dl l=l.length↔l.all hV=true:=by
 induction l with
 |nil=>simp [dl]
 |cons c l aG=>
  rw [OV];cases h:hV c
  ·simp [h]
  ·simp [h,aG]
def afL(n:Nat)(s:anT)(b:Bool)(hs:s.length≤4611686018427387904):∀m i,s.length<i+m→i≤s.length→yc n s s b m (i:Int)=BV n s s b ((i+dl (s.drop i):Nat):Int):=by
 intro m;induction m with
 |zero=>intro i h aa;omega
 |succ m aG=>
  intro i hm hi;simp only [yc,M1];by_cases h:i<s.length
  ·rw [fJ s i 0 h,bD (by omega),aG (i+1) (by omega) (by omega),OV]
   simp only [h,b4 h,anK,anL,anC,anE,aX,ta,lU,fr];rw [show(decide (48≤(s.getD i 0).toNat)&&decide ((s.getD i 0).toNat≤57))=hV (s.getD i 0)from rfl]
   cases hV (s.getD i 0)
   ·rfl
   ·simp only [anE];rw [show i+1+dl (s.drop (i+1))=i+(dl (s.drop (i+1))+1)by omega]
  ·rw [gV s i h];simp only [h,anL,anD,anF];rfl
def afM{n:Nat}{s:anT}(h:s.length≤281474976710656):xh n s 10 64=some (A0 s):=by
 unfold xh;rw [decide_eq_true (show(10:Int)=10∧(64:Int)=64∧s.length≤281474976710656 from⟨rfl,rfl,h⟩)]
 rfl
def afN{n:Nat}(c:UInt8)(l:anT)(h:l.length+1<n)(hs:l.length+1≤140737488351232)(hc:hV c=true):Gs n (c::l)=some (m5 (c::l)):=by
 have lf:=(ps c).1 hc;have cW:¬ c.toNat=45:=by omega
 unfold Gs Gr
 have OU:(bif (decide (0<(((c::l).length:Nat):Int))) then(decide (((((c::l).getD 0 0).toNat:Nat):Int)=45))else false)=false:=by
  simp only [List.getD_cons_zero,fU,cW,anD];cases decide (0<(((c::l).length:Nat):Int))<;>rfl
 have hin:(!(decide ((0:Int)<(((c::l).length:Nat):Int)))||a7 0 (c::l).length)=true:=by rw [mp (show 0<(c::l).length by simp)];simp only [anQ]
 have hU:=afL n (c::l) false (by simp only [anI];omega) n 0 (by simp only [anI];omega) (by omega)
 have hU:yc n (c::l) (c::l) false n 0=_:=hU;rw [OU,hin,hU];simp only [aX,anF,List.drop_zero,Nat.zero_add];have Z:1≤dl (c::l):=by rw [OV,hc];simp
 have hlen:(c::l).length=l.length+1:=rfl;have hle:=afK (c::l);unfold BV;simp only [mp (show 0<(c::l).length by simp),anQ,aX,fU,show¬ dl (c::l)=0 by omega,anD,anF,anL,List.getD_cons_zero,fq,eS]
 unfold m5;by_cases ha:(c::l).all hV=true
 ·have hd:=(V2 _).2 ha;simp only [hd,Nat.lt_irrefl,anD,Bool.false_or,ha,true_and];by_cases OW:c=48
  ·subst OW;by_cases e0:l=[]
   ·subst e0;simp only [List.head?_cons,anI,anJ];rw [if_pos (by simp)]
    simp only [xh,V0 _ _ ha];rw [if_pos (by decide)]
    rfl
   ·have:1<((48::l:anT)).length:=by
     cases l with
     |nil=>exact absurd rfl e0
     |cons _ _=>simp
    simp only [this,anC,anE];rw [if_neg (by simp [e0])]
    rfl
  ·have afO:¬ c.toNat=48:=λe=>OW (UInt8.toNat_inj.1 e)
   simp only [afO,anD,anF];rw [if_pos (show(c::l).head? ≠ some 48∨(c::l).length=1 from Or.inl (by simpa using OW))]
   rw [afM (by simp only [anI];omega),V0 _ _ ha]
   by_cases an:val 0 (c::l)≤9223372036854775807
   ·rw [if_pos an,if_pos an];rfl
   ·rw [if_neg an,if_neg an];rfl
 ·have hd:dl (c::l)<(c::l).length:=by
   have:¬ dl (c::l)=(c::l).length:=λe=>ha ((V2 _).1 e)
   omega
  simp only [hd,anC,Bool.true_or,anE];rw [if_neg (λx=>ha x.1)]
def ku(w:anT):Token×Int:=
 match w with
 |[]=>(⟨0,[],0,0⟩,0)
 |c::_=>
  if kZ c=true then
   if rJ w=true then(⟨2,w,0,0⟩,0)else if gx w=true then(⟨1,w,0,0⟩,0) else(⟨0,[],0,0⟩,2)
  else if(m5 w).2=0 then(⟨3,[],(m5 w).1,0⟩,0) else(⟨0,[],0,0⟩,(m5 w).2)
def afP{n:Nat}(c:UInt8)(l:anT)(h:l.length+1<n)(hs:l.length+1≤140737488351232)(hw:fo c=true):Gt n (c::l)=some (ku (c::l)):=by
 unfold Gt ku;simp only [mp (show 0<(c::l).length by simp),aX,List.getD_cons_zero,fU,VT,ak,VR,yY _ _ (show(c::l).length≤140737488351232 from hs)]
 by_cases Z:c.toNat=95
 ·have e:c=95:=UInt8.toNat_inj.1 Z;subst e
  have afQ:m5 (95::l)=(0,5):=by
   unfold m5;rw [if_neg (by simp [show hV 95=false from rfl])]
  simp only [Z,anC,anE];rw [if_neg (by decide),afQ]
  rfl
 ·simp only [Z,anD,anF];cases ab:kZ c
  ·have hd:hV c=true:=by
    unfold fo at hw;have hw:=of_decide_eq_true hw;unfold kZ at ab;rw [ps];simp only [Bool.and_eq_false_iff,decide_eq_false_iff_not]at ab;omega
   simp only [anF,afN c l h hs hd,ak,Bool.false_eq_true,anS];by_cases aJ:(m5 (c::l)).2=0
   ·simp only [aJ,anC,anG,anF,anR]
   ·simp only [aJ,anD,anH,anE,anS]
  ·simp only [anE,anR];cases rJ (c::l)
   ·cases gx (c::l)<;>rfl
   ·rfl
def afR{n:Nat}(c:UInt8)(l:anT)(h:l.length+1<n)(aa:25<n)(hs:l.length+1≤140737488351232)(hw:fo c=true):Oj n (c::l)=some (ku (c::l)):=by
 unfold Oj ku
 have hc:c.toNat≠45:=by
  unfold fo at hw;have hw:=of_decide_eq_true hw;omega
 simp only [mp (show 0<(c::l).length by simp),aX,List.getD_cons_zero,fU,OT,ak,VS _ aa,VW (c::l) h aa (show(c::l).length≤4611686018427387904 by simp only [anI];omega),afJ c l h (by omega) hc]
 cases ab:kZ c
 ·simp only [anF,ak,Bool.false_eq_true,anS];by_cases aJ:(m5 (c::l)).2=0
  ·simp only [aJ,anC,anG,anF,anR]
  ·simp only [aJ,anD,anH,anE,anS]
 ·simp only [anE,anR];cases rJ (c::l)
  ·cases gx (c::l)<;>rfl
  ·rfl
open Go Go.Ab Go.Proofs
def up(k:Nat):Int ⊕ (anT×Nat)→Int ⊕ (anT×Nat)
 |.inl e=>.inl e
 |.inr p=>.inr (p.1,p.2+k)
def ga:anT→anT→Int ⊕ (anT×Nat)
 |[],acc=>.inl 6
 |[c],acc=>if c.toNat=34 then .inr (acc,1)else if c.toNat=92 then .inl 6 else if okB c=false then .inl 5 else if acc.length=64 then .inl 2 else .inl 6
 |c::d::l,acc=>
  if c.toNat=34 then .inr (acc,1)
  else if c.toNat=92 then
   if d.toNat≠34∧d.toNat≠92 then .inl 5 else if acc.length=64 then .inl 2 else up 2 (ga l (acc++[d]))
  else if okB c=false then .inl 5
  else if acc.length=64 then .inl 2
  else up 1 (ga (d::l) (acc++[c]))
def fs(l:anT):List Int:=l.map λc=>((c.toNat:Nat):Int)
def OX(l:anT):kS (fs l)=l:=by
 unfold kS fs;rw [List.map_map]
 conv=>rhs;rw [←List.map_id l]
 refine List.map_congr_left λc _=>?_
 simp
def OY(l:anT):oc (fs l)=true:=by
 unfold oc fs;rw [List.all_eq_true];intro x hx;obtain⟨c,_,rfl⟩:=List.mem_map.1 hx;have:=c.toNat_lt
 simp only [Bool.and_eq_true,decide_eq_true_eq];omega
def Ib(l:anT):(fs l).length=l.length:=by simp [fs]
def OZ(l:anT)(c:UInt8):fs l++[((c.toNat:Nat):Int)]=fs (l++[c]):=by simp [fs]
def vM(z:Int)(i:Nat):Int ⊕ (anT×Nat)→anT×Int×Int
 |.inl e=>([],z,e)
 |.inr p=>(p.1,((i+p.2:Nat):Int),0)
def Ic(z:Int)(i k:Nat)(r:Int ⊕ (anT×Nat)):vM z i (up k r)=vM z (i+k) r:=by
 cases r with
 |inl e=>rfl
 |inr p=>simp only [up,vM];rw [show i+(p.2+k)=i+k+p.2 by omega]
def V3{k:Nat}(h:k≤65):room k 1=true:=by simp [room];omega
def yZ(c:UInt8)(l acc:anT)(h:c.toNat≠92):ga (c::l) acc=if c.toNat=34 then .inr (acc,1)else if okB c=false then .inl 5 else if acc.length=64 then .inl 2 else up 1 (ga l (acc++[c])):=by
 cases l with
 |nil=>
  simp only [ga];by_cases Z:c.toNat=34
  ·simp only [Z,anR]
  ·simp only [Z,h,anS,up]
 |cons d l =>
  simp only [ga];by_cases Z:c.toNat=34
  ·simp only [Z,anR]
  ·simp only [Z,h,anS]
def afS{d:UInt8}(h:¬ (d.toNat≠34∧d.toNat≠92)):okB d=true:=by
 unfold okB;simp only [Bool.and_eq_true,decide_eq_true_eq];omega
def V4(p:Prop)[Decidable p]:(!decide p)=decide (¬ p):=by by_cases h:p<;>simp [h]
def afT(n:Nat)(s:anT)(hs:s.length≤4611686018427387904):∀(m i:Nat) (acc:anT),s.length<i+m→i≤s.length→acc.length≤64→
 yb n s m (fs acc) (i:Int)=some (vM 0 i (ga (s.drop i) acc)):=by
 intro m;induction m with
 |zero=>intro i acc h aa;omega
 |succ m aG=>
  intro i acc hm hi ha;simp only [yb,MY,Gp,MX,Gn];by_cases h:i<s.length
  ·rw [fJ s i 0 h,bD (by omega)]
   simp only [h,b4 h,anK,anL,Int.ofNat_inj,anC,anE,aX,s_,fq,fU,eS,CQ,Ib];generalize hc:s.getD i 0=c
   by_cases gy:c.toNat=34
   ·simp only [gy,anC,anE,OY,aX,OX];rw [yZ c _ _ (by omega),if_pos gy]
    rfl
   ·by_cases m6:c.toNat=92
    ·simp only [m6,anC,anE,show¬ (92=34)by omega,anD,anF]
     by_cases lr:i+1=s.length
     ·simp only [lr,anC,anE];rw [gV s s.length (by omega)]
      simp only [ga,gy,anS,m6,anR];rfl
     ·have cv:i+1<s.length:=by omega
      rw [fJ s (i+1) 0 cv,bD (by omega)]
      simp only [lr,anD,anF,b4 cv,aX];generalize s.getD (i+1) 0=d
      simp only [ga,gy,anS,m6,anR,fr,V4,show¬ (92=34)by omega]
      by_cases hd:d.toNat≠34∧d.toNat≠92
      ·rw [if_pos hd];simp only [hd.1,hd.2,anC,not_false_eq_true,Bool.and_self,anE];rfl
      ·rw [if_neg hd];have:(decide (¬ d.toNat=34)&&decide (¬ d.toNat=92))=false:=by rw [←Bool.decide_and];exact decide_eq_false hd
       simp only [this,anF,afS hd,anG];by_cases pt:acc.length=64
       ·simp only [pt,anC,anE,anR];rfl
       ·simp only [pt,anD,anF,anS,anI,anJ,V3 (show acc.length+(0+1)≤65 by omega),aX,OZ]
        rw [aG (i+1+1) (acc++[d]) (by omega) (by omega) (by simp only [anM,anI,anJ];omega),Ic]
    ·simp only [gy,m6,anD,anF];rw [yZ c _ _ m6,if_neg gy];cases cG:okB c
     ·simp only [anH,anE,anR];rfl
     ·simp only [anG,anF,anS,Bool.true_eq_false];by_cases pt:acc.length=64
      ·simp only [pt,anC,anE,anR];rfl
      ·simp only [pt,anD,anF,anS,anI,anJ,V3 (show acc.length+(0+1)≤65 by omega),aX,OZ]
       rw [aG (i+1) (acc++[c]) (by omega) (by omega) (by simp only [anM,anI,anJ];omega),Ic]
  ·rw [gV s i h];simp only [h,anL,anD,anF];rfl
def O0{k:Nat}(h:k≤9223372036854775807):eU k=true:=by simp [eU];omega
def V5(s:anT)(i:Nat)(h:i<s.length):(s.take (i+1)).drop i=[s.getD i 0]:=by
 rw [fJ (s.take (i+1)) i 0 (by simp;omega),gV _ _ (by simp;omega)]
 simp [List.getD,h]
def afU(n:Nat)(s:anT)(hs:s.length≤4611686018427387904):∀(m i:Nat) (acc:anT),s.length<i+m→i≤s.length→acc.length≤64→
 ∃z,HK n s m (i:Int) acc=some (vM z i (ga (s.drop i) acc)):=by
 intro m;induction m with
 |zero=>intro i acc h aa;omega
 |succ m aG=>
  intro i acc hm hi ha;simp only [HK,Ur,Ok,Uq];by_cases h:i<s.length
  ·rw [fJ s i 0 h,bD (by omega)]
   simp only [h,b4 h,anK,anL,Int.ofNat_inj,anC,anE,aX,s_,fq,fU,eS,CQ,Ib,H8 (Nat.le_succ i) h,V5 s i h];generalize hc:s.getD i 0=c
   by_cases gy:c.toNat=34
   ·simp only [gy,anC,anE];rw [yZ c _ _ (by omega),if_pos gy]
    exact⟨0,rfl⟩
   ·by_cases m6:c.toNat=92
    ·simp only [m6,anC,anE,show¬ (92=34)by omega,anD,anF]
     by_cases lr:i+1=s.length
     ·simp only [lr,anC,anE];rw [gV s s.length (by omega)]
      simp only [ga,gy,anS,m6,anR];exact⟨_,rfl⟩
     ·have cv:i+1<s.length:=by omega
      rw [fJ s (i+1) 0 cv,bD (by omega)]
      simp only [lr,anD,anF,b4 cv,aX,anQ,anK,V5 s (i+1) cv,H8 (Nat.le_succ (i+1)) cv];generalize s.getD (i+1) 0=d
      simp only [ga,gy,anS,m6,anR,fr,V4,show¬ (92=34)by omega]
      by_cases hd:d.toNat≠34∧d.toNat≠92
      ·rw [if_pos hd];simp only [hd.1,hd.2,anC,not_false_eq_true,Bool.and_self,anE];exact⟨_,rfl⟩
      ·rw [if_neg hd];have:(decide (¬ d.toNat=34)&&decide (¬ d.toNat=92))=false:=by rw [←Bool.decide_and];exact decide_eq_false hd
       simp only [this,anF];by_cases pt:acc.length=64
       ·simp only [pt,anC,anE,anR];exact⟨_,rfl⟩
       ·simp only [pt,anD,anF,anS,anI,anJ,O0 (show acc.length+(0+1)≤9223372036854775807 by omega),aX]
        obtain⟨z,dJ⟩:=aG (i+1+1) (acc++[d]) (by omega) (by omega) (by simp only [anM,anI,anJ];omega)
        exact⟨z,by rw [dJ,Ic]⟩
    ·simp only [gy,m6,anD,anF];rw [yZ c _ _ m6,if_neg gy];cases cG:okB c
     ·simp only [anH,anE,anR];exact⟨_,rfl⟩
     ·simp only [anG,anF,anS,Bool.true_eq_false];by_cases pt:acc.length=64
      ·simp only [pt,anC,anE,anR];exact⟨_,rfl⟩
      ·simp only [pt,anD,anF,anS,anI,anJ,O0 (show acc.length+(0+1)≤9223372036854775807 by omega),aX]
       obtain⟨z,dJ⟩:=aG (i+1) (acc++[c]) (by omega) (by omega) (by simp only [anM,anI,anJ];omega)
       exact⟨z,by rw [dJ,Ic]⟩
  ·rw [gV s i h];simp only [h,anL,anD,anF];exact⟨_,rfl⟩
open Go Go.Ab Go.Proofs
def two:List anT:=[[61,61],[33,61],[60,61],[62,61],[43,43]]
def ow:anT:=[40,41,123,125,44,59,58,61,60,62,43,45,42,47,37]
def marks:List anT:=two++ow.map λc=>[c]
def j_(l w:anT):Bool:=decide (w.length≤l.length∧l.take w.length=w)
def k0(l:anT):anT:=(marks.find? (j_ l)).getD []
def find_eq{α β:Type}[DecidableEq β](x:β)(p:α→Bool)(f:α→β)(L:List α)(h:∀w,w∈L→p w=decide (x=f w))(aN:∀v w,v∈L→w∈L→f v=f w→v=w):
 (∃v,v∈L∧x=f v∧L.find? p=some v)∨((∀v,v∈L→x≠f v)∧L.find? p=none):=by
 cases al:L.find? p with
 |none=>
  right
  rw [List.find?_eq_none]at al;refine⟨λv an e=>al v an ?_,rfl⟩
  rw [h v an];exact decide_eq_true e
 |some v=>
  left
  have an:=List.mem_of_find?_eq_some al;have:=List.find?_some al
  rw [h v an]at this;exact⟨v,an,of_decide_eq_true this,rfl⟩
def afV(a c:UInt8)(t:anT):j_ (a::t) [c]=decide (a=c):=by
 unfold j_;rw [decide_eq_decide];simp
def afW(a b:UInt8)(t:anT)(w:anT)(h:w∈two):j_ (a::b::t) w=decide ([a,b]=w):=by
 have:w.length=2:=by
  simp only [two,List.mem_cons,List.not_mem_nil,or_false]at h;rcases h with rfl|rfl|rfl|rfl|rfl<;>rfl
 unfold j_;rw [decide_eq_decide,this];simp
def afX(a:UInt8)(w:anT)(h:w∈two):j_ [a] w=false:=by
 have:w.length=2:=by
  simp only [two,List.mem_cons,List.not_mem_nil,or_false]at h;rcases h with rfl|rfl|rfl|rfl|rfl<;>rfl
 unfold j_;rw [this];simp
def V6(a:UInt8)(t:anT):((ow.map λc=>[c]).find? (j_ (a::t))).getD []=if a∈ow then[a] else[]:=by
 rw [List.find?_map];have Z:((λw=>j_ (a::t) w)∘λc=>[c])=λc=>decide (a=c):=by funext c;exact afV a c t
 have Z:(j_ (a::t)∘λc=>[c])=λc=>decide (a=c):=Z
 rw [Z];rcases find_eq a (λc=>decide (a=c)) (λc=>c) ow (λ_ _=>rfl) (λ_ _ _ _ e=>e) with⟨v,an,rfl,aa⟩|⟨hn,aa⟩
 ·rw [aa,if_pos an];rfl
 ·rw [aa,if_neg λhm=>hn a hm rfl];rfl
def O1(a b:UInt8)(t:anT):k0 (a::b::t)=if[a,b]∈two then[a,b]else if a∈ow then[a] else[]:=by
 unfold k0 marks;rw [List.find?_append];rcases find_eq [a,b] (j_ (a::b::t)) (λc=>c) two (λw hw=>afW a b t w hw) (λ_ _ _ _ e=>e) with⟨v,an,rfl,aa⟩|⟨hn,aa⟩
 ·rw [aa,if_pos an];rfl
 ·rw [aa,if_neg λhm=>hn _ hm rfl]
  exact V6 a (b::t)
def V7(a:UInt8):k0 [a]=if a∈ow then[a] else[]:=by
 unfold k0 marks;rw [List.find?_append]
 have:two.find? (j_ [a])=none:=by
  rw [List.find?_eq_none];intro w hw;rw [afX a w hw];exact Bool.false_ne_true
 rw [this];exact V6 a []
def V8(a:UInt8):∀l:anT,Lib.indexByte l a = -1∧a∉l∨0≤Lib.indexByte l a∧a∈l
 |[]=>Or.inl ⟨rfl,by simp⟩
 |b::l=>by
  unfold Lib.indexByte;by_cases h:b=a
  ·subst h;right;simp
  ·have cv:(b == a)=false:=by simp [h]
   rw [cv];simp only [Bool.false_eq_true,anS];rcases V8 a l with⟨Z,aa⟩|⟨Z,aa⟩
   ·left
    rw [Z];refine⟨rfl,?_⟩
    simp only [List.mem_cons,not_or];exact⟨λe=>h e.symm,aa⟩
   ·right
    have:(Lib.indexByte l a == -1)=false:=by
     simp only [beq_eq_false_iff_ne,ne_eq];omega
    rw [this];simp only [Bool.false_eq_true,anS];exact⟨by omega,List.mem_cons_of_mem _ aa⟩
def afY(a:UInt8):(((a.toNat:Nat):Int)).toNat.toUInt8=a:=by
 (simp only [anK]);exact UInt8.ofNat_toNat
def V9(n:Nat)(a:UInt8)(t:anT):BU n (a::t)=some (if a∈ow then[a] else[]):=by
 unfold BU M0 EY;simp only [reduceCtorEq,anD,anH,mp (show 0<(a::t).length by simp),anQ,aX,anE,ak,List.getD_cons_zero,afY]
 rw [show([40,41,123,125,44,59,58,61,60,62,43,45,42,47,37]:anT)=ow from rfl]
 rcases V8 a ow with⟨Z,aa⟩|⟨Z,aa⟩
 ·rw [Z,if_neg aa];rfl
 ·rw [if_pos aa];have hu:gC 1 (a::t).length=true:=vK (i:=1) (show 1≤(a::t).length by simp)
  simp only [Z,anC,anE,hu,aX,List.take_succ_cons,List.take_zero]
def afZ(n:Nat)(a:UInt8)(t:anT):Gq n (a::t)=some (k0 (a::t)):=by
 unfold Gq;cases t with
 |nil=>
  rw [V7];exact V9 n a []
 |cons b t=>
  rw [O1];have aa:decide ((2:Int)≤(((a::b::t).length:Nat):Int))=true:=decide_eq_true (by simp only [anI];omega)
  have hu:gC 2 (a::b::t).length=true:=vK (i:=2) (show 2≤(a::b::t).length by simp)
  simp only [aa,anE,hu,aX,vh,V9];rw [show(a::b::t).take 2=[a,b]from rfl]
  generalize [a,b]=w
  by_cases h:w∈two
  ·rw [if_pos h];simp only [two,List.mem_cons,List.not_mem_nil,or_false]at h;rcases h with rfl|rfl|rfl|rfl|rfl<;>rfl
  ·rw [if_neg h];simp only [two,List.mem_cons,List.not_mem_nil,or_false,not_or]at h;simp only [h,anD,anF]
def af0(n:Nat):Uk n=some marks:=rfl
def O2(w:anT)(h:w∈marks):1≤w.length∧w.length≤2:=by
 have:∀w,w∈marks→decide (1≤w.length∧w.length≤2)=true:=by decide
 exact of_decide_eq_true (this w h)
def af1(i:Nat):Option anT→Token×Int×Int
 |none=>(⟨0,[],0,0⟩,(i:Int),5)
 |some w=>(⟨5,w,0,0⟩,((i+w.length:Nat):Int),0)
def V'(s:anT)(i k:Nat):(s.take (i+k)).drop i=(s.drop i).take k:=by
 rw [List.drop_take];congr 1;omega
def af2(n:Nat)(s:anT)(at_:Nat)(L:List anT)(hs:s.length≤4611686018427387904)(ha:at_≤s.length)(cL:L.length≤100)(hw:∀w,w∈L→w.length≤2):
 ∀m i,L.length<i+m→i≤L.length→Cv n s (at_:Int) L m (i:Int)=some (af1 at_ ((L.drop i).find? (j_ (s.drop at_)))):=by
 intro m;induction m with
 |zero=>intro i h aa;omega
 |succ m aG=>
  intro i hm hi;simp only [Cv,Uu,Ut];by_cases h:i<L.length
  ·(rw [fJ L i default h,bD (by omega),aG (i+1) (by omega) (by omega)];simp only [anK])
   have O3:(L.getD i default).length≤2:=hw _ (by simp [List.getD,h])
   generalize L.getD i default=w at O3
   simp only [h,b4 h,anL,anC,anE,aX,anQ];have e1:anV ((at_:Int)+((w.length:Nat):Int))=((at_+w.length:Nat):Int):=by rw [wr]<;>omega
   simp only [e1,anK,V',Int.ofNat_le];by_cases Z:at_+w.length≤s.length
   ·simp only [Z,anC,anG,Bool.false_or,H8 (Nat.le_add_right at_ w.length) Z,aX,anE];by_cases aa:(s.drop at_).take w.length=w
    ·have:j_ (s.drop at_) w=true:=decide_eq_true ⟨by simp;omega,aa⟩
     simp only [aa,anC,anE,List.find?_cons,this];rfl
    ·have:j_ (s.drop at_) w=false:=decide_eq_false λx=>aa x.2
     simp only [aa,anD,anF,List.find?_cons,this]
   ·have:j_ (s.drop at_) w=false:=decide_eq_false λx=>by have:=x.1;simp at this;omega
    simp only [Z,anD,anH,Bool.true_or,aX,anF,List.find?_cons,this]
  ·rw [gV L i h];simp only [h,anL,anD,anF];rfl
open Go Go.Ab Go.Proofs
def vN:Int ⊕ (anT×Nat)→Token×Nat×Int
 |.inl e=>(⟨4,[],0,0⟩,0,e)
 |.inr p=>(⟨4,p.1,0,0⟩,p.2+1,0)
def ft(l:anT):Token×Nat×Int:=
 match l with
 |[]=>(⟨0,[],0,0⟩,0,0)
 |c::t=>
  if fo c=true then((ku ((c::t).take (gQ (c::t)))).1,gQ (c::t),(ku ((c::t).take (gQ (c::t)))).2)
  else if c.toNat=34 then vN (ga t [])
  else if k0 (c::t)=[] then(⟨0,[],0,0⟩,0,5) else(⟨5,k0 (c::t),0,0⟩,(k0 (c::t)).length,0)
def CT:∀(l acc:anT) (e:Int),ga l acc = .inl e→e≠0
 |[],acc,e,h=>by simp only [ga,Sum.inl.injEq]at h;omega
 |[c],acc,e,h=>by
  simp only [ga]at h
  (repeat' split at h)<;>simp only [reduceCtorEq,Sum.inl.injEq]at h<;>omega
 |c::d::l,acc,e,h=>by
  simp only [ga]at h;split at h
  ·cases h
  ·split at h
   ·split at h
    ·simp only [Sum.inl.injEq]at h;omega
    ·split at h
     ·simp only [Sum.inl.injEq]at h;omega
     ·cases al:ga l (acc++[d]) with
      |inl a'=>rw [al]at h;simp only [up,Sum.inl.injEq]at h;subst h;exact CT l _ _ al
      |inr p=>rw [al]at h;cases h
   ·split at h
    ·simp only [Sum.inl.injEq]at h;omega
    ·split at h
     ·simp only [Sum.inl.injEq]at h;omega
     ·cases al:ga (d::l) (acc++[c]) with
      |inl a'=>rw [al]at h;simp only [up,Sum.inl.injEq]at h;subst h;exact CT (d::l) _ _ al
      |inr p=>rw [al]at h;cases h
def O4:∀(l acc:anT) (p:anT×Nat),ga l acc = .inr p→1≤p.2∧p.2≤l.length∧p.1.length≤acc.length+p.2
 |[],acc,e,h=>by simp only [ga,reduceCtorEq]at h
 |[c],acc,p,h=>by
  simp only [ga]at h;split at h
  ·simp only [Sum.inr.injEq]at h;subst h;simp
  ·(repeat' split at h)<;>simp only [reduceCtorEq]at h
 |c::d::l,acc,p,h=>by
  simp only [ga]at h;split at h
  ·simp only [Sum.inr.injEq]at h;subst h;simp
  ·split at h
   ·split at h
    ·simp only [reduceCtorEq]at h
    ·split at h
     ·simp only [reduceCtorEq]at h
     ·cases al:ga l (acc++[d]) with
      |inl a'=>rw [al]at h;simp only [up,reduceCtorEq]at h
      |inr q=>
       rw [al]at h;simp only [up,Sum.inr.injEq]at h;subst h;have:=O4 l _ _ al
       simp only [anM,anI,anJ]at this ⊢;omega
   ·split at h
    ·simp only [reduceCtorEq]at h
    ·split at h
     ·simp only [reduceCtorEq]at h
     ·cases al:ga (d::l) (acc++[c]) with
      |inl a'=>rw [al]at h;simp only [up,reduceCtorEq]at h
      |inr q=>
       rw [al]at h;simp only [up,Sum.inr.injEq]at h;subst h;have:=O4 (d::l) _ _ al
       simp only [anM,anI,anJ]at this ⊢;omega
def af3(l:anT):k0 l=[]∨(1≤(k0 l).length∧(k0 l).length≤l.length):=by
 unfold k0;cases h:marks.find? (j_ l) with
 |none=>left;rfl
 |some w=>
  right
  have Z:=O2 w (List.mem_of_find?_eq_some h);have aa:=List.find?_some h;have:=(of_decide_eq_true aa).1
  exact⟨Z.1,this⟩
def af4(w:anT):(ku w).1.Text.length≤w.length:=by
 cases w with
 |nil=>simp [ku]
 |cons c l=>
  unfold ku;simp only
  (repeat' split)<;>simp
def V_(l:anT)(ab:l≠[])(h:(ft l).2.2=0):1≤(ft l).2.1∧(ft l).2.1≤l.length∧(ft l).1.Text.length≤(ft l).2.1:=by
 cases l with
 |nil=>exact absurd rfl ab
 |cons c t=>
  unfold ft at h ⊢;simp only at h ⊢
  split at h
  ·rename_i hw;rw [if_pos hw];simp only
   have Z:=H9 (c::t);refine⟨by rw [tb,hw];simp,Z,?_⟩
   refine Nat.le_trans (af4 _) ?_;simp only [List.length_take];omega
  ·rename_i hw;rw [if_neg hw];split at h
   ·rename_i gy;rw [if_pos gy];cases al:ga t [] with
    |inl e=>rw [al]at h;exact absurd h (CT t [] e al)
    |inr p=>
     have:=O4 t [] p al
     simp only [vN,anI,anJ]at this ⊢;omega
   ·rename_i gy;rw [if_neg gy];split at h
    ·simp only at h;omega
    ·rename_i hm;rw [if_neg hm];have:=(af3 (c::t)).resolve_left hm
     simp only
     exact⟨this.1,this.2,Nat.le_refl _⟩
def Wa(c:UInt8)(t:anT)(h:fo c=true):∃k,gQ (c::t)=k+1∧(c::t).take (gQ (c::t))=c::t.take k∧k≤t.length:=by
 refine⟨gQ t,by rw [tb,h];rfl,by rw [tb,h];rfl,H9 t⟩
def af5{c:UInt8}(h:c.toNat=34):fo c=false:=by
 unfold fo;exact decide_eq_false (by omega)
def Wb{n:Nat}(c:UInt8)(t:anT)(h:t.length+1<n)(hs:t.length+1≤140737488351232):
 yd n (c::t)=some ((ft (c::t)).1,(((ft (c::t)).2.1:Nat):Int),(ft (c::t)).2.2):=by
 unfold yd;rw [VX n (c::t) hs,ak];unfold ft;simp only
 cases hw:fo c
 ·have h0:gQ (c::t)=0:=by rw [tb,hw];rfl
  rw [h0];simp only [show decide ((0:Int)<((0:Nat):Int))=false from rfl,anF,mp (show 0<(c::t).length by simp),aX,List.getD_cons_zero,fU,Bool.false_eq_true,anS]
  by_cases gy:c.toNat=34
  ·rw [if_pos gy];simp only [gy,anC,anE];unfold MZ;have:=afT n (c::t) (by simp only [anI];omega) n 1 [] (by simp only [anI];omega) (by simp) (by simp)
   rw [show yb n (c::t) n ([]:List Int) 1=_ from this,List.drop_succ_cons,List.drop_zero]
   cases ga t [] with
   |inl e=>rfl
   |inr p=>simp only [vM,vN,ak];rw [Nat.add_comm 1 p.2]
  ·rw [if_neg gy];simp only [gy,anD,anF,afZ,ak];by_cases hm:k0 (c::t)=[]
   ·rw [if_pos hm];simp only [hm,anC,anE];rfl
   ·rw [if_neg hm];simp only [hm,anD,anF]
 ·obtain⟨k,hk,CU,EK⟩:=Wa c t hw;rw [if_pos rfl];simp only [fq,show 0<gQ (c::t)by omega,anC,anE,vK (H9 (c::t)),aX,anK]
  rw [CU,afP c (t.take k) (by simp only [List.length_take];omega) (by simp only [List.length_take];omega) hw]
  rfl
def af6{n:Nat}(s:anT)(i:Nat)(hi:i<s.length)(h:s.length<n)(aa:100<n)(hs:s.length≤140737488351232):
 ∃t z,Ol n s (i:Int)=some (t,z,(ft (s.drop i)).2.2)∧((ft (s.drop i)).2.2=0→t=(ft (s.drop i)).1∧z=((i+(ft (s.drop i)).2.1:Nat):Int)):=by
 unfold Ol;have hd:=fJ s i 0 hi
 (simp only [anK])
 generalize hc:s.getD i 0=c at hd
 generalize aC:s.drop (i+1)=t at hd
 have Ie:t.length+(i+1)=s.length:=by rw [←aC,List.length_drop];omega
 rw [hd];unfold ft;simp only [b4 hi,aX,fU];by_cases gy:c.toNat=34
 ·simp only [af5 gy,Bool.false_eq_true,anS,gy,anC,anE,anR];unfold Us;rw [bD (by omega)]
  obtain⟨z,dJ⟩:=afU n s (by omega) n (i+1) [] (by omega) (by omega) (by simp)
  rw [dJ,aC];cases al:ga t [] with
  |inl e=>exact⟨_,_,rfl,λbN=>absurd bN (CT _ _ _ al)⟩
  |inr p=>exact⟨_,_,rfl,λ_=>⟨rfl,by simp only [vN,vM];rw [show i+1+p.2=i+(p.2+1)by omega]⟩⟩
 ·simp only [gy,anD,anF,anS,VU,ak];cases hw:fo c
  ·simp only [anF,Bool.false_eq_true,anS,af0,ak];have:=af2 n s i marks (by omega) (by omega) (by decide) (λw hw=>(O2 w hw).2) n 0 (by have:marks.length=20:=rfl;omega) (by omega)
   rw [show Cv n s (i:Int) marks n 0=_ from this,List.drop_zero,hd]
   unfold k0;cases al:marks.find? (j_ (c::t)) with
   |none=>exact⟨_,_,rfl,λbN=>absurd bN (by decide)⟩
   |some w=>
    have cW:¬ w=[]:=λe=>by have:=(O2 w (List.mem_of_find?_eq_some al)).1;rw [e]at this;simp at this
    simp only [Option.getD_some,cW,anS];exact⟨_,_,rfl,λ_=>⟨rfl,rfl⟩⟩
  ·obtain⟨k,hk,CU,EK⟩:=Wa c t hw;have O3:=H9 (c::t);simp only [anI]at O3;simp only [anE,anR,VV i h (by omega) (show s.length≤4611686018427387904 by omega),ak,hd,H8 (Nat.le_add_right i (gQ (c::t))) (show i+gQ (c::t)≤s.length by omega),aX,anK,V']
   rw [CU,afR c (t.take k) (by simp only [List.length_take];omega) (by omega) (by simp only [List.length_take];omega) hw]
   exact⟨_,_,rfl,λ_=>⟨rfl,rfl⟩⟩
open Go Go.Ab Go.Proofs
def iy:Bool→anT→Nat
 |_,[]=>0
 |false,c::l=>if c.toNat=35 then 1+iy true l else if c.toNat=32∨c.toNat=9∨c.toNat=10 then 1+iy false l else 0
 |true,c::l=>if c.toNat=10 then 1+iy false l else 1+iy true l
def gr:anT→Nat
 |[]=>0
 |c::l=>if c.toNat=10 then 0 else 1+gr l
def O5:∀l,gr l≤l.length
 |[]=>Nat.le_refl _
 |c::l=>by have:=O5 l;simp only [gr];split<;>simp only [anI]<;>omega
def O6:∀l,iy true l=gr l+iy false (l.drop (gr l))
 |[]=>rfl
 |c::l=>by
  by_cases h:c.toNat=10
  ·simp only [iy,gr,h,anR,List.drop_zero,Nat.zero_add,show¬ (10=35)by omega,anS,or_true]
  ·simp only [iy,gr,h,anS];rw [O6 l,Nat.add_comm 1 (gr l),List.drop_succ_cons];omega
def af7(n:Nat)(s:anT)(aq:Int→anY)(hs:s.length≤4611686018427387904):∀m i,s.length<i+m→i≤s.length→HG n aq s m (i:Int)=aq ((i+gr (s.drop i):Nat):Int):=by
 intro m;induction m with
 |zero=>intro i h aa;omega
 |succ m aG=>
  intro i hm hi;simp only [HG,Ui];by_cases h:i<s.length
  ·(rw [fJ s i 0 h,bD (by omega),aG (i+1) (by omega) (by omega)];simp only [anK])
   generalize s.getD i 0=c
   simp only [h,b4 h,anL,anC,anE,aX,anQ,fU,gr];by_cases gi:c.toNat=10
   ·simp only [gi,anC,anG,anF,anR];rfl
   ·simp only [gi,anD,anH,anE,anS];rw [show i+(1+gr (s.drop (i+1)))=i+1+gr (s.drop (i+1))by omega]
  ·rw [gV s i h];simp only [h,anL,anD,anF,anH,Bool.true_or,aX];rfl
def af8(n:Nat)(s:anT)(hs:s.length≤4611686018427387904)(hn:s.length<n):∀m i,s.length<i+m→i≤s.length→HH n s m (i:Int)=some ((i+iy false (s.drop i):Nat):Int):=by
 intro m;induction m with
 |zero=>intro i h aa;omega
 |succ m aG=>
  intro i hm hi;simp only [HH,Uj,Uh];by_cases h:i<s.length
  ·have gn:=O5 (s.drop i);rw [af7 n s _ hs n i (by omega) hi]
   rw [fJ s i 0 h]at gn ⊢
   (rw [bD (by omega),aG (i+1) (by omega) (by omega)];simp only [anK])
   have Ie:(s.drop (i+1)).length=s.length-(i+1):=List.length_drop;generalize s.getD i 0=c at gn ⊢
   simp only [h,b4 h,anL,anC,anE,aX,anQ,fU,eS];by_cases td:c.toNat=35
   ·have e:gr (c::s.drop (i+1))=1+gr (s.drop (i+1)):=by simp only [gr,td,show¬ (35=10)by omega,anS]
    rw [e]at gn ⊢;simp only [anI,Ie]at gn;rw [aG (i+(1+gr (s.drop (i+1)))) (by omega) (by omega)]
    simp only [td,anC,anE,iy,anR];rw [O6,List.drop_drop]
    congr 2
    rw [show i+(1+gr (s.drop (i+1)))=i+1+gr (s.drop (i+1))by omega]
    omega
   ·simp only [td,anD,anF,iy,anS];by_cases hb:c.toNat=32∨c.toNat=9∨c.toNat=10
    ·have:(decide (c.toNat=32)||decide (c.toNat=9)||decide (c.toNat=10))=true:=by
      rcases hb with hb|hb|hb<;>simp [hb]
     rw [if_pos hb,this,anE]
     congr 2;omega
    ·have:(decide (c.toNat=32)||decide (c.toNat=9)||decide (c.toNat=10))=false:=by
      simp only [not_or]at hb;simp only [hb.1,hb.2.1,hb.2.2,anD,Bool.or_self]
     rw [if_neg hb,this,anF];rfl
  ·rw [gV s i h];simp only [h,anL,anD,anF];rfl
def fd(s:anT)(i:Nat):Nat:=(s.take i).count 10
def Wc(s:anT)(i k:Nat)(h:(10:UInt8)∉(s.drop i).take k):fd s (i+k)=fd s i:=by
 unfold fd;rw [List.take_add,List.count_append,List.count_eq_zero.2 h];rfl
def Wd(s:anT)(i:Nat)(h:i<s.length):fd s (i+1)=fd s i+(if(s.getD i 0).toNat=10 then 1 else 0):=by
 unfold fd;rw [List.take_add,List.count_append,fJ s i 0 h,List.take_succ_cons,List.take_zero]
 congr 1
 generalize s.getD i 0=c
 by_cases hc:c.toNat=10
 ·rw [if_pos hc];obtain rfl:c=10:=UInt8.toNat_inj.1 hc;rfl
 ·rw [if_neg hc];refine List.count_eq_zero.2 λhm=>?_
  simp only [List.mem_cons,List.not_mem_nil,or_false]at hm;exact hc (by rw [←hm];rfl)
def af9(n:Nat)(s:anT)(a:Nat)(hs:s.length≤4611686018427387904)(ha:a≤s.length):∀m i,a<i+m→i≤a→HF n s (a:Int) m ((fd s i:Nat):Int) (i:Int)=some ((fd s a:Nat):Int):=by
 intro m;induction m with
 |zero=>intro i h aa;omega
 |succ m aG=>
  intro i hm hi;simp only [HF,Ug,Uf,Of];by_cases h:i<a
  ·have hle:fd s i≤i:=by unfold fd;exact Nat.le_trans List.count_le_length (by simp;omega)
   have jw:=Wd s i (by omega)
   have ov:=aG (i+1) (by omega) (by omega)
   rw [jw]at ov
   (rw [bD (by omega),bD (by omega)];simp only [anK])
   generalize s.getD i 0=c at ov
   simp only [h,b4 (show i<s.length by omega),anL,anC,anE,aX,fU]
   by_cases gi:c.toNat=10
   ·rw [if_pos gi]at ov;simp only [gi,anC,anE];exact ov
   ·rw [if_neg gi]at ov;simp only [gi,anD,anF];exact ov
  ·obtain rfl:i=a:=by omega
   simp only [Nat.lt_irrefl,anL,anD,anF]
def af'{n:Nat}(s:anT)(a:Nat)(hs:s.length≤4611686018427387904)(ha:a≤s.length)(hn:s.length<n):Og n s (a:Int)=some ((fd s a:Nat):Int):=by
 unfold Og;exact af9 n s a hs ha n 0 (by omega) (by omega)
def O7:∀(l acc:anT) (p:anT×Nat),ga l acc = .inr p→(10:UInt8)∉l.take p.2
 |[],acc,e,h=>by simp only [ga,reduceCtorEq]at h
 |[c],acc,p,h=>by
  simp only [ga]at h;split at h
  ·rename_i hc;simp only [Sum.inr.injEq]at h;subst h;intro hm;simp only [List.take_succ_cons,List.take_zero,List.mem_cons,List.not_mem_nil,or_false]at hm;rw [←hm]at hc;exact absurd hc (by decide)
  ·(repeat' split at h)<;>simp only [reduceCtorEq]at h
 |c::d::l,acc,p,h=>by
  simp only [ga]at h;split at h
  ·rename_i hc;simp only [Sum.inr.injEq]at h;subst h;intro hm;simp only [List.take_succ_cons,List.take_zero,List.mem_cons,List.not_mem_nil,or_false]at hm;rw [←hm]at hc;exact absurd hc (by decide)
  ·split at h
   ·rename_i gy m6;split at h
    ·simp only [reduceCtorEq]at h
    ·rename_i hd;split at h
     ·simp only [reduceCtorEq]at h
     ·cases al:ga l (acc++[d]) with
      |inl a'=>rw [al]at h;simp only [up,reduceCtorEq]at h
      |inr q=>
       rw [al]at h;simp only [up,Sum.inr.injEq]at h;subst h;have:=O7 l _ _ al
       intro hm;simp only [List.take_succ_cons,List.mem_cons]at hm;rcases hm with hm|hm|hm
       ·rw [←hm]at m6;exact absurd m6 (by decide)
       ·rw [←hm]at hd;exact absurd (show(10:UInt8).toNat≠34∧(10:UInt8).toNat≠92 by decide) hd
       ·exact this hm
   ·split at h
    ·simp only [reduceCtorEq]at h
    ·rename_i cG;split at h
     ·simp only [reduceCtorEq]at h
     ·cases al:ga (d::l) (acc++[c]) with
      |inl a'=>rw [al]at h;simp only [up,reduceCtorEq]at h
      |inr q=>
       rw [al]at h;simp only [up,Sum.inr.injEq]at h;subst h;have:=O7 (d::l) _ _ al
       intro hm;rw [List.take_succ_cons,List.mem_cons]at hm;rcases hm with hm|hm
       ·rw [←hm]at cG;exact cG (by decide)
       ·exact this hm
def af_(l:anT)(ab:l≠[])(h:(ft l).2.2=0):(10:UInt8)∉l.take (ft l).2.1:=by
 cases l with
 |nil=>exact absurd rfl ab
 |cons c t=>
  unfold ft at h ⊢;simp only at h ⊢
  split at h
  ·rename_i hw;rw [if_pos hw];simp only
   intro hm
   have e:(c::t).take (gQ (c::t))=(c::t).takeWhile fo:=by
    unfold gQ;exact(List.prefix_iff_eq_take.1 (List.takeWhile_prefix fo)).symm
   rw [e]at hm;have:=List.all_eq_true.1 (List.all_takeWhile (p:=fo) (l:=c::t)) _ hm
   exact absurd this (by decide)
  ·rename_i hw;rw [if_neg hw];split at h
   ·rename_i gy;rw [if_pos gy];cases al:ga t [] with
    |inl e=>rw [al]at h;exact absurd h (CT t [] e al)
    |inr p=>
     simp only [vN];intro hm;rw [List.take_succ_cons,List.mem_cons]at hm;rcases hm with hm|hm
     ·rw [←hm]at gy;exact absurd gy (by decide)
     ·exact O7 _ _ _ al hm
   ·rename_i gy;rw [if_neg gy];split at h
    ·simp only at h;omega
    ·rename_i hm;rw [if_neg hm];simp only
     unfold k0 at hm ⊢;cases al:marks.find? (j_ (c::t)) with
     |none=>rw [al]at hm;exact absurd rfl hm
     |some w=>
      simp only [Option.getD_some];have aa:=List.find?_some al;rw [(of_decide_eq_true aa).2];have:∀w,w∈marks→decide ((10:UInt8)∉w)=true:=by decide
      exact of_decide_eq_true (this w (List.mem_of_find?_eq_some al))
def We:∀l:anT,(10:UInt8)∉l.take (gr l)
 |[]=>by simp
 |c::l=>by
  by_cases h:c.toNat=10
  ·simp [gr,h]
  ·have:=We l
   simp only [gr,h,anS];rw [Nat.add_comm,List.take_succ_cons,List.mem_cons];intro hm;rcases hm with hm|hm
   ·rw [←hm]at h;exact h rfl
   ·exact this hm
open Go Go.Ab Go.Proofs
def k1:List Token→Nat
 |[]=>0
 |t::l=>60+t.Text.length+k1 l
def O8:∀l m:List Token,k1 (l++m)=k1 l+k1 m
 |[],m=>by simp [k1]
 |t::l,m=>by rw [List.cons_append,k1,k1,O8 l m];omega
def If:∀l:List Token,60*l.length≤k1 l
 |[]=>Nat.le_refl _
 |t::l=>by have:=If l;simp only [k1,anI];omega
def aga(n:Nat)(src:anT)(aq:List Token→Int→Int→Option (List Token×Int×Int))(out:List Token)(jp:Int)(hs:src.length≤4611686018427387904):
 ∀m i,src.length<i+m→i≤src.length→BX n aq src out jp m (i:Int)=aq out jp ((i+gr (src.drop i):Nat):Int):=by
 intro m;induction m with
 |zero=>intro i h aa;omega
 |succ m aG=>
  intro i hm hi;simp only [BX,M4,M3];by_cases h:i<src.length
  ·(rw [fJ src i 0 h,bD (by omega),aG (i+1) (by omega) (by omega)];simp only [anK])
   generalize src.getD i 0=c
   simp only [h,b4 h,anL,anC,anE,aX,anQ,fU,gr];by_cases gi:c.toNat=10
   ·simp only [gi,anC,anG,anF,anR];rfl
   ·simp only [gi,anD,anH,anE,anS];rw [show i+(1+gr (src.drop (i+1)))=i+1+gr (src.drop (i+1))by omega]
  ·rw [gV src i h];simp only [h,anL,anD,anF,anH,Bool.true_or,aX];rfl
def clone{n:Nat}{s:anT}(h:s.length≤281474976710656):Gu n s=some s:=by
 unfold Gu EX;simp only [h,anC,aX,ak]
def Wf{k:Nat}(h:k≤1000000000000):room k 40=true:=by simp [room];omega
def Wg{n:Nat}(s:anT)(i:Nat)(hs:s.length≤4611686018427387904)(hn:s.length<n)(hi:i≤s.length):HI n s (i:Int)=some ((i+iy false (s.drop i):Nat):Int):=af8 n s hs hn n i (by omega) hi
def agb(
 G:Token→Prop) (rm:∀(s:anT) (jp:Int),s≠[]→(ft s).2.2=0→G ⟨(ft s).1.Kind,(ft s).1.Text,(ft s).1.N,jp⟩) (n:Nat) (src:anT) (hs:src.length≤1000000000) (hn:src.length<n) (qt:100<n):∀(k i m m2:Nat) (out:List Token),src.length-i=k→i≤src.length→src.length<i+m→src.length<i+m2→k1 out≤61*i→(∀t,t∈out→G t)→
 ∃r,rF n src m out ((fd src i+1:Nat):Int) (i:Int)=some r∧Cw n src m2 out ((i+iy false (src.drop i):Nat):Int)=some r∧(r.2.2=0→k1 r.1≤61*src.length∧∀t,t∈r.1→G t):=by
 intro k;induction k using Nat.strongRecOn with
 |_ k Wh=>
  intro i m m2 out hk hi hm amQ hw O9;cases m with
  |zero=>omega
  |succ m=>
   simp only [rF,yg,ye];by_cases h:i<src.length
   ·have hd:=fJ src i 0 h;have jw:=Wd src i h;have amR:fd src i≤i:=by unfold fd;exact Nat.le_trans List.count_le_length (by simp;omega)
    simp only [yf,BW]
    (rw [aga n src _ out _ (by omega) n i (by omega) hi,bD (by omega),bD (by omega)];simp only [anK])
    have Ie:(src.drop (i+1)).length=src.length-(i+1):=List.length_drop;have gn:=O5 (src.drop i);have agc:=We (src.drop i);have O':∀(j:Nat),i<j→j≤src.length→_:=λj hj uk=>Wh (src.length-j) (by omega) j m m2 out rfl uk (by omega) (by omega) (by omega) O9
    generalize hc:src.getD i 0=c at hd jw
    simp only [h,b4 h,anL,anC,anE,aX,fU];by_cases gi:c.toNat=10
    ·simp only [gi,anC,anE];obtain⟨r,Z,aa,ai⟩:=O' (i+1) (by omega) (by omega)
     rw [jw,if_pos gi]at Z;refine⟨r,Z,?_,ai⟩
     rw [hd];simp only [iy,gi,show¬ (10=35)by omega,anS,or_true,anR]
     rw [show i+(1+iy false (src.drop (i+1)))=i+1+iy false (src.drop (i+1))by omega]
     exact aa
    ·have agd:fd src (i+1)=fd src i:=by rw [jw,if_neg gi];rfl
     simp only [gi,anD,anF];by_cases hb:c.toNat=32∨c.toNat=9
     ·obtain⟨r,Z,aa,ai⟩:=O' (i+1) (by omega) (by omega)
      rw [agd]at Z;refine⟨r,?_,?_,ai⟩
      ·rcases hb with hb|hb
       ·simp only [hb,anC,anE];exact Z
       ·simp only [hb,show¬ (9=32)by omega,anD,anC,anE,anF];exact Z
      ·rw [hd];simp only [iy];rw [if_neg (by omega),if_pos (by omega),show i+(1+iy false (src.drop (i+1)))=i+1+iy false (src.drop (i+1))by omega]
       exact aa
     ·have cO:¬ c.toNat=32:=λe=>hb (Or.inl e)
      have fc:¬ c.toNat=9:=λe=>hb (Or.inr e)
      simp only [cO,fc,anD,anF];by_cases td:c.toNat=35
      ·simp only [td,anC,anE];have e:gr (src.drop i)=1+gr (src.drop (i+1)):=by rw [hd];simp only [gr,gi,anS]
       obtain⟨r,Z,aa,ai⟩:=O' (i+gr (src.drop i)) (by omega) (by simp only [List.length_drop]at gn;omega)
       rw [Wc src i _ agc]at Z;refine⟨r,Z,?_,ai⟩
       rw [hd];simp only [iy,td,anR]
       rw [O6,List.drop_drop,show i+(1+(gr (src.drop (i+1))+iy false (src.drop (i+1+gr (src.drop (i+1))))))=i+gr (src.drop i)+iy false (src.drop (i+gr (src.drop i))) by
        rw [e,show i+(1+gr (src.drop (i+1)))=i+1+gr (src.drop (i+1))by omega];omega]
       exact aa
      ·simp only [td,anD,anF,vK (Nat.le_of_lt h),aX]
       have age:iy false (src.drop i)=0:=by
        rw [hd];simp only [iy];rw [if_neg td,if_neg (by omega)]
       rw [age,show i+0=i from rfl]
       cases m2 with
       |zero=>omega
       |succ m2=>
        simp only [Cw,Om];have cW:src.drop i≠[]:=by rw [hd];simp
        obtain⟨t,z,hY,ih⟩:=af6 (n:=n) src i h (by omega) qt (by omega)
        have aN:yd n (src.drop i)=some ((ft (src.drop i)).1,(((ft (src.drop i)).2.1:Nat):Int),(ft (src.drop i)).2.2):=by
         rw [hd];exact Wb c (src.drop (i+1)) (by omega) (by omega)
        rw [aN,hY,af' src i (by omega) hi hn]
        simp only [h,anL,anC,anE,ak];rw [bD (by omega)]
        by_cases he:(ft (src.drop i)).2.2=0
        ·have cG:=V_ _ cW he;have O_:=af_ _ cW he;have amS:(src.drop i).length=src.length-i:=List.length_drop;obtain⟨rfl,rfl⟩:=ih he;have fV:=rm (src.drop i) ((fd src i+1:Nat):Int) cW he;generalize ft (src.drop i)=T at he cG O_ fV
         obtain⟨t,kk,e⟩:=T;simp only at he cG O_ fV
         subst he;have D1:=If out;simp only [anC,anG,anF,clone (show t.Text.length≤281474976710656 by omega),ak,anI,anJ,Wf (show out.length+(0+1)≤1000000000000 by omega),aX]
         rw [show anV ((i:Int)+((kk:Nat):Int))=((i+kk:Nat):Int)by rw [wr]<;>omega,Wg src (i+kk) (by omega) hn (by omega),ak]
         obtain⟨r,Z,aa,ai⟩:=Wh (src.length-(i+kk)) (by omega) (i+kk) m m2 (out++[⟨t.Kind,t.Text,t.N,((fd src i+1:Nat):Int)⟩]) rfl (by omega) (by omega) (by omega) (by rw [O8];simp only [k1];omega) (λbC en=>by
          rcases List.mem_append.1 en with cv|cv
          ·exact O9 bC cv
          ·obtain rfl:=List.mem_singleton.1 cv;exact fV)
         rw [Wc src i _ O_]at Z;exact⟨r,Z,aa,ai⟩
        ·simp only [he,anD,anH,anE];exact⟨_,rfl,rfl,λbN=>absurd bN he⟩
   ·rw [gV src i h];simp only [iy,Nat.add_zero];cases m2 with
    |zero=>omega
    |succ m2=>
     simp only [Cw,Om,Uv,h,anL,anD,anF];exact⟨_,rfl,rfl,λ_=>⟨by simp only;omega,O9⟩⟩
def agf(G:Token→Prop)(rm:∀(s:anT) (jp:Int),s≠[]→(ft s).2.2=0→G ⟨(ft s).1.Kind,(ft s).1.Text,(ft s).1.N,jp⟩){n:Nat}(src:anT)(hn:src.length≤16384→src.length<n)(qt:100<n):
 ∃r,vi n src=some r∧Uw n src=some r∧(r.2.2=0→k1 r.1≤61*src.length∧src.length≤16384∧∀t,t∈r.1→G t):=by
 unfold vi Uw;simp only [fq];by_cases h:16384<src.length
 ·simp only [h,anC,anE];exact⟨_,rfl,rfl,λe=>absurd e (by decide)⟩
 ·simp only [h,anD,anF];have hn:=hn (by omega)
  have:=Wg (n:=n) src 0 (by omega) hn (by omega)
  rw [show HI n src 0=_ from this,ak]
  obtain⟨r,Z,aa,ai⟩:=agb G rm n src (by omega) hn qt (src.length-0) 0 n n [] rfl (by omega) (by omega) (by omega) (by simp [k1]) (λt aC=>by cases aC)
  exact⟨r,Z,aa,λe=>⟨(ai e).1,by omega,(ai e).2⟩⟩
def agh(s:anT)(jp:Int)(hs:s≠[])(h:(ft s).2.2=0):(ft s).1.Kind=5→(ft s).1.Text∈marks:=by
 cases s with
 |nil=>exact absurd rfl hs
 |cons c t=>
  unfold ft at h ⊢;simp only at h ⊢
  split
  ·intro hk;exfalso
   revert hk
   generalize (c::t).take (gQ (c::t))=w
   cases w with
   |nil=>intro hk;simp [ku]at hk
   |cons d w=>
    unfold ku;simp only
    (repeat' split)<;>(intro hk;simp at hk)
  ·split
   ·cases ga t []<;>(intro hk;exfalso;simp [vN]at hk)
   ·split
    ·rename_i hm;intro hk;exfalso;simp at hk
    ·rename_i hm;intro _;simp only
     unfold k0 at hm ⊢;cases al:marks.find? (j_ (c::t)) with
     |none=>rw [al]at hm;exact absurd rfl hm
     |some w=>exact List.mem_of_find?_eq_some al
open Go Go.Ab Go.Proofs
def gW(l:List Token)(i:Nat)(w:anT):Bool:=
 decide (i<l.length)&&((decide ((l.getD i default).Kind=2)||decide ((l.getD i default).Kind=5))&&decide ((l.getD i default).Text=w))
def Pa{l:List Token}{i:Nat}{w:anT}(h:gW l i w=true):i<l.length:=by
 unfold gW at h;simp only [Bool.and_eq_true,decide_eq_true_eq]at h;exact h.1
def vO(n:Nat)(l:List Token)(i:Nat)(w:anT):sT n w ⟨l,(i:Int)⟩=some (gW l i w):=by
 unfold sT gW;simp only [anK,Int.ofNat_le,eS,fr];by_cases h:i<l.length
 ·simp only [show¬ l.length≤i by omega,anD,anF,b4 h,aX,h,anC,Bool.true_and]
 ·simp only [show l.length≤i by omega,anC,anE,h,anD,Bool.false_and]
def Wi(l:List Token)(i:Nat):Int:=
 if i<l.length then(l.getD i default).kU else if l.length=0 then 1 else(l.getD (l.length-1) default).kU
def se(l:List Token)(i:Nat)(c:Int):V:=.iface 332 (.agg [.int .i64 (Wi l i),.int .i64 c])
def y0(l:List Token)(i:Nat)(c:Int):Int:=if i<l.length then c else 6
def Ig(n:Nat)(l:List Token)(i:Nat)(c:Int)(ab:l.length≤4611686018427387904):rG n c ⟨l,(i:Int)⟩=some (.a8 (se l i (y0 l i c)) ()):=by
 unfold rG M6 M5 se Wi y0;simp only [anK,anL];by_cases h:i<l.length
 ·simp only [h,b4 h,anC,anE,aX,anR]
 ·simp only [h,anD,anF,anS];by_cases h0:l.length=0
  ·simp only [h0,anR];rfl
  ·have:anV (((l.length:Nat):Int)-1)=((l.length-1:Nat):Int):=by rw [wr]<;>omega
   rw [this];simp only [fU,h0,anD,anF,b4 (show l.length-1<l.length by omega),aX,anK,anS]
def CV(n:Nat)(l:List Token)(i:Nat)(w:anT)(hi:i≤4611686018427387904):jU n w ⟨l,(i:Int)⟩=some (gW l i w,(((bif gW l i w then i+1 else i):Nat):Int)):=by
 unfold jU;rw [vO,ak,bD hi];cases gW l i w<;>rfl
def y1(n:Nat)(l:List Token)(i:Nat)(w:anT)(hi:i≤4611686018427387904)(ab:l.length≤4611686018427387904):
 jV n w ⟨l,(i:Int)⟩=some (bif gW l i w then .ret () ((i+1:Nat):Int)else .a8 (se l i (y0 l i 5)) (i:Int)):=by
 unfold jV;rw [CV n l i w hi,ak];cases gW l i w
 ·simp only [anH,anE,anF];rw [Ig n l i 5 ab,ak];rfl
 ·rfl
def qu:List (anT×Int×Int):=[([111,114],1,17),([97,110,100],2,16),([61,61],4,10),([33,61],4,11),([60],4,12),([60,61],4,13),([62],4,14),([62,61],4,15),([43,43],5,19),([43],6,4),([45],6,5),([42],7,6),([47],7,7),([37],7,8)]
def Ih:Option (anT×Int×Int)→Int×Int
 |none=>(0,0)
 |some r=>r.2
def rK(l:List Token)(i:Nat):Int×Int:=Ih (qu.find? λr=>gW l i r.1)
def Pb{l:List Token}{i:Nat}(h:i<l.length)(hk:(l.getD i default).Kind=2∨(l.getD i default).Kind=5)(w:anT):gW l i w=decide ((l.getD i default).Text=w):=by
 unfold gW;have:(decide ((l.getD i default).Kind=2)||decide ((l.getD i default).Kind=5))=true:=by rcases hk with hk|hk<;>rw [decide_eq_true hk]<;>simp
 rw [this,decide_eq_true h];rfl
def Ii{l:List Token}{i:Nat}(h:¬ (i<l.length∧((l.getD i default).Kind=2∨(l.getD i default).Kind=5)))(w:anT):gW l i w=false:=by
 unfold gW;by_cases Z:i<l.length
 ·by_cases aa:(l.getD i default).Kind=2
  ·exact absurd ⟨Z,Or.inl aa⟩ h
  ·by_cases ai:(l.getD i default).Kind=5
   ·exact absurd ⟨Z,Or.inr ai⟩ h
   ·rw [decide_eq_false aa,decide_eq_false ai];simp
 ·rw [decide_eq_false Z];rfl
def Pc(n:Nat)(l:List Token)(i:Nat):Gw n ⟨l,(i:Int)⟩=some (rK l i):=by
 unfold Gw rK
 (simp only [anK])
 simp only [Int.ofNat_le,fr];by_cases h:i<l.length
 ·simp only [show¬ l.length≤i by omega,anD,anF,b4 h,aX]
  by_cases hk:(l.getD i default).Kind=2∨(l.getD i default).Kind=5
  ·have hH:((!decide ((l.getD i default).Kind=2)) && !decide ((l.getD i default).Kind=5))=false:=by
    rcases hk with hk|hk<;>rw [decide_eq_true hk]<;>simp
   rw [hH];simp only [anF,Pb h hk];generalize (l.getD i default).Text=w
   by_cases hw:w∈qu.map (·.1)
   ·simp only [qu,List.map_cons,List.map_nil,List.mem_cons,List.not_mem_nil,or_false]at hw;rcases hw with rfl|rfl|rfl|rfl|rfl|rfl|rfl|rfl|rfl|rfl|rfl|rfl|rfl|rfl<;>rfl
   ·simp only [qu,List.map_cons,List.map_nil,List.mem_cons,List.not_mem_nil,or_false,not_or]at hw;simp only [hw,anD,anF,qu,List.find?_cons,List.find?_nil];rfl
  ·have hH:((!decide ((l.getD i default).Kind=2)) && !decide ((l.getD i default).Kind=5))=true:=by
    simp only [not_or]at hk;rw [decide_eq_false hk.1,decide_eq_false hk.2];rfl
   rw [hH];simp only [anE,Ii (λx=>hk x.2),qu,List.find?_cons,List.find?_nil]
   rfl
 ·simp only [show l.length≤i by omega,anC,anE,Ii (λx=>h x.1),qu,List.find?_cons,List.find?_nil]
  rfl
open Go Go.Ab Go.Proofs
def pu:List (anT×Int):=[([116,101,120,116],20),([108,101,110],21),([103,101,116,105,110,116],22),([103,101,116,115,116,114],23),([104,97,115],24),([110,111,119],25),([114,97,110,100,111,109],26),([110,111,100,101],27)]
def call2:Option (anT×Int)→Int
 |none=>0
 |some r=>r.2
def Ij(l:List Token)(i:Nat):Int:=call2 (pu.find? λr=>gW l i r.1)
def kv(l:List Token):Prop:=∀t,t∈l→t.Kind=5→t.Text∈marks
def Pd(n:Nat)(l:List Token)(i:Nat)(hg:kv l):Gy n ⟨l,(i:Int)⟩=some (Ij l i):=by
 unfold Gy Ij
 (simp only [anK])
 simp only [Int.ofNat_le,eS];by_cases h:i<l.length
 ·simp only [show¬ l.length≤i by omega,anD,Bool.false_or,b4 h,aX]
  by_cases hk:(l.getD i default).Kind=2
  ·simp only [hk,anC,anG,anF,Pb h (Or.inl hk)];generalize (l.getD i default).Text=w
   by_cases hw:w∈pu.map (·.1)
   ·simp only [pu,List.map_cons,List.map_nil,List.mem_cons,List.not_mem_nil,or_false]at hw;rcases hw with rfl|rfl|rfl|rfl|rfl|rfl|rfl|rfl<;>rfl
   ·simp only [pu,List.map_cons,List.map_nil,List.mem_cons,List.not_mem_nil,or_false,not_or]at hw;simp only [hw,anD,anF,pu,List.find?_cons,List.find?_nil];rfl
  ·simp only [hk,anD,anH,anE];by_cases aJ:(l.getD i default).Kind=5
   ·have hm:(l.getD i default).Text∈marks:=hg _ (by simp [List.getD,h]) aJ
    simp only [Pb h (Or.inr aJ)];generalize (l.getD i default).Text=w at hm
    have:∀w,w∈marks→pu.find? (λr=>decide (w=r.1))=none:=by decide
    rw [this w hm];rfl
   ·have:∀w,gW l i w=false:=Ii (λx=>by rcases x.2 with e|e;exact hk e;exact aJ e)
    simp only [this,pu,List.find?_cons,List.find?_nil];rfl
 ·simp only [show l.length≤i by omega,anC,Bool.true_or,aX,anE,Ii (λx=>h x.1),pu,List.find?_cons,List.find?_nil]
  rfl
def Pe(n:Nat)(l:List Token)(i d:Nat)(ab:l.length≤4611686018427387904)(hd:d≤24):yh n (d:Int) ⟨l,(i:Int)⟩=some (if d=24 then .a8 (se l i (y0 l i 2)) ()else .ret ((d+1:Nat):Int) ()):=by
 unfold yh Gx;simp only [ta];by_cases h:d=24
 ·simp only [show 24≤d by omega,anC,anE,Ig n l i 2 ab,ak,h,anR];rfl
 ·simp only [show¬ 24≤d by omega,anD,anF,h,anS]
  rw [bD (by omega)]
open Go Go.Ab Go.Proofs
def CW(n:Nat):hB (n+1)=sU n (hB n) (nK n) (mj n) (nL n):=rfl
def agi(n:Nat):nK (n+1)=Gz n (hB n) (nK n) (mj n) (nL n):=rfl
def agj(n:Nat):mj (n+1)=GB n (hB n) (nK n) (mj n) (nL n):=rfl
def agk(n:Nat):nL (n+1)=GC n (hB n) (nK n) (mj n) (nL n):=rfl
section
variable {l:List Token}
theorem Wj{i:Nat}(h:i≤1000000000):anV (((i+1:Nat):Int)-1)=(i:Int):=by rw [wr]<;>omega
end
open Go Go.Ab Go.Proofs
def jq(e:Expr):(⟨e.Op,e.N,e.S,e.aw⟩:Expr)=e:=by cases e;rfl
section
variable {l:List Token}
end
open Go Go.Ab Go.Proofs
open Go Go.Ab Go.Proofs
def agl(n:Nat)(l:List Token)(i:Nat)(kd:Int)(ab:l.length≤1000000000)(hi:i≤l.length):
 pn n kd ⟨l,(i:Int)⟩=some (if i<l.length∧(l.getD i default).Kind=kd then .ret (l.getD i default) ((i+1:Nat):Int)else .a8 (se l i (y0 l i 5)) (i:Int)):=by
 unfold pn GD
 (rw [bD (by omega),Wj (by omega)];simp only [anK])
 simp only [Int.ofNat_le,eS];by_cases h:i<l.length
 ·simp only [show¬ l.length≤i by omega,anD,Bool.false_or,b4 h,aX,h,true_and]
  by_cases hk:(l.getD i default).Kind=kd
  ·rw [if_pos hk];simp only [hk,anC,anG,anF]
  ·rw [if_neg hk];simp only [hk,anD,anH,anE,Ig n l i 5 (by omega),ak,ax.on]
 ·rw [if_neg (λx=>h x.1)]
  simp only [show l.length≤i by omega,anC,Bool.true_or,aX,anE,Ig n l i 5 (by omega),ak,ax.on]
section
variable {α:Type} {wt:α→Nat} {l:List Token}
end
mutual
def fst:Stmt→Nat
 |⟨_,Name,_,A,B,Body,bw⟩=>80+Name.length+dP A+dP B+eg Body+eg bw
def eg:List Stmt→Nat
 |[]=>0
 |x::l=>fst x+1+eg l
end
def nP(s:Stmt):(⟨s.Op,s.Name,s.Max,s.A,s.B,s.Body,s.bw⟩:Stmt)=s:=by cases s;rfl
def fst_eq(s:Stmt):fst s=80+s.Name.length+dP s.A+dP s.B+eg s.Body+eg s.bw:=by cases s;rfl
def Wk:∀l m:List Stmt,eg (l++m)=eg l+eg m
 |[],m=>by simp [eg]
 |x::l,m=>by rw [List.cons_append,eg,eg,Wk l m];omega
def vP:∀l:List Stmt,80*l.length≤eg l
 |[]=>Nat.le_refl _
 |x::l=>by have:=vP l;have:=fst_eq x;simp only [eg,anI];omega
def agm(n:Nat)(s:Stmt)(l:List Token)(i:Nat)(hi:i≤4611686018427387904)(ab:l.length≤4611686018427387904):
 ql n s ⟨l,(i:Int)⟩=some (bif gW l i [59]then .ret s ((i+1:Nat):Int)else .a8 (se l i (y0 l i 5)) (i:Int)):=by
 unfold ql;rw [y1 n l i _ hi ab];cases gW l i [59]
 ·rfl
 ·simp only [ak,anE,ax.on,jq,nP]
open Go Go.Ab Go.Proofs
def agn(n:Nat):qn (n+1)=GG n (qn n) (vt n) (yk n):=rfl
def rL(n:Nat):vt (n+1)=ol n (qn n) (vt n) (yk n):=rfl
def ago(n:Nat):yk (n+1)=GO n (qn n) (vt n) (yk n):=rfl
section
variable {l:List Token}
theorem agp{k:Nat}(h:k≤100000000000):room k 192=true:=by simp [room];omega
end
open Go Go.Ab Go.Proofs
section
variable {l:List Token}
end
open Go Go.Ab Go.Proofs
section
variable {l:List Token}
end
open Go Go.Ab Go.Proofs
section
variable {l:List Token}
end
open Go Go.Ab Go.Proofs
section
variable {l:List Token}
theorem Wl{k:Nat}(h:k≤100000000000):room k 24=true:=by simp [room];omega
end
open Go Go.Ab Go.Proofs
def jr:List Param→Nat
 |[]=>0
 |p::l=>60+p.Name.length+jr l
def Ik:∀l:List Param,60*l.length≤jr l
 |[]=>Nat.le_refl _
 |t::l=>by have:=Ik l;simp only [jr,anI];omega
section
variable {l:List Token}
def agq(p:bd):Nat:=p.Name.length+jr p.Params+eg p.Body
end
open Go Go.Ab Go.Proofs
mutual
def jG:Expr→Int→Int
 |⟨Op,N,S,aw⟩,d=>if ou ⟨Op,N,S,aw⟩ d=0 then rM aw (anV (d+1))else ou ⟨Op,N,S,aw⟩ d
def rM:List Expr→Int→Int
 |[],d=>0
 |x::l,d=>if jG x d=0 then rM l d else jG x d
end
def Wm(e:Expr)(d:Int):jG e d=if ou e d=0 then rM e.aw (anV (d+1))else ou e d:=by cases e;rfl
def agr:∀(n:Nat) (e:Expr) (d:Int),dP e≤n→dP e≤140737488351232→xA n e d=some (jG e d)∧Hm n e d=some (jG e d):=by
 intro n;induction n with
 |zero=>intro e d h;rw [tc]at h;omega
 |succ n aG=>
  intro e d h ab;have Ia:=tc e;have vL:=H' e.aw;simp only [xA,Hm,L2,Ue];rw [afC e d (by omega) (by omega),afD e d (by omega) (by omega) (by omega),Wm]
  simp only [ak];by_cases h0:ou e d=0
  ·rw [if_pos h0];simp only [h0,anC,anG,anF]
   have hU:∀m i,e.aw.length<i+m→i≤e.aw.length→Bb n (xA n) d e m (i:Int)=some (rM (e.aw.drop i) (anV (d+1)))∧Hl n (Hm n) d e m (i:Int)=some (rM (e.aw.drop i) (anV (d+1))):=by
    intro m;induction m with
    |zero=>intro i Z aa;omega
    |succ m nO=>
     intro i Z aa;simp only [Bb,L1,L0,Hl,Ud,Uc];by_cases hi:i<e.aw.length
     ·have hg:=H_ e.aw i hi;obtain⟨hY,ih⟩:=aG (e.aw.getD i default) (anV (d+1)) (by omega) (by omega)
      obtain⟨ags,qt⟩:=nO (i+1) (by omega) (by omega)
      (rw [fJ e.aw i default hi,bD (by omega)];simp only [anK];rw [hY,ih,ags,qt])
      simp only [hi,b4 hi,anL,anC,anE,aX,ak,rM];by_cases ah:jG (e.aw.getD i default) (anV (d+1))=0
      ·simp only [ah,anC,anG,anF,anR,and_self]
      ·simp only [ah,anD,anH,anE,anS,and_self]
     ·rw [gV e.aw i hi];simp only [hi,anL,anD,anF,rM,and_self]
   exact hU n 0 (by omega) (by omega)
  ·rw [if_neg h0];simp only [h0,anD,anH,anE,and_self]
def Wn{n:Nat}(e:Expr)(h:dP e≤n)(ab:dP e≤140737488351232):Bc n e=some (jG e 1):=by
 simp only [Bc,(agr n e 1 h ab).1,ak]
def qv(e:Expr):Bool:=decide (e.Op=0)&&decide (e.N=0)&&decide (e.S=[])&&decide (e.aw.length=0)
def Wo(n:Nat)(e:Expr):xB n e=some (qv e):=by
 simp only [xB,qv,fr,fU]
def ox(op:Int):kp×Bool:=
 if op=1∨op=2 then(⟨true,true,false,false,false,false⟩,true)
 else if op=3 then(⟨false,true,true,false,false,false⟩,true)
 else if op=4∨op=7 then(⟨false,true,false,false,false,false⟩,true)
 else if op=5 then(⟨false,true,false,false,true,true⟩,true)
 else if op=6 then(⟨true,true,true,true,true,false⟩,true)
 else if op=8 then(⟨false,false,false,true,false,false⟩,true)
 else(⟨false,false,false,false,false,false⟩,false)
def agt(n:Nat)(op:Int):Fq n op=some (ox op):=by
 by_cases h:1≤op∧op≤8
 ·obtain rfl|rfl|rfl|rfl|rfl|rfl|rfl|rfl:op=1∨op=2∨op=3∨op=4∨op=5∨op=6∨op=7∨op=8:=by omega
  all_goals rfl
 ·have e:ox op=(⟨false,false,false,false,false,false⟩,false):=by
   unfold ox;rw [if_neg (by omega),if_neg (by omega),if_neg (by omega),if_neg (by omega),if_neg (by omega),if_neg (by omega)]
  rw [e];simp only [Fq,Fp,Fo,L3,show¬ op=1 by omega,show¬ op=2 by omega,show¬ op=3 by omega,show¬ op=4 by omega,show¬ op=5 by omega,show¬ op=6 by omega,show¬ op=7 by omega,show¬ op=8 by omega,anD,anF]
def CX(s:Stmt)(u:kp):Bool:=
 (!u.name && !decide (s.Name=[]))||(!u.a && !qv s.A)||(!u.b && !qv s.B)||(!u.max && !decide (s.Max=0))||(!u.body&&decide (0<s.Body.length))||(!u.other&&decide (0<s.bw.length))
def vQ(s:Stmt):Bool:=if s.Op=6 then decide (1≤s.Max)&&decide (s.Max≤16)else if s.Op=8 then decide (0≤s.Max)&&decide (s.Max≤999)else true
def nQ(s:Stmt)(d:Int):Int:=
 if(ox s.Op).2=false∨CX s (ox s.Op).1=true∨vQ s=false then 1
 else if(ox s.Op).1.name=true∧gx s.Name=false then 7
 else if(ox s.Op).1.a=true∧jG s.A 1≠0 then jG s.A 1
 else if(ox s.Op).1.b=true∧jG s.B 1≠0 then jG s.B 1
 else if 12<d then 2 else 0
open Go Go.Ab Go.Proofs
def agu(n:Nat)(s:Stmt)(u:kp):Fn n s u=some (!CX s u&&vQ s):=by
 have hm:(bif decide (s.Op=6)then some (bif decide (1≤s.Max)then decide (s.Max≤16)else false)else bif decide (s.Op=8)then some (bif decide (0≤s.Max)then decide (s.Max≤999)else false)else some true)=some (vQ s):=by
  unfold vQ;by_cases bE:s.Op=6
  ·simp only [bE,anC,anE,anR,fr]
  ·by_cases dh:s.Op=8
   ·simp only [dh,show¬ (8:Int)=6 by omega,anC,anD,anE,anF,anR,anS,fr]
   ·simp only [bE,dh,anD,anF,anS]
 unfold Fn CX;rw [hm];simp only [Wo,jq,fr,eS,fq];generalize decide (s.Name=[])=x
 generalize qv s.A=y
 generalize qv s.B=z
 generalize decide (s.Max=0)=w
 generalize decide (0<s.Body.length)=p
 generalize decide (0<s.bw.length)=q
 generalize vQ s=r
 obtain⟨te,a,b,lD,mb,Pf⟩:=u;cases te<;>cases x<;>cases a<;>cases y<;>cases b<;>cases z<;>simp only [anG,anH,Bool.and_true,Bool.and_false,Bool.true_and,Bool.false_and,anQ,Bool.or_false,Bool.true_or,Bool.false_or,anE,anF,ak]<;>(cases ((!lD && !w)||(!mb&&p)||(!Pf&&q))<;>simp_all)
def agv{n:Nat}(s:Stmt)(d:Int)(aI:dP s.A≤n)(cR:dP s.B≤n)(y2:dP s.A≤140737488351232)(qw:dP s.B≤140737488351232)(aQ:s.Name.length≤140737488351232):Ft n s d=some (nQ s d):=by
 unfold Ft Fs Fr nQ;simp only [agt,ak,jq,nP,agu,yY n s.Name aQ,Wn s.A aI y2,Wn s.B cR qw];generalize (ox s.Op)=U
 obtain⟨u,agw⟩:=U;obtain⟨te,a,b,lD,mb,Pf⟩:=u;simp only
 generalize CX s ⟨te,a,b,lD,mb,Pf⟩=m
 generalize vQ s=r
 cases agw
 ·simp
 ·cases m
  ·cases r
   ·simp
   ·generalize gx s.Name=x
    simp only [anG,anH,anE,anF,ak,Bool.true_and,Bool.and_true,Bool.true_eq_false,Bool.false_eq_true,or_self,anS];cases te
    ·simp only [anF,ak,Bool.false_eq_true,false_and,anS];cases a
     ·simp only [anF,Bool.false_eq_true,false_and,anS];cases b
      ·by_cases kn:12<d<;>simp [kn]
      ·by_cases hb:jG s.B 1=0<;>by_cases kn:12<d<;>simp [hb,kn]
     ·by_cases ha:jG s.A 1=0
      ·cases b
       ·by_cases kn:12<d<;>simp [ha,kn]
       ·by_cases hb:jG s.B 1=0<;>by_cases kn:12<d<;>simp [ha,hb,kn]
      ·simp [ha]
    ·cases x
     ·simp
     ·simp only [anE,ak,anG,anF,Bool.true_eq_false,and_false,anS];cases a
      ·simp only [anF,Bool.false_eq_true,false_and,anS];cases b
       ·by_cases kn:12<d<;>simp [kn]
       ·by_cases hb:jG s.B 1=0<;>by_cases kn:12<d<;>simp [hb,kn]
      ·by_cases ha:jG s.A 1=0
       ·cases b
        ·by_cases kn:12<d<;>simp [ha,kn]
        ·by_cases hb:jG s.B 1=0<;>by_cases kn:12<d<;>simp [ha,hb,kn]
       ·simp [ha]
  ·simp
open Go Go.Ab Go.Proofs
def y3(before:List Param):List Param→Int
 |[]=>0
 |x::l=>if gx x.Name=false then 7 else if x.gp<1∨3<x.gp then 10 else if(before.any λy=>decide (y.Name=x.Name))=true then 8 else y3 (before++[x]) l
def agx(n:Nat)(s:List Param)(b:Param)(hs:s.length≤4611686018427387904):∀m i,s.length<i+m→i≤s.length→
 ∃r,xx n s b m (i:Int)=some r∧(decide (0≤r)=(s.drop i).any λy=>decide (y.Name=b.Name)):=by
 intro m;induction m with
 |zero=>intro i h aa;omega
 |succ m aG=>
  intro i hm hi;simp only [xx,LT,LS,LR];by_cases h:i<s.length
  ·obtain⟨r,Z,aa⟩:=aG (i+1) (by omega) (by omega)
   (rw [fJ s i default h,bD (by omega)];simp only [anK];rw [Z])
   generalize s.getD i default=c
   simp only [h,b4 h,anL,anC,anE,aX,ak,List.any_cons];by_cases hc:c.Name=b.Name
   ·simp only [hc,anC,anE,Bool.true_or];exact⟨_,rfl,decide_eq_true (by omega)⟩
   ·simp only [hc,anD,anF,Bool.false_or];exact⟨r,rfl,aa⟩
  ·rw [gV s i h];simp only [h,anL,anD,anF];exact⟨-1,rfl,rfl⟩
def agy{n:Nat}(s:List Param)(b:Param)(hs:s.length≤4611686018427387904)(hn:s.length<n):Fj n s b=some (s.any λy=>decide (y.Name=b.Name)):=by
 unfold Fj LU;obtain⟨r,Z,aa⟩:=agx n s b hs n 0 (by omega) (by omega)
 rw [show xx n s b n 0=_ from Z,ak,aa,List.drop_zero]
def Il{α:Type}[Inhabited α](l:List α)(i:Nat)(h:i<l.length):l.take (i+1)=l.take i++[l.getD i default]:=by
 rw [List.take_add,fJ l i default h,List.take_succ_cons,List.take_zero]
def Wp:∀(l:List Param) (i:Nat),i<l.length→(l.getD i default).Name.length<jr l
 |[],i,h=>by simp at h
 |x::l,0,h=>by simp only [jr,List.getD_cons_zero];omega
 |x::l,i+1,h=>by have:=Wp l i (by simpa using h);simp only [jr,List.getD_cons_succ];omega
def agz(n:Nat)(l:List Param)(aN:jr l<n)(zZ:jr l≤140737488351232):∀m i,l.length<i+m→i≤l.length→xy n l m (i:Int)=some (y3 (l.take i) (l.drop i)):=by
 have hlen:=Ik l;intro m;induction m with
 |zero=>intro i h aa;omega
 |succ m aG=>
  intro i hm hi;simp only [xy,LW,LV];by_cases h:i<l.length
  ·have hg:=Wp l i h
   (rw [fJ l i default h,bD (by omega)];simp only [anK];rw [aG (i+1) (by omega) (by omega),Il l i h])
   generalize l.getD i default=c at hg
   rw [yY n c.Name (by omega),agy (l.take i) c (by simp;omega) (by simp;omega)]
   simp only [h,b4 h,anL,anC,anE,aX,ak,vK hi,eS,y3];cases gx c.Name
   ·simp
   ·by_cases aC:c.gp<1∨3<c.gp
    ·have:(decide (c.gp<1)||decide (3<c.gp))=true:=by rcases aC with aC|aC<;>rw [decide_eq_true aC]<;>simp
     simp [this,aC]
    ·have:(decide (c.gp<1)||decide (3<c.gp))=false:=by rw [decide_eq_false (λe=>aC (Or.inl e)),decide_eq_false (λe=>aC (Or.inr e))];rfl
     rw [this];simp only [anG,anF,Bool.true_eq_false,anS,aC];cases ((l.take i).any λy=>decide (y.Name=c.Name))<;>rfl
  ·rw [gV l i h];simp only [h,anL,anD,anF];rfl
def tf(l:List Param):Int:=if 6<l.length then 2 else y3 [] l
def agA{n:Nat}(l:List Param)(aN:jr l<n)(zZ:jr l≤140737488351232):Fk n l=some (tf l):=by
 have hlen:=Ik l;unfold Fk tf;have:=agz n l aN zZ n 0 (by omega) (by omega)
 rw [show xy n l n 0=_ from this]
 simp only [fq];by_cases h:6<l.length
 ·simp only [h,anC,anE,anR]
 ·simp only [h,anD,anF,anS,List.take_zero,List.drop_zero]
open Go Go.Ab Go.Proofs
mutual
def vR:Expr→Nat→Nat
 |⟨_,_,_,aw⟩,k=>if k=0 then 0 else tg aw (k-1)
def tg:List Expr→Nat→Nat
 |[],k=>k
 |x::l,k=>tg l (vR x k)
end
def agB(e:Expr)(k:Nat):vR e k=if k=0 then 0 else tg e.aw (k-1):=by cases e;rfl
mutual
def Pg:∀(e:Expr) (k:Nat),vR e k≤k
 |⟨_,_,_,aw⟩,k=>by
  have:=Wq aw (k-1)
  simp only [vR];split<;>omega
def Wq:∀(l:List Expr) (k:Nat),tg l k≤k
 |[],k=>Nat.le_refl _
 |x::l,k=>by
  have Z:=Pg x k;have aa:=Wq l (vR x k);simp only [tg];omega
end
def ka(e:Expr)(k:Nat):Nat:=if k=0∨qv e=true then k else vR e k
def Im(e:Expr)(k:Nat):ka e k≤k:=by unfold ka;split;exact Nat.le_refl _;exact Pg e k
mutual
def pw:Stmt→Int→Nat×Int→Nat×Int
 |⟨Op,Name,Max,A,B,Body,bw⟩,d,r=>
  iz bw (anV (d+1)) (iz Body (anV (d+1)) (ka B (ka A (r.1-1)),if r.2=0 then nQ ⟨Op,Name,Max,A,B,Body,bw⟩ d else r.2))
def iz:List Stmt→Int→Nat×Int→Nat×Int
 |[],d,r=>r
 |s::l,d,r=>if r.1=0 then r else iz l d (pw s d r)
end
def agC(s:Stmt)(d:Int)(r:Nat×Int):pw s d r=iz s.bw (anV (d+1)) (iz s.Body (anV (d+1)) (ka s.B (ka s.A (r.1-1)),if r.2=0 then nQ s d else r.2)):=by cases s;rfl
mutual
def agD:∀(s:Stmt) (d:Int) (r:Nat×Int),(pw s d r).1≤r.1
 |⟨Op,Name,Max,A,B,Body,bw⟩,d,r=>by
  have Z:=Im A (r.1-1);have aa:=Im B (ka A (r.1-1));have ai:=th Body (anV (d+1)) (ka B (ka A (r.1-1)),if r.2=0 then nQ ⟨Op,Name,Max,A,B,Body,bw⟩ d else r.2)
  have ay:=th bw (anV (d+1)) (iz Body (anV (d+1)) (ka B (ka A (r.1-1)),if r.2=0 then nQ ⟨Op,Name,Max,A,B,Body,bw⟩ d else r.2))
  simp only [pw]at *;omega
def th:∀(l:List Stmt) (d:Int) (r:Nat×Int),(iz l d r).1≤r.1
 |[],d,r=>Nat.le_refl _
 |s::l,d,r=>by
  have Z:=agD s d r;have aa:=th l d (pw s d r);simp only [iz];split
  ·exact Nat.le_refl _
  ·omega
end
def agE:∀(n:Nat) (e:Expr) (k:Nat) (b:Int),dP e≤n→dP e≤140737488351232→k≤1000→xC n e (k:Int) b=some ((vR e k:Nat):Int):=by
 intro n;induction n with
 |zero=>intro e k b h;rw [tc]at h;omega
 |succ n aG=>
  intro e k b h ab hk;have Ia:=tc e;have vL:=H' e.aw;simp only [xC,L6,fU];rw [agB];by_cases h0:k=0
  ·rw [if_pos h0];simp only [h0,anC,anE]
  ·rw [if_neg h0];simp only [h0,anD,anF]
   have hU:∀m i k,e.aw.length<i+m→i≤e.aw.length→k≤1000→Bd n (xC n) e b m ((k:Nat):Int) (i:Int)=some ((tg (e.aw.drop i) k:Nat):Int):=by
    intro m;induction m with
    |zero=>intro i k Z aa;omega
    |succ m nO=>
     intro i k Z aa hk;simp only [Bd,L5];by_cases hi:i<e.aw.length
     ·have hg:=H_ e.aw i hi;have hle:=Pg (e.aw.getD i default) k
      (rw [fJ e.aw i default hi,bD (by omega)];simp only [anK];rw [aG _ k b (by omega) (by omega) hk])
      simp only [hi,b4 hi,anL,anC,anE,aX,ak,tg];exact nO (i+1) _ (by omega) (by omega) (by omega)
     ·rw [gV e.aw i hi];simp only [hi,anL,anD,anF,tg]
   rw [show anV ((k:Int)-1)=((k-1:Nat):Int)by rw [wr]<;>omega]
   exact hU n 0 (k-1) (by omega) (by omega) (by omega)
def Wr{n:Nat}(e:Expr)(k:Nat)(b:Int)(h:dP e≤n)(ab:dP e≤140737488351232)(hk:k≤1000):Be n e (k:Int) b=some ((ka e k:Nat):Int):=by
 unfold Be ka L4;simp only [Wo,fU,agE n e k b h ab hk,ak];by_cases h0:k=0
 ·simp [h0]
 ·cases qv e<;>simp [h0]
open Go Go.Ab Go.Proofs
def Ph:∀(l:List Stmt) (i:Nat),i<l.length→fst (l.getD i default)<eg l
 |[],i,h=>by simp at h
 |x::l,0,h=>by simp only [eg,List.getD_cons_zero];omega
 |x::l,i+1,h=>by have:=Ph l i (by simpa using h);simp only [eg,List.getD_cons_succ];omega
def Ws{α β:Type}(x:α×β):(x.1,x.2)=x:=rfl
def agF:∀(n:Nat) (l:List Stmt) (d:Int) (k:Nat) (e:Int),eg l+2≤n→eg l≤140737488351232→k≤1000→
 uV n l d (k:Int) e=some ((((iz l d (k,e)).1:Nat):Int),(iz l d (k,e)).2):=by
 intro n;induction n with
 |zero=>intro l d k e h;omega
 |succ n aG=>
  intro l d k e h ab hk;have vL:=vP l;simp only [uV,L8]
  have hU:∀m i k e,l.length<i+m→i≤l.length→k≤1000→Bf n (uV n) d l m ((k:Nat):Int) e (i:Int)=some ((((iz (l.drop i) d (k,e)).1:Nat):Int),(iz (l.drop i) d (k,e)).2):=by
   intro m;induction m with
   |zero=>intro i k e Z aa;omega
   |succ m nO=>
    intro i k e Z aa hk;simp only [Bf,L7,jq,nP];by_cases hi:i<l.length
    ·have hg:=Ph l i hi
     (rw [fJ l i default hi];simp only [anK])
     generalize l.getD i default=s at hg
     have ns:=fst_eq s;rw [bD (by omega)]
     simp only [hi,b4 hi,anL,anC,anE,aX,fU,iz];by_cases h0:k=0
     ·simp only [h0,anC,anE,anR]
     ·simp only [h0,anD,anF,anS]
      have an:Fu n s d e=some (if e=0 then nQ s d else e):=by
       unfold Fu;simp only [jq,nP,agv s d (show dP s.A≤n by omega) (show dP s.B≤n by omega) (by omega) (by omega) (by omega),ak]
       by_cases he:e=0
       ·simp only [he,anC,anE,anR]
       ·simp only [he,anD,anF,anS]
      rw [an,ak,show anV ((k:Int)-1)=((k-1:Nat):Int)by rw [wr]<;>omega]
      have e0:=Im s.A (k-1);have eu:=Im s.B (ka s.A (k-1));rw [Wr s.A (k-1) _ (by omega) (by omega) (by omega),ak,Wr s.B _ _ (by omega) (by omega) (by omega),ak]
      have Ks:=th s.Body (anV (d+1)) (ka s.B (ka s.A (k-1)),if e=0 then nQ s d else e)
      rw [aG s.Body _ _ _ (by omega) (by omega) (by omega),ak]
      simp only [Ws]at Ks ⊢;have amT:=th s.bw (anV (d+1)) (iz s.Body (anV (d+1)) (ka s.B (ka s.A (k-1)),if e=0 then nQ s d else e))
      rw [aG s.bw _ _ _ (by omega) (by omega) (by omega),ak]
      simp only [Ws];rw [nO (i+1) _ _ (by omega) (by omega) (by omega),agC]
    ·rw [gV l i hi];simp only [hi,anL,anD,anF,iz]
  exact hU n 0 k e (by omega) (by omega) hk
open Go Go.Ab Go.Proofs
open Go Go.Ab Go.Proofs
open Go Go.Ab Go.Proofs
def oy(p:bd):Int:=
 if gx p.Name=false then 7 else if tf p.Params≠0 then tf p.Params
 else if(iz p.Body 1 (401,0)).2=0∧(iz p.Body 1 (401,0)).1=0 then 2 else(iz p.Body 1 (401,0)).2
def Pi{n:Nat}(p:bd)(aQ:p.Name.length≤140737488351232)(kQ:jr p.Params<n)(Wt:jr p.Params≤140737488351232)(cR:eg p.Body+2≤n)(qw:eg p.Body≤140737488351232):Bg n p=some (oy p):=by
 unfold Bg L9 oy;rw [yY n p.Name aQ,agA p.Params kQ Wt];simp only [ak];cases gx p.Name
 ·rfl
 ·simp only [anG,anF,Bool.true_eq_false,anS];by_cases h:tf p.Params=0
  ·simp only [h,anC,anG,anF,ne_eq,not_true,anS];have:=agF n p.Body 1 401 0 cR qw (by omega)
   rw [show uV n p.Body 1 401 0=_ from this]
   have hle:=th p.Body 1 (401,0);simp only at hle
   generalize iz p.Body 1 (401,0)=r at hle
   obtain⟨k,e⟩:=r;simp only [ak];simp only at hle
   rw [show anV (401-((k:Nat):Int))=401-((k:Nat):Int)by rw [wr]<;>omega]
   by_cases he:e=0
   ·by_cases hk:k=0
    ·subst hk;subst he;rfl
    ·simp only [he,hk,anC,anE,and_false,anS,show¬ (400:Int)<401-((k:Nat):Int)by omega,anD,anF]
   ·simp only [he,anD,anF,false_and,anS]
  ·simp only [h,anD,anH,anE,ne_eq,not_false_iff,anR]
def agG:∀(n:Nat) (l:List Stmt),eg l+2≤n→eg l≤140737488351232→yt n l l=some true:=by
 intro n;induction n with
 |zero=>intro l h;omega
 |succ n aG=>
  intro l h ab;have vL:=vP l;simp only [yt,NJ,anC,anG,anF]
  have hU:∀m i,l.length<i+m→i≤l.length→Ch n (yt n) l l m (i:Int)=some true:=by
   intro m;induction m with
   |zero=>intro i Z aa;omega
   |succ m nO=>
    intro i Z aa;simp only [Ch,NI,NH,jq,nP];by_cases hi:i<l.length
    ·have hg:=Ph l i hi
     (rw [bD (by omega),nO (i+1) (by omega) (by omega)];simp only [anK])
     generalize l.getD i default=s at hg
     have ns:=fst_eq s;simp only [hi,b4 hi,anL,anC,anG,anE,anF,aX,VY n s.A (by omega) (by omega),VY n s.B (by omega) (by omega),aG s.Body (by omega) (by omega),aG s.bw (by omega) (by omega),ak]
     rfl
    ·simp only [hi,anL,anD,anF]
  exact hU n 0 (by omega) (by omega)
def agH{n:Nat}(p:bd)(kQ:p.Params.length<n)(Wt:p.Params.length≤140737488351232)(cR:eg p.Body+2≤n)(qw:eg p.Body≤140737488351232):GX n p p=some true:=by
 unfold GX;simp only [anC,anG,anF]
 have hU:∀m i,p.Params.length<i+m→i≤p.Params.length→Ci n p p m (i:Int)=some true:=by
  intro m;induction m with
  |zero=>intro i Z aa;omega
  |succ m nO=>
   intro i Z aa;simp only [Ci,NL,NK];by_cases hi:i<p.Params.length
   ·rw [bD (by omega),nO (i+1) (by omega) (by omega)]
    simp only [hi,b4 hi,anL,anC,Bool.and_self,anG,anE,anF,aX]
   ·simp only [hi,anL,anD,anF,agG n p.Body cR qw,ak]
 exact hU n 0 (by omega) (by omega)
open Go Go.Ab Go.Proofs
def Wu(p:bd):(⟨p.Name,p.Params,p.Body⟩:bd)=p:=rfl
open Go Go.Ab Go.Proofs
def cN(t:Token):Token:=⟨t.Kind,t.Text,t.N,0⟩
inductive ej:anT→List Token→Prop
 |nil:ej [] []
 |sp {c:UInt8} {s:anT} {T:List Token}:(c.toNat=10∨c.toNat=32)→ej s T→ej (c::s) T
 |tok {c:UInt8} {w s:anT} {t:Token} {T:List Token}:c.toNat≠10→c.toNat≠32→c.toNat≠9→c.toNat≠35→ft (c::(w++s))=(t,w.length+1,0)→t.kU=0→ej s T→ej (c::(w++s)) (t::T)
def drop_cons{src s:anT}{c:UInt8}{i:Nat}(h:src.drop i=c::s):i<src.length∧src.getD i 0=c∧src.drop (i+1)=s:=by
 have hi:i<src.length:=by
  by_cases hi:i<src.length
  ·exact hi
  ·rw [gV src i hi]at h;cases h
 rw [fJ src i 0 hi]at h;injection h with Z aa;exact⟨hi,Z,aa⟩
def agI(n:Nat)(src:anT)(hs:src.length≤1000000000)(hn:src.length<n)(qt:100<n){s:anT}{T:List Token}(h:ej s T):
 ∀(i m:Nat) (out:List Token) (jp:Nat),src.drop i=s→i≤src.length→src.length<i+m→k1 out≤61*i→1≤jp→jp≤i+1→
 ∃l,rF n src m out (jp:Int) (i:Int)=some (out++l,0,0)∧l.map cN=T∧∀t,t∈l→1≤t.kU:=by
 induction h with
 |nil=>
  intro i m out jp hd hi hm hw Z aa;obtain⟨m,rfl⟩:∃j,m=j+1:=⟨m-1,by omega⟩
  have h:¬ i<src.length:=λh=>by rw [fJ src i 0 h]at hd;cases hd
  simp only [rF,yg,ye,h,anL,anD,anF];exact⟨[],by simp,rfl,λt aC=>by cases aC⟩
 | @sp c s T hc az aG=>
  intro i m out jp hd hi hm hw Z aa;obtain⟨m,rfl⟩:∃j,m=j+1:=⟨m-1,by omega⟩
  obtain⟨h,hg,iG⟩:=drop_cons hd;simp only [rF,yg,ye,yf,BW]
  (rw [bD (by omega),bD (by omega)];simp only [anK];rw [hg])
  simp only [h,b4 h,anL,anC,anE,aX,fU];rcases hc with hc|hc
  ·simp only [hc,anC,anE];exact aG (i+1) m out (jp+1) iG (by omega) (by omega) (by omega) (by omega) (by omega)
  ·simp only [hc,show¬ (32=10)by omega,anD,anC,anE,anF]
   exact aG (i+1) m out jp iG (by omega) (by omega) (by omega) (by omega) (by omega)
 | @tok c w s t T lV agJ c9 agK aC ab az aG=>
  intro i m out jp hd hi hm hw Z aa;obtain⟨m,rfl⟩:∃j,m=j+1:=⟨m-1,by omega⟩
  obtain⟨h,hg,iG⟩:=drop_cons hd;have hlen:(src.drop i).length=src.length-i:=List.length_drop;have KC:w.length+s.length+1=src.length-i:=by rw [←hlen,hd];simp
  have cG:=V_ (c::(w++s)) (by simp) (by rw [aC])
  rw [aC]at cG;simp only at cG
  have aN:yd n (src.drop i)=some (t,((w.length+1:Nat):Int),0):=by
   rw [hd,Wb c (w++s) (by simp;omega) (by simp;omega),aC]
  simp only [rF,yg,ye,yf,BW]
  (simp only [anK];rw [hg,aN])
  have D1:=If out;simp only [h,b4 h,anL,anC,anE,aX,fU,lV,agJ,c9,agK,anD,anF,vK hi,ak,anG,clone (show t.Text.length≤281474976710656 by omega),anI,anJ,Wf (show out.length+(0+1)≤1000000000000 by omega)]
  rw [show anV ((i:Int)+((w.length+1:Nat):Int))=((i+(w.length+1):Nat):Int)by rw [wr]<;>omega]
  obtain⟨l,e1,e2,e3⟩:=aG (i+(w.length+1)) m (out++[⟨t.Kind,t.Text,t.N,(jp:Int)⟩]) jp (by
   rw [←List.drop_drop,hd,List.drop_succ_cons,List.drop_left]) (by omega) (by omega) (by rw [O8];simp only [k1];omega) Z (by omega)
  refine⟨⟨t.Kind,t.Text,t.N,(jp:Int)⟩::l,by rw [e1];simp,?_,?_⟩
  ·rw [List.map_cons,e2]
   congr 1
   unfold cN;rw [←ab]
  ·intro bC en;rcases List.mem_cons.1 en with rfl|en
   ·simp only;omega
   ·exact e3 bC en
def agL{n:Nat}{s:anT}{T:List Token}(h:ej s T)(hs:s.length≤16384)(hn:s.length<n)(qt:100<n):
 ∃l,vi n s=some (l,0,0)∧l.map cN=T∧(∀t,t∈l→1≤t.kU)∧kv l∧k1 l≤61*s.length:=by
 obtain⟨l,e1,e2,e3⟩:=agI n s (by omega) hn qt h 0 n [] 1 rfl (by omega) (by omega) (by simp [k1]) (by omega) (by omega)
 have e:vi n s=some (l,0,0):=by
  unfold vi;simp only [fq,show¬ 16384<s.length by omega,anD,anF]
  exact e1
 obtain⟨r,t1,t2,t3⟩:=agf (λt=>t.Kind=5→t.Text∈marks) (λs jp Z aa=>agh s jp Z aa) (n:=n) s (by omega) (by omega)
 rw [e]at t1;obtain rfl:=Option.some.inj t1;obtain⟨g1,g2,g3⟩:=t3 rfl;exact⟨l,e,e2,e3,g3,g1⟩
open Go Go.Ab Go.Proofs
def agM(u:Nat):Lib.decDigits u=if u<10 then[UInt8.ofNat (48+u)]else Lib.decDigits (u / 10)++[UInt8.ofNat (48+u % 10)]:=by
 rw [Lib.decDigits];split<;>rfl
def Wv{k:Nat}(h:k<10):(UInt8.ofNat (48+k)).toNat=48+k:=by
 rw [UInt8.toNat_ofNat'];omega
def agN(u:Nat)(l m:anT):val u (l++m)=val (val u l) m:=by unfold val;rw [List.foldl_append]
def Ww:∀(u:Nat),(Lib.decDigits u).all hV=true∧val 0 (Lib.decDigits u)=u∧(∃c l,Lib.decDigits u=c::l∧(c=48→u=0))∧(u<10→(Lib.decDigits u).length=1):=by
 intro u;induction u using Nat.strongRecOn with
 |_ u aG=>
  rw [agM];by_cases h:u<10
  ·rw [if_pos h];have e:=Wv h;refine⟨?_,?_,⟨_,_,rfl,λh0=>?_⟩,λ_=>rfl⟩
   ·simp only [List.all_cons,List.all_nil,Bool.and_true,ps,e];omega
   ·rw [CS,CR,e];omega
   ·rw [h0]at e;have:(48:UInt8).toNat=48:=rfl
    omega
  ·rw [if_neg h];obtain⟨Z,aa,⟨c,l,ai,ay⟩,aJ⟩:=aG (u / 10) (by omega)
   have e:=Wv (show u % 10<10 by omega)
   refine⟨?_,?_,⟨c,l++[UInt8.ofNat (48+u % 10)],by rw [ai];rfl,λh0=>?_⟩,λh0=>absurd h0 h⟩
   ·rw [List.all_append,Z];simp only [List.all_cons,List.all_nil,Bool.and_true,Bool.true_and,ps,e];omega
   ·rw [agN,aa,CS,CR,e];omega
   ·have:=ay h0;omega
def agO(u:Nat)(h:u≤9223372036854775807):m5 (Lib.decDigits u)=((u:Int),0):=by
 obtain⟨Z,aa,⟨c,l,ai,ay⟩,aJ⟩:=Ww u;unfold m5;rw [if_pos,aa,if_pos h];refine⟨Z,?_⟩
 by_cases hc:c=48
 ·exact Or.inr (aJ (by have:=ay hc;omega))
 ·left;rw [ai];simpa using hc
def Wx{c:UInt8}(h:hV c=true):fo c=true:=by
 rw [ps]at h;unfold fo;exact decide_eq_true (by omega)
def Wy{c:UInt8}(h:kZ c=true):fo c=true:=by
 unfold kZ at h;simp only [Bool.and_eq_true,decide_eq_true_eq]at h;unfold fo;exact decide_eq_true (by omega)
def agP{α:Type}{p q:α→Bool}(h:∀a,p a=true→q a=true){l:List α}(ab:l.all p=true):l.all q=true:=by
 rw [List.all_eq_true]at ab ⊢;exact λa ha=>h a (ab a ha)
def m7(r:anT):Prop:=∀c,r.head? = some c→fo c=false
def agQ{w r:anT}(hw:w.all fo=true)(ah:m7 r):gQ (w++r)=w.length:=by
 induction w with
 |nil=>
  cases r with
  |nil=>rfl
  |cons c r=>rw [List.nil_append,tb,ah c rfl];rfl
 |cons c w aG=>
  simp only [List.all_cons,Bool.and_eq_true]at hw;rw [List.cons_append,tb,hw.1,aG hw.2];rfl
def Pj{c:UInt8}{w r:anT}(hw:(c::w).all fo=true)(ah:m7 r)(h0:(ku (c::w)).2=0):ft (c::(w++r))=((ku (c::w)).1,w.length+1,0):=by
 have hc:fo c=true:=by simp only [List.all_cons,Bool.and_eq_true]at hw;exact hw.1
 have ab:=agQ hw ah;have aC:(c::(w++r)).take (w.length+1)=c::w:=by simp
 rw [List.cons_append]at ab;unfold ft;simp only [hc,anR,ab,anI,aC,h0]
def agR{w:anT}(h:w∈ot):∃c l,w=c::l∧kZ c=true∧w.all fo=true:=by
 simp only [ot,List.mem_cons,List.not_mem_nil,or_false]at h;rcases h with rfl|rfl|rfl|rfl|rfl|rfl|rfl|rfl|rfl|rfl|rfl|rfl|rfl|rfl|rfl|rfl|rfl|rfl|rfl|rfl|rfl|rfl|rfl|rfl|rfl<;>exact⟨_,_,rfl,rfl,rfl⟩
def agS{w:anT}:gQ w=w.length→w.all fo=true:=by
 induction w with
 |nil=>intro;rfl
 |cons c w aG=>
  intro h;rw [tb]at h;cases hc:fo c
  ·rw [hc]at h;simp at h
  ·rw [hc]at h;simp only [anE,anI]at h;rw [List.all_cons,hc,aG (by omega)];rfl
def Pk{w:anT}(h:gx w=true):∃c l,w=c::l∧kZ c=true∧w.all fo=true∧rJ w=false∧w.length≤16:=by
 cases w with
 |nil=>cases h
 |cons c l=>
  simp only [gx,Bool.and_eq_true,decide_eq_true_eq,Bool.not_eq_true']at h;obtain⟨⟨⟨Z,aa⟩,ai⟩,ay⟩:=h;exact⟨c,l,rfl,aa,agS (by simpa using ai),ay,by simp;omega⟩
def hL:anT→anT
 |[]=>[]
 |c::l=>if c.toNat=34∨c.toNat=92 then 92::c::hL l else c::hL l
def quo(s:anT):anT:=34::(hL s++[34])
def Wz:∀(s acc r:anT),s.all okB=true→acc.length+s.length≤64→ga (hL s++34::r) acc = .inr (acc++s,(hL s).length+1)
 |[],acc,r,h,ab=>by
  simp only [hL,List.nil_append,List.append_nil,anJ];rw [yZ 34 r acc (by decide),if_pos (by decide)]
 |c::s,acc,r,h,ab=>by
  simp only [List.all_cons,Bool.and_eq_true]at h;simp only [anI]at ab;have aG:=Wz s (acc++[c]) r h.2 (by simp;omega)
  simp only [hL];by_cases hc:c.toNat=34∨c.toNat=92
  ·rw [if_pos hc,List.cons_append,List.cons_append];simp only [ga];rw [if_neg (by decide),if_pos (by decide),if_neg (by omega),if_neg (by omega),aG]
   simp only [up,anI,List.append_assoc,List.singleton_append]
  ·rw [if_neg hc,List.cons_append,yZ c _ acc (λe=>hc (Or.inr e)),if_neg (λe=>hc (Or.inl e)),if_neg (by rw [h.1];decide),if_neg (by omega),aG]
   simp only [up,anI,List.append_assoc,List.singleton_append]
def spell(t:Token):anT:=if t.Kind=3 then Lib.decDigits t.N.toNat else if t.Kind=4 then quo t.Text else t.Text
def lW(t:Token):Prop:=
 t.kU=0∧((t.Kind=1∧gx t.Text=true∧t.N=0)∨(t.Kind=2∧t.Text∈ot∧t.N=0)∨(t.Kind=3∧t.Text=[]∧0≤t.N∧t.N≤9223372036854775807)∨
  (t.Kind=4∧j' t.Text=true∧t.N=0)∨(t.Kind=5∧t.Text∈marks∧t.N=0))
def y4(t:Token)(r:anT):Prop:=(t.Kind<4→m7 r)∧(t.Kind=5→∀c d,t.Text=[c]→r.head? = some d→[c,d]∉two)
def agT{w:anT}(h:w∈marks):(w∈two∧∃a b,w=[a,b])∨∃c,w=[c]∧c∈ow:=by
 unfold marks at h;rcases List.mem_append.1 h with h|h
 ·left
  refine⟨h,?_⟩
  simp only [two,List.mem_cons,List.not_mem_nil,or_false]at h;rcases h with rfl|rfl|rfl|rfl|rfl<;>exact⟨_,_,rfl⟩
 ·right
  obtain⟨c,hc,rfl⟩:=List.mem_map.1 h;exact⟨c,rfl,hc⟩
def agU{c:UInt8}(h:c∈ow):fo c=false∧c.toNat≠34∧c.toNat≠10∧c.toNat≠32∧c.toNat≠9∧c.toNat≠35:=by
 simp only [ow,List.mem_cons,List.not_mem_nil,or_false]at h;rcases h with rfl|rfl|rfl|rfl|rfl|rfl|rfl|rfl|rfl|rfl|rfl|rfl|rfl|rfl|rfl<;>exact⟨rfl,by decide,by decide,by decide,by decide,by decide⟩
def agV{a b:UInt8}(h:[a,b]∈two):fo a=false∧a.toNat≠34∧a.toNat≠10∧a.toNat≠32∧a.toNat≠9∧a.toNat≠35:=by
 simp only [two,List.mem_cons,List.not_mem_nil,or_false,List.cons.injEq,and_true]at h;rcases h with⟨rfl,rfl⟩|⟨rfl,rfl⟩|⟨rfl,rfl⟩|⟨rfl,rfl⟩|⟨rfl,rfl⟩<;>exact⟨rfl,by decide,by decide,by decide,by decide,by decide⟩
def Pl{c:UInt8}(h:fo c=true):c.toNat≠10∧c.toNat≠32∧c.toNat≠9∧c.toNat≠35:=by
 unfold fo at h;have:=of_decide_eq_true h
 omega
def agW(t:Token)(r:anT)(an:lW t)(hb:y4 t r):∃c w,spell t=c::w∧ft (c::(w++r))=(t,w.length+1,0)∧c.toNat≠10∧c.toNat≠32∧c.toNat≠9∧c.toNat≠35:=by
 obtain⟨k,x,N,jp⟩:=t;obtain⟨rfl,an⟩:=an;simp only at an
 rcases an with⟨rfl,Z,rfl⟩|⟨rfl,Z,rfl⟩|⟨rfl,rfl,Z,aa⟩|⟨rfl,Z,rfl⟩|⟨rfl,Z,rfl⟩
 ·obtain⟨c,l,rfl,aa,ai,ay,aJ⟩:=Pk Z;have hw:ku (c::l)=(⟨1,c::l,0,0⟩,0):=by simp only [ku,aa,ay,Z,anR];rfl
  have:=Pl (Wy aa)
  exact⟨c,l,rfl,by rw [Pj ai (hb.1 (by simp only;omega)) (by rw [hw]),hw],this.1,this.2.1,this.2.2.1,this.2.2.2⟩
 ·obtain⟨c,l,rfl,aa,ai⟩:=agR Z;have hw:ku (c::l)=(⟨2,c::l,0,0⟩,0):=by simp only [ku,aa,rJ,Z,anC,anR]
  have:=Pl (Wy aa)
  exact⟨c,l,rfl,by rw [Pj ai (hb.1 (by simp only;omega)) (by rw [hw]),hw],this.1,this.2.1,this.2.2.1,this.2.2.2⟩
 ·obtain⟨u,rfl⟩:∃u:Nat,N=u:=⟨N.toNat,by omega⟩
  obtain⟨g1,g2,⟨c,l,g3,g4⟩,g5⟩:=Ww u;have Ll:spell ⟨3,[],(u:Int),0⟩=c::l:=by simp only [spell,anR,anK];exact g3
  have o8:(c::l).all hV=true:=by rw [←g3];exact g1
  have WA:hV c=true:=by simp only [List.all_cons,Bool.and_eq_true]at o8;exact o8.1
  have agX:kZ c=false:=by
   rw [ps]at WA;unfold kZ;rw [decide_eq_false (show¬ 97≤c.toNat by omega)];rfl
  have hn:m5 (c::l)=((u:Int),0):=by rw [←g3];exact agO u (by omega)
  have hw:ku (c::l)=(⟨3,[],(u:Int),0⟩,0):=by simp only [ku,agX,hn,anR];rfl
  have:=Pl (Wx WA)
  exact⟨c,l,Ll,by rw [Pj (agP (λ_=>Wx) o8) (hb.1 (by simp only;omega)) (by rw [hw]),hw],this.1,this.2.1,this.2.2.1,this.2.2.2⟩
 ·unfold j' at Z;simp only [Bool.and_eq_true,decide_eq_true_eq]at Z;refine⟨34,hL x++[34],rfl,?_,by decide,by decide,by decide,by decide⟩
  have:=Wz x [] r Z.1 (by simp;omega)
  unfold ft;rw [List.append_assoc,List.singleton_append];simp only [show fo 34=false from rfl,Bool.false_eq_true,anS,show(34:UInt8).toNat=34 from rfl,anR,this,vN,List.nil_append,anM,anI,anJ]
 ·rcases agT Z with⟨aa,a,b,rfl⟩|⟨c,rfl,aa⟩
  ·obtain⟨g0,g1,g2,g3,g4,g5⟩:=agV aa;refine⟨a,[b],rfl,?_,g2,g3,g4,g5⟩
   have hm:k0 (a::b::r)=[a,b]:=by rw [O1,if_pos aa]
   unfold ft;simp only [List.singleton_append,g0,Bool.false_eq_true,anS,g1,hm,reduceCtorEq,anI,anJ]
  ·obtain⟨g0,g1,g2,g3,g4,g5⟩:=agU aa;refine⟨c,[],rfl,?_,g2,g3,g4,g5⟩
   have hm:k0 (c::r)=[c]:=by
    cases r with
    |nil=>rw [V7,if_pos aa]
    |cons d r=>rw [O1,if_neg (hb.2 rfl c d rfl rfl),if_pos aa]
   unfold ft;simp only [List.nil_append,g0,Bool.false_eq_true,anS,g1,hm,reduceCtorEq,anI,anJ]
def kw{t:Token}{r:anT}{T:List Token}(an:lW t)(hb:y4 t r)(h:ej r T):ej (spell t++r) (t::T):=by
 obtain⟨c,w,e,Z,aa,ai,ay,aJ⟩:=agW t r an hb;rw [e];exact ej.tok aa ai ay aJ Z an.1 h
def lX{r:anT}{T:List Token}(h:ej r T):ej (32::r) T:=ej.sp (Or.inr rfl) h
def Pm{r:anT}{T:List Token}(h:ej r T):ej (10::r) T:=ej.sp (Or.inl rfl) h
open Go Go.Ab Go.Proofs
abbrev kx:=List (Option Token)
def flat:kx→anT
 |[]=>[]
 |some t::l=>spell t++flat l
 |none::l=>32::flat l
def cS:kx→List Token
 |[]=>[]
 |some t::l=>t::cS l
 |none::l=>cS l
def oz:∀l m:kx,flat (l++m)=flat l++flat m
 |[],m=>rfl
 |some t::l,m=>by simp only [List.cons_append,flat,oz l m,List.append_assoc]
 |none::l,m=>by simp only [List.cons_append,flat,oz l m]
def rN:∀l m:kx,cS (l++m)=cS l++cS m
 |[],m=>rfl
 |some t::l,m=>by simp only [List.cons_append,cS,rN l m]
 |none::l,m=>by simp only [List.cons_append,cS,rN l m]
def dp(w:anT):Token:=⟨2,w,0,0⟩
def a_(w:anT):Token:=⟨5,w,0,0⟩
def ho(w:anT):Token:=⟨1,w,0,0⟩
def m8(n:Int):Token:=⟨3,[],n,0⟩
def In(w:anT):Token:=⟨4,w,0,0⟩
def ch(op:Int):Nat:=if op=17 then 1 else if op=16 then 2 else if op=18 then 3 else if 10≤op∧op≤15 then 4 else if op=19 then 5 else if op=4∨op=5 then 6 else if 6≤op∧op≤8 then 7 else if op=9 then 8 else 9
def oA(op:Int):Token:=
 if op=17 then dp [111,114]else if op=16 then dp [97,110,100]else if op=10 then a_ [61,61]else if op=11 then a_ [33,61]else if op=12 then a_ [60]else if op=13 then a_ [60,61]
 else if op=14 then a_ [62]else if op=15 then a_ [62,61]else if op=19 then a_ [43,43]else if op=4 then a_ [43]else if op=5 then a_ [45]else if op=6 then a_ [42]else if op=7 then a_ [47]else a_ [37]
def iN(op:Int):Token:=
 if op=20 then dp [116,101,120,116]else if op=21 then dp [108,101,110]else if op=22 then dp [103,101,116,105,110,116]else if op=23 then dp [103,101,116,115,116,114]else if op=24 then dp [104,97,115]
 else if op=25 then dp [110,111,119]else if op=26 then dp [114,97,110,100,111,109]else dp [110,111,100,101]
def fW(op:Int)(p:kx)(least:Nat):kx:=if ch op<least then some (a_ [40])::(p++[some (a_ [41])])else p
def k2(Op N:Int)(S:anT)(L:List (Int×kx)):kx:=
 if Op=1 then[some (m8 N)]else if Op=2 then[some (In S)]else if Op=3 then[some (ho S)]
 else match L with
  |[]=>[some (iN Op),some (a_ [40]),some (a_ [41])]
  |[a]=>if Op=18 then some (dp [110,111,116])::none::fW a.1 a.2 3 else if Op=9 then some (a_ [45])::fW a.1 a.2 8 else some (iN Op)::some (a_ [40])::(a.2++[some (a_ [41])])
  |a::b::_=>fW a.1 a.2 (if ch Op=4 then 5 else ch Op)++none::some (oA Op)::none::fW b.1 b.2 (ch Op+1)
mutual
def b5:Expr→kx
 |⟨Op,N,S,aw⟩=>k2 Op N S (js aw)
def js:List Expr→List (Int×kx)
 |[]=>[]
 |x::l=>(x.Op,b5 x)::js l
end
def p8(op:Int)(n:Nat):Prop:=(1≤op∧op≤27)∧(n:Int)=i7 op
mutual
def gt:Expr→Prop
 |⟨Op,N,S,aw⟩=>p8 Op aw.length∧(Op=1→0≤N∧N≤9223372036854775807)∧(Op≠1→N=0)∧(Op≠2∧Op≠3→S=[])∧(Op=2→j' S=true)∧(Op=3→gx S=true)∧CY aw
def CY:List Expr→Prop
 |[]=>True
 |x::l=>gt x∧CY l
end
mutual
def fV:Expr→Nat
 |⟨_,_,_,aw⟩=>1+px aw
def px:List Expr→Nat
 |[]=>0
 |x::l=>max (fV x) (px l)
end
def Pn(e:Expr):gt e↔p8 e.Op e.aw.length∧(e.Op=1→0≤e.N∧e.N≤9223372036854775807)∧(e.Op≠1→e.N=0)∧(e.Op≠2∧e.Op≠3→e.S=[])∧(e.Op=2→j' e.S=true)∧(e.Op=3→gx e.S=true)∧CY e.aw:=by cases e;rfl
def ti(e:Expr):fV e=1+px e.aw:=by cases e;rfl
def mq(p:kx):Prop:=∀r T,m7 r→ej r T→ej (flat p++r) (cS p++T)
def iA{c:UInt8}{r:anT}(h:fo c=false):m7 (c::r):=λd hd=>by cases hd;exact h
def CZ{t:Token}{r:anT}(aJ:t.Kind≠5)(h:m7 r):y4 t r:=⟨λ_=>h,λe=>absurd e aJ⟩
def y5{t:Token}{r:anT}:y4 t (32::r):=⟨λ_=>iA rfl,λ_ c d hc hd=>by
 cases hd;simp [two]⟩
def Po{t:Token}{r:anT}:y4 t (10::r):=⟨λ_=>iA rfl,λ_ c d hc hd=>by
 cases hd;simp [two]⟩
def C0{c:UInt8}{r:anT}(h:c≠61∧c≠33∧c≠60∧c≠62∧c≠43):y4 (a_ [c]) r:=⟨λe=>by simp [a_]at e,λ_ a d ha hd=>by
 simp only [a_,List.cons.injEq,and_true]at ha;subst ha;simp [two,h]⟩
def tj{w:anT}(h:w∈ot):lW (dp w):=⟨rfl,Or.inr (Or.inl ⟨rfl,h,rfl⟩)⟩
def oB{w:anT}(h:w∈marks):lW (a_ w):=⟨rfl,Or.inr (Or.inr (Or.inr (Or.inr ⟨rfl,h,rfl⟩)))⟩
def WB{w:anT}(h:gx w=true):lW (ho w):=⟨rfl,Or.inl ⟨rfl,h,rfl⟩⟩
def WC{n:Int}(h:0≤n)(aa:n≤9223372036854775807):lW (m8 n):=⟨rfl,Or.inr (Or.inr (Or.inl ⟨rfl,rfl,h,aa⟩))⟩
def agY{w:anT}(h:j' w=true):lW (In w):=⟨rfl,Or.inr (Or.inr (Or.inr (Or.inl ⟨rfl,h,rfl⟩)))⟩
def Pp{t:Token}(h:lW t)(aJ:t.Kind≠5):mq [some t]:=λr T hb az=>by
 simp only [flat,cS,List.append_nil];exact kw h (CZ aJ hb) az
def Io{r:anT}{T:List Token}(h:ej r T):ej (41::r) (a_ [41]::T):=kw (t:=a_ [41]) (oB (by decide)) (C0 (by decide)) h
def Pq{r:anT}{T:List Token}(h:ej r T):ej (40::r) (a_ [40]::T):=kw (t:=a_ [40]) (oB (by decide)) (C0 (by decide)) h
def agZ{p:kx}(h:mq p):mq (some (a_ [40])::(p++[some (a_ [41])])):=λr T hb az=>by
 have e:flat (some (a_ [40])::(p++[some (a_ [41])]))++r=40::(flat p++41::r):=by
  simp only [flat,oz,spell,a_];simp
 have e2:cS (some (a_ [40])::(p++[some (a_ [41])]))++T=a_ [40]::(cS p++a_ [41]::T):=by
  simp only [cS,rN];simp
 rw [e,e2];exact Pq (h _ _ (iA rfl) (Io az))
def Ip{op:Int}{p:kx}(h:mq p)(k:Nat):mq (fW op p k):=by
 unfold fW;split
 ·exact agZ h
 ·exact h
def Iq{c:Prop}[Decidable c]{a b:Token}(ha:lW a)(hb:lW b):lW (if c then a else b):=by
 by_cases h:c
 ·rw [if_pos h];exact ha
 ·rw [if_neg h];exact hb
def ag0{c:Prop}[Decidable c]{a b:Token}{k:Int}(ha:a.Kind=k)(hb:b.Kind=k):(if c then a else b).Kind=k:=by
 by_cases h:c
 ·rw [if_pos h];exact ha
 ·rw [if_neg h];exact hb
def ag1(op:Int):lW (oA op):=by
 unfold oA;refine Iq (tj (by decide)) (Iq (tj (by decide)) ?_)
 repeat refine Iq (oB (by decide)) ?_
 exact oB (by decide)
def y6(op:Int):lW (iN op)∧(iN op).Kind=2:=by
 unfold iN;constructor
 ·repeat refine Iq (tj (by decide)) ?_
  exact tj (by decide)
 ·repeat refine ag0 rfl ?_
  rfl
def ag2{p q:kx}{t:Token}(aC:lW t)(hp:mq p)(al:mq q):mq (p++none::some t::none::q):=λr T hb az=>by
 have e:flat (p++none::some t::none::q)++r=flat p++32::(spell t++32::(flat q++r)):=by
  simp only [flat,oz];simp
 have e2:cS (p++none::some t::none::q)++T=cS p++t::(cS q++T):=by
  simp only [cS,rN];simp
 rw [e,e2];exact hp _ _ (iA rfl) (lX (kw aC y5 (lX (al r T hb az))))
def ag3{p:kx}{t:Token}(aC:lW t)(hp:mq p):mq (some t::none::p):=λr T hb az=>by
 have e:flat (some t::none::p)++r=spell t++32::(flat p++r):=by simp only [flat];simp
 have e2:cS (some t::none::p)++T=t::(cS p++T):=by simp only [cS];simp
 rw [e,e2];exact kw aC y5 (lX (hp r T hb az))
def ag4{p:kx}(hp:mq p):mq (some (a_ [45])::p):=λr T hb az=>by
 have e:flat (some (a_ [45])::p)++r=spell (a_ [45])++(flat p++r):=by simp only [flat];simp
 have e2:cS (some (a_ [45])::p)++T=a_ [45]::(cS p++T):=by simp only [cS];simp
 rw [e,e2];exact kw (oB (by decide)) (C0 (by decide)) (hp r T hb az)
def WD{p:kx}{t:Token}(aC:lW t)(aJ:t.Kind=2)(hp:∀r T,ej r T→ej (flat p++41::r) (cS p++a_ [41]::T)):mq (some t::some (a_ [40])::(p++[some (a_ [41])])):=λr T hb az=>by
 have e:flat (some t::some (a_ [40])::(p++[some (a_ [41])]))++r=spell t++40::(flat p++41::r):=by simp only [flat,oz,spell,a_];simp
 have e2:cS (some t::some (a_ [40])::(p++[some (a_ [41])]))++T=t::a_ [40]::(cS p++a_ [41]::T):=by simp only [cS,rN];simp
 rw [e,e2];exact kw aC (CZ (by omega) (iA rfl)) (Pq (hp r T az))
def ag5{op:Int}(h:1≤op∧op≤27):i7 op=0∧(op≤3∨25≤op)∨i7 op=1∧(op=9∨op=18∨20≤op∧op≤24)∨i7 op=2∧(4≤op∧op≤8∨10≤op∧op≤17∨op=19):=by
 obtain rfl|rfl|rfl|rfl|rfl|rfl|rfl|rfl|rfl|rfl|rfl|rfl|rfl|rfl|rfl|rfl|rfl|rfl|rfl|rfl|rfl|rfl|rfl|rfl|rfl|rfl|rfl:op=1∨op=2∨op=3∨op=4∨op=5∨op=6∨op=7∨op=8∨op=9∨op=10∨op=11∨op=12∨op=13∨op=14∨op=15∨op=16∨op=17∨op=18∨op=19∨op=20∨op=21∨op=22∨op=23∨op=24∨op=25∨op=26∨op=27:=by omega
 all_goals first|exact Or.inl ⟨rfl,by omega⟩|exact Or.inr (Or.inl ⟨rfl,by omega⟩)|exact Or.inr (Or.inr ⟨rfl,by omega⟩)
mutual
def WE:∀e:Expr,gt e→mq (b5 e)
 |⟨Op,N,S,aw⟩,h=>by
  obtain⟨⟨Z,aa⟩,ai,ay,aJ,bE,cz,dh⟩:=h;have aG:=WF aw dh;unfold b5;unfold k2;by_cases e1:Op=1
  ·rw [if_pos e1];exact Pp (WC (ai e1).1 (ai e1).2) (by simp [m8])
  by_cases e2:Op=2
  ·rw [if_neg e1,if_pos e2];exact Pp (agY (bE e2)) (by simp [In])
  by_cases e3:Op=3
  ·rw [if_neg e1,if_neg e2,if_pos e3];exact Pp (WB (cz e3)) (by simp [ho])
  rw [if_neg e1,if_neg e2,if_neg e3]
  match aw,aG with
  |[],_=>exact WD (p:=[]) (y6 Op).1 (y6 Op).2 (λr T az=>Io az)
  |[a],aG=>
   have ha:=aG (a.Op,b5 a) (by simp [js])
   simp only [js];by_cases WG:Op=18
   ·rw [if_pos WG];exact ag3 (tj (by decide)) (Ip ha 3)
   ·rw [if_neg WG];by_cases WH:Op=9
    ·rw [if_pos WH];exact ag4 (Ip ha 8)
    ·rw [if_neg WH];exact WD (y6 Op).1 (y6 Op).2 (λr T az=>ha _ _ (iA rfl) (Io az))
  |a::b::_,aG=>
   have ha:=aG (a.Op,b5 a) (by simp [js])
   have hb:=aG (b.Op,b5 b) (by simp [js])
   simp only [js];exact ag2 (ag1 Op) (Ip ha _) (Ip hb _)
def WF:∀l:List Expr,CY l→∀x,x∈js l→mq x.2
 |[],h,x,hx=>by simp [js]at hx
 |e::l,h,x,hx=>by
  rcases List.mem_cons.1 hx with rfl|hx
  ·exact WE e h.1
  ·exact WF l h.2 x hx
end
open Go Go.Ab Go.Proofs
def cl(l:List Token)(i:Nat)(T R:List Token):Prop:=(l.map cN).drop i=T++R
def fC(R:List Token)(w:anT):Bool:=
 match R with
 |[]=>false
 |t::_=>(decide (t.Kind=2)||decide (t.Kind=5))&&decide (t.Text=w)
def ag6(l:List Token)(i:Nat)(w:anT):gW l i w=fC ((l.map cN).drop i) w:=by
 unfold gW;by_cases h:i<l.length
 ·rw [fJ (l.map cN) i default (by simpa using h)]
  have:(l.map cN).getD i default=cN (l.getD i default):=by simp [List.getD,h]
  rw [this];generalize l.getD i default=t
  simp only [fC,h,cN,anC,Bool.true_and]
  congr
 ·rw [gV (l.map cN) i (by simpa using h)]
  simp [fC,h]
def cl.is{l T R:List Token}{i:Nat}(h:cl l i T R)(w:anT):gW l i w=fC (T++R) w:=by rw [ag6,h]
def cl.WI{l T R:List Token}{i:Nat}(h:cl l i T R):rK l i=Ih (qu.find? λr=>fC (T++R) r.1):=by
 unfold rK
 congr 2
 funext r
 exact h.is r.1
def cl.call{l T R:List Token}{i:Nat}(h:cl l i T R):Ij l i=call2 (pu.find? λr=>fC (T++R) r.1):=by
 unfold Ij
 congr 2
 funext r
 exact h.is r.1
def cl.lt{l T R:List Token}{t:Token}{i:Nat}(h:cl l i (t::T) R):i<l.length:=by
 by_cases hi:i<l.length
 ·exact hi
 ·unfold cl at h;rw [gV (l.map cN) i (by simpa using hi)]at h
  cases h
def cl.hd{l T R:List Token}{t:Token}{i:Nat}(h:cl l i (t::T) R):cN (l.getD i default)=t:=by
 have hi:=h.lt;unfold cl at h;rw [fJ (l.map cN) i default (by simpa using hi),List.cons_append]at h
 injection h with Z aa;rw [←Z];simp [List.getD,hi]
def cl.jH{l T U R:List Token}{i:Nat}(h:cl l i (T++U) R):cl l (i+T.length) U R:=by
 unfold cl at *;rw [←List.drop_drop,h,List.append_assoc,List.drop_left]
def cl.fu{l T R:List Token}{t:Token}{i:Nat}(h:cl l i (t::T) R):cl l (i+1) T R:=cl.jH (T:=[t]) (U:=T) h
def cl.k3{l T U R:List Token}{i:Nat}(h:cl l i (T++U) R):cl l i T (U++R):=by
 unfold cl at *;rw [h,List.append_assoc]
def cl.le{l T R:List Token}{i:Nat}(h:cl l i T R)(az:T≠[]):i+T.length≤l.length:=by
 have:=congrArg List.length h
 simp only [List.length_drop,List.length_map,anM]at this;have:0<T.length:=List.length_pos_iff.2 az
 omega
def iB(R:List Token):Int:=(Ih (qu.find? λr=>fC R r.1)).1
def Pr(op:Int)(R:List Token)(h:4≤op∧op≤8∨10≤op∧op≤17∨op=19):Ih (qu.find? λr=>fC (oA op::R) r.1)=(((ch op:Nat):Int),op):=by
 have:op=4∨op=5∨op=6∨op=7∨op=8∨op=10∨op=11∨op=12∨op=13∨op=14∨op=15∨op=16∨op=17∨op=19:=by omega
 rcases this with rfl|rfl|rfl|rfl|rfl|rfl|rfl|rfl|rfl|rfl|rfl|rfl|rfl|rfl<;>rfl
def WJ(op:Int)(R:List Token)(h:20≤op∧op≤27):call2 (pu.find? λr=>fC (iN op::R) r.1)=op:=by
 have:op=20∨op=21∨op=22∨op=23∨op=24∨op=25∨op=26∨op=27:=by omega
 rcases this with rfl|rfl|rfl|rfl|rfl|rfl|rfl|rfl<;>rfl
def ag7(R:List Token):call2 (pu.find? λr=>fC (a_ [40]::R) r.1)=0:=rfl
section
variable {l:List Token}
def f'(l:List Token)(i d lv:Nat)(e:Expr)(k B:Nat):Prop:=∀n,B≤n→hB n (lv:Int) (d:Int) ⟨l,(i:Int)⟩=some (.ret e (k:Int))
def oC(l:List Token)(i d:Nat)(e:Expr)(k B:Nat):Prop:=∀n,B≤n→mj n (d:Int) ⟨l,(i:Int)⟩=some (.ret e (k:Int))
def y7(l:List Token)(i d:Nat)(e:Expr)(k B:Nat):Prop:=∀n,B≤n→nL n (d:Int) ⟨l,(i:Int)⟩=some (.ret e (k:Int))
theorem f'.mono{i d lv:Nat}{e:Expr}{k B WK:Nat}(h:f' l i d lv e k B)(cR:B≤WK):f' l i d lv e k WK:=λn hn=>h n (by omega)
theorem WL(e:Expr):(⟨e.Op,e.N,e.S,e.aw⟩:Expr)=e:=by cases e;rfl
theorem f'.down{i d lv:Nat}{e:Expr}{k B:Nat}(h:f' l i d (lv+1) e k B)(gh:1≤lv)(amU:lv≤7)(hs:(rK l k).1≠(lv:Int))(ai:lv=3→gW l i [110,111,116]=false):f' l i d lv e k (B+2):=by
 intro n hn;obtain⟨n,rfl⟩:∃j,n=j+1:=⟨n-1,by omega⟩
 have he:=h n (by omega)
 rw [CW];unfold sU;simp only [fU,vO,ak];by_cases e3:lv=3
 ·subst e3;rw [ai rfl];simp only [anC,anE,anF];rw [show hB n 4 (d:Int) ⟨l,(i:Int)⟩=_ from he]
  rfl
 ·simp only [e3,show¬ lv=8 by omega,anD,anF]
  rw [bD (by omega),he]
  obtain⟨m,hm⟩:∃j,n=j+1:=⟨n-1,by omega⟩
  simp only [ak,ax.on]
  conv=>lhs;arg 9;rw [hm]
  simp only [pk,BY,Pc,ak,hs,anD,anH,anE,WL]
theorem oC.down{i d:Nat}{e:Expr}{k B:Nat}(h:oC l i d e k B)(dh:gW l i [45]=false):f' l i d 8 e k (B+1):=by
 intro n hn;obtain⟨n,rfl⟩:∃j,n=j+1:=⟨n-1,by omega⟩
 rw [CW];unfold sU;simp only [fU,vO,ak,show¬ 8=3 by omega,anC,anD,anE,anF,dh]
 rw [h n (by omega)]
 rfl
theorem f'.Ir{i d lv:Nat}{e:Expr}{k B:Nat}:∀(x:Nat),f' l i d (lv+x) e k B→1≤lv→lv+x≤8→(rK l k).1<(lv:Int)→(lv≤3→3<lv+x→gW l i [110,111,116]=false)→f' l i d lv e k (B+2*x)
 | 0,h,Z,aa,hs,ai=>h.mono (by omega)
 |x+1,h,Z,aa,hs,ai=>by
  have cv:f' l i d (lv+x) e k (B+2):=f'.down (lv:=lv+x) h (by omega) (by omega) (by omega) (λe3=>ai (by omega) (by omega))
  exact(f'.Ir x cv Z (by omega) hs (λa b=>ai a (by omega))).mono (by omega)
theorem y7.of{i d:Nat}{e:Expr}{k B:Nat}(ab:l.length≤1000000000)(hi:gW l i [40]=true)(h:f' l (i+1) d 1 e k B)(hk:gW l k [41]=true):y7 l i d e (k+1) (B+1):=by
 intro n hn;obtain⟨n,rfl⟩:∃j,n=j+1:=⟨n-1,by omega⟩
 have Z:=Pa hi;have aa:=Pa hk;rw [agk];unfold GC;rw [y1 n l i _ (by omega) (by omega),hi]
 simp only [ak,anE,ax.on];rw [show hB n 1 (d:Int) ⟨l,((i+1:Nat):Int)⟩=_ from h n (by omega)]
 simp only [ak,ax.on];rw [y1 n l k _ (by omega) (by omega),hk]
 rfl
theorem y8{n i d:Nat}(ab:l.length≤1000000000)(h:i<l.length):mj (n+1) (d:Int) ⟨l,(i:Int)⟩ =
 if(l.getD i default).Kind=3 then some (.ret ⟨1,(l.getD i default).N,[],[]⟩ ((i+1:Nat):Int))else if(l.getD i default).Kind=4 then some (.ret ⟨2,0,(l.getD i default).Text,[]⟩ ((i+1:Nat):Int))
 else if(l.getD i default).Kind=1 then some (.ret ⟨3,0,(l.getD i default).Text,[]⟩ ((i+1:Nat):Int))else vn n (hB n) (nK n) (mj n) (nL n) (d:Int) ⟨l,(i:Int)⟩ (i:Int):=by
 rw [agj];unfold GB
 (rw [bD (by omega)];simp only [anK];rw [Wj (by omega)])
 simp only [anL,h,anC,anE,b4 h,aX];by_cases ai:(l.getD i default).Kind=3
 ·simp only [ai,anC,anE,anR]
 ·by_cases ay:(l.getD i default).Kind=4
  ·simp only [ay,show¬ (4:Int)=3 by omega,anC,anD,anE,anF,anR,anS]
  ·by_cases aJ:(l.getD i default).Kind=1
   ·simp only [aJ,show¬ (1:Int)=3 by omega,show¬ (1:Int)=4 by omega,anC,anD,anE,anF,anR,anS]
   ·simp only [ai,ay,aJ,anD,anF,anS]
theorem oC.paren{i d:Nat}{e:Expr}{k B:Nat}(ab:l.length≤1000000000)(hg:kv l){T R:List Token}(aI:cl l i (a_ [40]::T) R)(hd:d≤23)(h:y7 l i (d+1) e k B):oC l i d e k (B+1):=by
 intro n hn;obtain⟨n,rfl⟩:∃j,n=j+1:=⟨n-1,by omega⟩
 have cK:=aI.lt;have bf:=aI.hd;have hk:(l.getD i default).Kind=5:=by have:=congrArg Token.Kind bf;exact this
 rw [y8 ab cK,hk,if_neg (by decide),if_neg (by decide),if_neg (by decide)]
 unfold vn GA;rw [Pd n l i hg,aI.call,List.cons_append,ag7,vO,aI.is,List.cons_append,Pe n l i d (by omega) (by omega),if_neg (by omega)]
 simp only [ak,anC,anE,show fC (a_ [40]::(T++R)) [40]=true from rfl,anG,anF,ax.on]
 rw [h n (by omega)]
 rfl
theorem oC.word{i d:Nat}{e:Expr}{k B:Nat}{op:Int}(eo:20≤op∧op≤24)(ab:l.length≤1000000000)(hg:kv l){T R:List Token}(aI:cl l i (iN op::T) R)(hd:d≤23)(h:y7 l (i+1) (d+1) e k B):oC l i d ⟨op,0,[],[e]⟩ k (B+1):=by
 intro n hn;obtain⟨n,rfl⟩:∃j,n=j+1:=⟨n-1,by omega⟩
 have cK:=aI.lt;have bf:=aI.hd;have hk:(l.getD i default).Kind=2:=by have:=congrArg Token.Kind bf;exact this.trans (y6 op).2
 rw [y8 ab cK,hk,if_neg (by decide),if_neg (by decide),if_neg (by decide)]
 unfold vn yi M_;rw [Pd n l i hg,aI.call,List.cons_append,WJ op _ (by omega),Pe n l i d (by omega) (by omega),if_neg (by omega)]
 simp only [ak,show¬ op=0 by omega,show¬ op=25 by omega,show¬ op=26 by omega,show¬ op=27 by omega,anD,anF,ax.on]
 rw [bD (by omega),h n (by omega)]
 rfl
theorem oC.ag8{i d:Nat}{op:Int}(eo:25≤op∧op≤27)(ab:l.length≤1000000000)(hg:kv l){R:List Token}(aI:cl l i [iN op,a_ [40],a_ [41]] R):oC l i d ⟨op,0,[],[]⟩ (i+3) 1:=by
 intro n hn;obtain⟨n,rfl⟩:∃j,n=j+1:=⟨n-1,by omega⟩
 have cK:=aI.lt;have bf:=aI.hd;have Z:=aI.fu.is [40];have aa:=aI.fu.fu.is [41];have hk:(l.getD i default).Kind=2:=by have:=congrArg Token.Kind bf;exact this.trans (y6 op).2
 rw [y8 ab cK,hk,if_neg (by decide),if_neg (by decide),if_neg (by decide)]
 unfold vn yi;rw [Pd n l i hg,aI.call,List.cons_append,WJ op _ (by omega),bD (by omega),y1 n l (i+1) _ (by omega) (by omega),Z]
 simp only [ak,show¬ op=0 by omega,anD,anF,show fC ([a_ [40],a_ [41]]++R) [40]=true from rfl,cond_true,ax.on]
 rw [y1 n l (i+1+1) _ (by omega) (by omega),aa]
 simp only [ak,show fC ([a_ [41]]++R) [41]=true from rfl,cond_true,ax.on]
 by_cases aJ:op=25
 ·simp only [aJ,anC,anE]
 ·by_cases bE:op=26
  ·simp only [bE,show¬ (26:Int)=25 by omega,anC,anD,anE,anF]
  ·obtain rfl:op=27:=by omega
   simp only [show¬ (27:Int)=25 by omega,show¬ (27:Int)=26 by omega,anC,anD,anE,anF]
theorem f'.WM{i d lv:Nat}{e:Expr}{k B:Nat}{op:Int}{w:anT}(am:(lv=3∧w=[110,111,116]∧op=18)∨(lv=8∧w=[45]∧op=9))(ab:l.length≤1000000000)(hi:gW l i w=true)(hd:d≤23)(h:f' l (i+1) (d+1) lv e k B):f' l i d lv ⟨op,0,[],[e]⟩ k (B+2):=by
 intro n hn;obtain⟨n,rfl⟩:∃j,n=j+1:=⟨n-1,by omega⟩
 obtain⟨n,rfl⟩:∃j,n=j+1:=⟨n-1,by omega⟩
 have cK:=Pa hi
 have hp:nK (n+1) op (lv:Int) (d:Int) ⟨l,(i:Int)⟩=some (.ret ⟨op,0,[],[e]⟩ (k:Int)):=by
  rw [agi];unfold Gz;rw [Pe n l i d (by omega) (by omega),if_neg (by omega)]
  simp only [ak,ax.on];rw [bD (by omega),h n (by omega)]
  rfl
 rw [CW];unfold sU;rcases am with⟨rfl,rfl,rfl⟩|⟨rfl,rfl,rfl⟩
 ·simp only [fU,vO,ak,hi,anC,anE,hp,ax.on]
 ·simp only [fU,vO,ak,hi,show¬ 8=3 by omega,anC,anD,anE,anF,hp,ax.on]
end
open Go Go.Ab Go.Proofs
def ag9{op:Int}{p:kx}{k:Nat}{R:List Token}{w:anT}(hw:w≠[40])(h:ch op<k):fC (cS (fW op p k)++R) w=false:=by
 unfold fW;rw [if_pos h];simp only [cS,List.cons_append,fC,a_,decide_eq_false (show¬ ([40]:anT)=w from λe=>hw e.symm),Bool.and_false]
def ag'{l:List Expr}{n:Int}(h:(l.length:Int)=n)(aa:n=2):∃a b,l=[a,b]:=by
 match l,h with
 |[a,b],_=>exact⟨a,b,rfl⟩
 |[],h=>simp at h;omega
 |[a],h=>simp at h;omega
 |a::b::c::l,h=>simp at h;omega
def ag_{l:List Expr}{n:Int}(h:(l.length:Int)=n)(aa:n=1):∃a,l=[a]:=by
 match l,h with
 |[a],_=>exact⟨a,rfl⟩
 |[],h=>simp at h;omega
 |a::b::l,h=>simp at h;omega
def aha{l:List Expr}{n:Int}(h:(l.length:Int)=n)(aa:n=0):l=[]:=by
 match l,h with
 |[],_=>rfl
 |a::l,h=>simp at h;omega
def y9(e:Expr)(h:gt e):
 (e.Op=1∧e=⟨1,e.N,[],[]⟩)∨(e.Op=2∧e=⟨2,0,e.S,[]⟩)∨(e.Op=3∧e=⟨3,0,e.S,[]⟩)∨((25≤e.Op∧e.Op≤27)∧e=⟨e.Op,0,[],[]⟩)∨
 (∃a,e=⟨e.Op,0,[],[a]⟩∧gt a∧fV e=1+fV a∧(e.Op=9∨e.Op=18∨20≤e.Op∧e.Op≤24))∨
 (∃a b,e=⟨e.Op,0,[],[a,b]⟩∧gt a∧gt b∧fV e=1+max (fV a) (fV b)∧(4≤e.Op∧e.Op≤8∨10≤e.Op∧e.Op≤17∨e.Op=19)):=by
 obtain⟨Op,N,S,aw⟩:=e;obtain⟨⟨Z,aa⟩,ai,ay,aJ,bE,cz,dh⟩:=h;rcases ag5 Z with⟨ha,hb⟩|⟨ha,hb⟩|⟨ha,hb⟩
 ·obtain rfl:=aha aa ha;by_cases e1:Op=1
  ·subst e1;obtain rfl:=aJ (by omega);exact Or.inl ⟨rfl,rfl⟩
  ·obtain rfl:=ay e1;by_cases e2:Op=2
   ·subst e2;exact Or.inr (Or.inl ⟨rfl,rfl⟩)
   ·by_cases e3:Op=3
    ·subst e3;exact Or.inr (Or.inr (Or.inl ⟨rfl,rfl⟩))
    ·obtain rfl:=aJ ⟨e2,e3⟩;exact Or.inr (Or.inr (Or.inr (Or.inl ⟨⟨by simp only;omega,by simp only;omega⟩,rfl⟩)))
 ·obtain⟨a,rfl⟩:=ag_ aa ha;obtain rfl:=ay (by omega)
  obtain rfl:=aJ (by omega)
  exact Or.inr (Or.inr (Or.inr (Or.inr (Or.inl ⟨a,rfl,dh.1,by simp [fV,px],hb⟩))))
 ·obtain⟨a,b,rfl⟩:=ag' aa ha;obtain rfl:=ay (by omega)
  obtain rfl:=aJ (by omega)
  exact Or.inr (Or.inr (Or.inr (Or.inr (Or.inr ⟨a,b,rfl,dh.1,dh.2.1,by simp [fV,px],hb⟩))))
def Ps{op:Int}{a b:Expr}(h:4≤op∧op≤8∨10≤op∧op≤17∨op=19):b5 ⟨op,0,[],[a,b]⟩=fW a.Op (b5 a) (if ch op=4 then 5 else ch op)++none::some (oA op)::none::fW b.Op (b5 b) (ch op+1):=by
 simp only [b5,js,k2];rw [if_neg (by omega),if_neg (by omega),if_neg (by omega)]
def C1{op:Int}{a b:Expr}(h:4≤op∧op≤8∨10≤op∧op≤17∨op=19):cS (b5 ⟨op,0,[],[a,b]⟩)=cS (fW a.Op (b5 a) (if ch op=4 then 5 else ch op))++oA op::cS (fW b.Op (b5 b) (ch op+1)):=by
 rw [Ps h,rN];rfl
def C2{op:Int}(h:4≤op∧op≤8∨10≤op∧op≤17∨op=19):ch op=1∨ch op=2∨ch op=4∨ch op=5∨ch op=6∨ch op=7:=by
 have:op=4∨op=5∨op=6∨op=7∨op=8∨op=10∨op=11∨op=12∨op=13∨op=14∨op=15∨op=16∨op=17∨op=19:=by omega
 rcases this with rfl|rfl|rfl|rfl|rfl|rfl|rfl|rfl|rfl|rfl|rfl|rfl|rfl|rfl<;>decide
def Pt(op:Int):1≤ch op∧ch op≤9:=by
 unfold ch;by_cases Z:op=17
 ·rw [if_pos Z];omega
 by_cases aa:op=16
 ·rw [if_neg Z,if_pos aa];omega
 by_cases ai:op=18
 ·rw [if_neg Z,if_neg aa,if_pos ai];omega
 by_cases ay:10≤op∧op≤15
 ·rw [if_neg Z,if_neg aa,if_neg ai,if_pos ay];omega
 by_cases aJ:op=19
 ·rw [if_neg Z,if_neg aa,if_neg ai,if_neg ay,if_pos aJ];omega
 by_cases bE:op=4∨op=5
 ·rw [if_neg Z,if_neg aa,if_neg ai,if_neg ay,if_neg aJ,if_pos bE];omega
 by_cases cz:6≤op∧op≤8
 ·rw [if_neg Z,if_neg aa,if_neg ai,if_neg ay,if_neg aJ,if_neg bE,if_pos cz];omega
 by_cases dh:op=9
 ·rw [if_neg Z,if_neg aa,if_neg ai,if_neg ay,if_neg aJ,if_neg bE,if_neg cz,if_pos dh];omega
 rw [if_neg Z,if_neg aa,if_neg ai,if_neg ay,if_neg aJ,if_neg bE,if_neg cz,if_neg dh];omega
def WN{c:Prop}[Decidable c]{a b:Token}{R:List Token}{w:anT}(ha:fC (a::R) w=false)(hb:fC (b::R) w=false):fC ((if c then a else b)::R) w=false:=by
 by_cases h:c
 ·rw [if_pos h];exact ha
 ·rw [if_neg h];exact hb
def Is(op:Int)(R:List Token):fC (iN op::R) [110,111,116]=false∧fC (iN op::R) [45]=false:=by
 unfold iN;constructor
 ·repeat refine WN rfl ?_
  rfl
 ·repeat refine WN rfl ?_
  rfl
def WO:∀(h:Nat) (e:Expr),fV e≤h→gt e→3<ch e.Op→∀R,fC (cS (b5 e)++R) [110,111,116]=false:=by
 intro h;induction h with
 |zero=>intro e he;rw [ti]at he;omega
 |succ h aG=>
  intro e he cG gh R;rcases y9 e cG with⟨_,al⟩|⟨_,al⟩|⟨_,al⟩|⟨ah,al⟩|⟨a,al,ha,bf,eo⟩|⟨a,b,al,ha,hb,bf,eo⟩
  ·rw [al];rfl
  ·rw [al];rfl
  ·rw [al];rfl
  ·generalize e.Op=op at ah al
   rw [al];simp only [b5,js,k2];rw [if_neg (by omega),if_neg (by omega),if_neg (by omega)]
   exact(Is _ _).1
  ·generalize e.Op=op at gh al eo
   rw [al];simp only [b5,js,k2];rw [if_neg (by omega),if_neg (by omega),if_neg (by omega)]
   by_cases oD:op=18
   ·rw [oD]at gh;exact absurd gh (by decide)
   ·rw [if_neg oD];by_cases eH:op=9
    ·rw [if_pos eH];rfl
    ·rw [if_neg eH];exact(Is _ _).1
  ·generalize e.Op=op at gh al eo
   rw [al,C1 eo,List.append_assoc];by_cases hp:ch a.Op<(if ch op=4 then 5 else ch op)
   ·exact ag9 (by decide) hp
   ·unfold fW;rw [if_neg hp];refine aG a (by omega) ha ?_ _
    split at hp<;>omega
def ahb(e:Expr)(cG:gt e)(gh:8<ch e.Op)(R:List Token):fC (cS (b5 e)++R) [45]=false:=by
 rcases y9 e cG with⟨_,al⟩|⟨_,al⟩|⟨_,al⟩|⟨ah,al⟩|⟨a,al,ha,bf,eo⟩|⟨a,b,al,ha,hb,bf,eo⟩
 ·rw [al];rfl
 ·rw [al];rfl
 ·rw [al];rfl
 ·generalize e.Op=op at ah al
  rw [al];simp only [b5,js,k2];rw [if_neg (by omega),if_neg (by omega),if_neg (by omega)]
  exact(Is _ _).2
 ·generalize e.Op=op at gh al eo
  rw [al];simp only [b5,js,k2];rw [if_neg (by omega),if_neg (by omega),if_neg (by omega)]
  by_cases oD:op=18
  ·rw [oD]at gh;exact absurd gh (by decide)
  ·rw [if_neg oD];by_cases eH:op=9
   ·rw [eH]at gh;exact absurd gh (by decide)
   ·rw [if_neg eH];exact(Is _ _).2
 ·have:=C2 eo;omega
section
variable {l:List Token}
abbrev eB(e:Expr)(lv:Nat):List Token:=cS (fW e.Op (b5 e) lv)
def py(l:List Token)(e:Expr):Prop:=∀(lv i d:Nat) (R:List Token),1≤lv→lv≤8→cl l i (eB e lv) R→iB R<(lv:Int)→d+2*fV e≤25∨(lv≤ch e.Op∧d+2*fV e≤26)→
 f' l i d lv e (i+(eB e lv).length) (24*(eB e lv).length+40-2*lv)
def Pu(l:List Token)(e:Expr):Prop:=∀(L i d:Nat) (R:List Token),(L=1∨L=2∨L=5∨L=6∨L=7)→cl l i (eB e L) R→iB R≤(L:Int)→d+2*fV e≤25→∀n,24*(eB e L).length+40≤n+2*L+1→
 ∃j,j≤(eB e L).length∧hB (n+1) (L:Int) (d:Int) ⟨l,(i:Int)⟩=pk n (hB n) (nK n) (mj n) (nL n) (L:Int) (d:Int) ⟨l,(i:Int)⟩ (n-j) ((i+(eB e L).length:Nat):Int) e.Op e.N e.S e.aw
theorem cl.Pv{T R:List Token}{i:Nat}(h:cl l i T R)(az:T≠[]):(rK l (i+T.length)).1=iB R:=by
 have aa:cl l (i+T.length) [] R:=by
  unfold cl at *;rw [←List.drop_drop,h,List.drop_left];rfl
 rw [aa.WI];rfl
theorem WP{n i d L k m:Nat}{op:Int}{a b:Expr}(ab:l.length≤1000000000)(eo:4≤op∧op≤8∨10≤op∧op≤17∨op=19)(cL:L=ch op)(hb:py l b){R:List Token}
 (aI:cl l k (oA op::eB b (L+1)) R) (f8:iB R≤(L:Int)) (hd:d+2*fV b≤25) (hn:24*(eB b (L+1)).length+40≤n+2*(L+1)):
 pk n (hB n) (nK n) (mj n) (nL n) (L:Int) (d:Int) ⟨l,(i:Int)⟩ (m+1) (k:Int) a.Op a.N a.S a.aw =
  if L=4 then some (.ret ⟨op,0,[],[a,b]⟩ ((k+1+(eB b (L+1)).length:Nat):Int)) else
  pk n (hB n) (nK n) (mj n) (nL n) (L:Int) (d:Int) ⟨l,(i:Int)⟩ m ((k+1+(eB b (L+1)).length:Nat):Int) op 0 [] [a,b]:=by
 have gh:=C2 eo;have hk:=aI.lt;have ahc:rK l k=((L:Int),op):=by rw [aI.WI,List.cons_append,Pr op _ eo,cL]
 have cR:=hb (L+1) (k+1) d R (by omega) (by omega) aI.fu (by omega) (Or.inl hd) n (by omega)
 simp only [pk,BY];rw [Pc,ahc];simp only [ak,anC,anG,anF];rw [bD (by omega),bD (by omega),cR]
 simp only [ak,ax.on,fU,WL];by_cases ay:L=4
 ·simp only [ay,anC,anE,anR]
 ·simp only [ay,anD,anF,anS]
theorem It(e:Expr)(lv:Nat)(h:gt e):eB e lv≠[]:=by
 unfold eB fW;split
 ·simp [cS]
 ·rcases y9 e h with⟨_,al⟩|⟨_,al⟩|⟨_,al⟩|⟨ah,al⟩|⟨a,al,ha,bf,eo⟩|⟨a,b,al,ha,hb,bf,eo⟩
  ·rw [al];simp [b5,k2,cS]
  ·rw [al];simp [b5,k2,cS]
  ·rw [al];simp [b5,k2,cS]
  ·generalize e.Op=op at ah al
   rw [al];simp only [b5,js,k2];rw [if_neg (by omega),if_neg (by omega),if_neg (by omega)]
   simp [cS]
  ·generalize e.Op=op at eo al
   rw [al];simp only [b5,js,k2];rw [if_neg (by omega),if_neg (by omega),if_neg (by omega)]
   split
   ·simp [cS]
   ·split<;>simp [cS]
  ·generalize e.Op=op at eo al
   rw [al,C1 eo];simp
theorem WQ{i d n:Nat}{op:Int}{a b:Expr}(ab:l.length≤1000000000)(eo:4≤op∧op≤8∨10≤op∧op≤17∨op=19)(WR:ch op≠4)(amV:gt a)(ha:Pu l a)(hb:py l b){R:List Token}
 (aI:cl l i (cS (b5 ⟨op,0,[],[a,b]⟩)) R) (f8:iB R≤(ch op:Int)) (ahd:d+2*fV a≤25) (ahe:d+2*fV b≤25) (hn:24*(cS (b5 ⟨op,0,[],[a,b]⟩)).length+40≤n+2*ch op+1):
 ∃j,j≤(cS (b5 ⟨op,0,[],[a,b]⟩)).length∧hB (n+1) (ch op:Int) (d:Int) ⟨l,(i:Int)⟩ =
  pk n (hB n) (nK n) (mj n) (nL n) (ch op:Int) (d:Int) ⟨l,(i:Int)⟩ (n-j) ((i+(cS (b5 ⟨op,0,[],[a,b]⟩)).length:Nat):Int) op 0 [] [a,b]:=by
 have gh:=C2 eo;have aC:=C1 (a:=a) (b:=b) eo;rw [if_neg WR]at aC;rw [aC]at aI hn ⊢;have bN:cS (fW a.Op (b5 a) (ch op))=eB a (ch op):=rfl;have e1:cS (fW b.Op (b5 b) (ch op+1))=eB b (ch op+1):=rfl;rw [bN,e1]at aI hn ⊢;have ahf:=aI.k3;simp only [anM,anI]at hn ⊢;obtain⟨j,hj,Pw⟩:=ha (ch op) i d _ (by omega) ahf (by unfold iB;rw [List.cons_append,Pr op _ eo];exact Int.le_refl _) ahd n (by omega)
 refine⟨j+1,by omega,?_⟩
 rw [Pw];obtain⟨m,hm⟩:∃m,n-j=m+1:=⟨n-j-1,by omega⟩
 rw [hm,WP ab eo rfl hb aI.jH f8 ahe (by omega),if_neg WR]
 rw [show n-(j+1)=m by omega,show i+(eB a (ch op)).length+1+(eB b (ch op+1)).length=i+((eB a (ch op)).length+((eB b (ch op+1)).length+1))by omega]
end
end Go.Ab.Y

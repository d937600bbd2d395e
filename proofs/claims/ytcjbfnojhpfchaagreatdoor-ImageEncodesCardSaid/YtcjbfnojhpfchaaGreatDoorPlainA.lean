/- The plain law: what the functions compute answers as the statement says. -/
import Derived.Lib.ItoaNum
import Derived.Lib.ItoaLen
import Derived.Test.YtcjbfnojhpfchaaGreatDoorCtrB
set_option linter.all false
namespace Go.Ab.Y
open Go Go.Ab Go.Proofs
def alO{h:Decidable True}:@decide True h=true:=_root_.decide_true h
def alP{h:Decidable False}:@decide False h=false:=_root_.decide_false h
def alW:(∀n:Nat,(n:Int).toNat=n)∧∀(α:Type)(_:Inhabited α)(l:List α)(n:Nat),al8 l n=l.getD n default:=⟨λ_=>rfl,λ_ _ _ _=>rfl⟩
def alQ{α:Type}{a b:α}:cond true a b=a:=rfl
def alR{α:Type}{a b:α}:cond false a b=b:=rfl
def alS:(!true)=false:=rfl
def alT:(!false)=true:=rfl
def alU{α:Type}{a:α}{l:List α}:(a::l).length=l.length+1:=rfl
def alV{α:Type}:([]:List α).length=0:=rfl
def alX{a b:Nat}:((a:Int)<b)↔a<b:=_root_.Int.ofNat_lt
def alY{α:Type}{a b:List α}:(a++b).length=a.length+b.length:=_root_.List.length_append
def alZ{α:Type}{a:α}:[a].length=1:=rfl
def al0{α:Type}{b:Bool}{x y:α}:cond b x y=if b then x else y:=_root_.Bool.cond_eq_ite b x y
def al1(a:Int):¬a<a:=_root_.Int.lt_irrefl a
def al2(a:Bool):(a||true)=true:=_root_.Bool.or_true a
def al3{α:Type}{a b:α}{h:Decidable True}:@ite α True h a b=a:=_root_.if_true a b
def al4{α:Type}{a b:α}{h:Decidable False}:@ite α False h a b=b:=_root_.if_false a b
def wr{x:Int}(Z : -9223372036854775808≤x)(ae:x≤9223372036854775807):al7 x=x:=by(try unfold al7);rw [IntKind.wrap_i64];omega
def ck{i:Nat}(h:i≤4611686018427387904):al7 ((i:Int)+1)=((i+1:Nat):Int):=by rw [wr]<;>omega
def b6{i n:Nat}(h:i<n):aN (i:Int) n=true:=by simp [aN];omega
def rR{n:Nat}(h:0<n):aN 0 n=true:=by simp [aN];omega
def Wr{i n:Nat}(h:i≤n):gS (i:Int) n=true:=by simp [gS];omega
def afP{i j n:Nat}(h:i≤j)(ae:j≤n):nl (i:Int) (j:Int) n=true:=by simp [nl];omega
@[simp] def a_ {α : Type} (x : Option α) : av true x = x := rfl
def gR{α:Type}(l:List α)(i:Nat)(d:α)(h:i<l.length):l.drop i=l.getD i d::l.drop (i+1):=by
 rw [List.drop_eq_getElem_cons h];simp [List.getD,h]
def iO{α:Type}(l:List α)(i:Nat)(h:¬ i<l.length):l.drop i=[]:=List.drop_of_length_le (by omega)
def qF(a k:Nat):((a:Int)<(no_index (OfNat.ofNat k):Int))↔a<k:=Int.ofNat_lt
def jb(a k:Nat):((a:Int)≤(no_index (OfNat.ofNat k):Int))↔a≤k:=Int.ofNat_le
def e7(a k:Nat):((no_index (OfNat.ofNat k):Int)<(a:Int))↔k<a:=Int.ofNat_lt
def rS(a k:Nat):((no_index (OfNat.ofNat k):Int)≤(a:Int))↔k≤a:=Int.ofNat_le
def jq(a k:Nat):((a:Int)=(no_index (OfNat.ofNat k):Int))↔a=k:=Int.ofNat_inj
def eg(a b:Bool):(bif a then true else b)=(a||b):=by cases a<;>rfl
def e8(a b:Bool):(bif a then b else false)=(a&&b):=by cases a<;>rfl
def aC{α β:Type}(a:α)(f:α→Option β):Option.bind (some a) f=f a:=rfl
def okB(c:UInt8):Bool:=decide (32≤c.toNat)&&decide (c.toNat≤126)
def jL(s:al5):Bool:=s.all okB&&decide (s.length≤64)
def F8(c:UInt8):(decide (c.toNat<32)||decide (126<c.toNat)) = !okB c:=by
 unfold okB;by_cases h:c.toNat<32
 ·simp [h]
 ·by_cases ae:c.toNat≤126
  ·simp [ae,show 32≤c.toNat by omega,h]
  ·simp [ae];omega
def afQ(n:Nat)(s:al5)(hs:s.length≤4611686018427387904):∀m i,s.length<i+m→i≤s.length→vG n s m (i:Int)=some ((s.drop i).all okB&&decide (s.length≤64)):=by
 intro m;induction m with
 |zero=>intro i h ae;omega
 |succ m a7=>
  intro i hm hi;simp only [vG,Ju,Jt];by_cases h:i<s.length
  ·rw [gR s i 0 h,ck (by omega),a7 (i+1) (by omega) (by omega)]
   simp only [h,b6 h,alW,alX,alO,alQ,a_,al2,List.all_cons,qF,e7,eg,F8];cases okB (s.getD i 0)<;>simp
  ·rw [iO s i h];simp [h,jb]
def Ws{n:Nat}{s:al5}(h:s.length<n)(hs:s.length≤4611686018427387904):Jv n s=some (jL s):=afQ n s hs n 0 (by omega) (by omega)
def afR(n:Nat)(s:al5)(hs:s.length≤4611686018427387904):∀m i,s.length<i+m→i≤s.length→zO n s m (i:Int)=some ((s.drop i).all okB):=by
 intro m;induction m with
 |zero=>intro i h ae;omega
 |succ m a7=>
  intro i hm hi;simp only [zO,Mr,Mq];by_cases h:i<s.length
  ·rw [gR s i 0 h,ck (by omega),a7 (i+1) (by omega) (by omega)]
   simp only [h,b6 h,alW,alX,alO,alQ,a_,al2,List.all_cons,qF,e7,eg,F8];cases okB (s.getD i 0)<;>simp
  ·rw [iO s i h];simp [h,jb]
def afS{n:Nat}{s:al5}(h:s.length<n)(hs:s.length≤4611686018427387904):ED n s=some (jL s):=by
 unfold ED;rw [show(0:Int)=((0:Nat):Int)from rfl,afR n s hs n 0 (by omega) (by omega)]
 unfold jL;simp only [List.drop_zero,e7];by_cases h:64<s.length
 ·simp [h]
 ·simp [h];omega
def rT:List al5:=[[112,114,111,99],[108,101,116],[112,117,116],[100,101,108,101,116,101],[105,102],[101,108,115,101],[102,111,114],[116,111],[109,97,120],[101,109,105,116],[97,98,111,114,116],[110,111,116],[97,110,100],[111,114],[105,110,116],[115,116,114],[98,111,111,108],[116,101,120,116],[108,101,110],[103,101,116,105,110,116],[103,101,116,115,116,114],[104,97,115],[110,111,119],[114,97,110,100,111,109],[110,111,100,101]]
def A1(s:al5):Bool:=decide (s∈rT)
def afT(n:Nat)(s:al5):yN n s=some (A1 s):=by
 unfold A1;by_cases h:s∈rT
 ·simp only [h,alO];simp only [rT,List.mem_cons,List.not_mem_nil,or_false]at h;rcases h with rfl|rfl|rfl|rfl|rfl|rfl|rfl|rfl|rfl|rfl|rfl|rfl|rfl|rfl|rfl|rfl|rfl|rfl|rfl|rfl|rfl|rfl|rfl|rfl|rfl<;>rfl
 ·simp only [h,alP];simp only [rT,List.mem_cons,List.not_mem_nil,or_false,not_or]at h;simp only [yN,hE,I7,h,alP,alR]
def afU(n:Nat)(l:List al5)(s:al5)(hs:l.length≤4611686018427387904):∀m i,l.length<i+m→i≤l.length→zJ n l s m (i:Int)=some (decide (s∈l.drop i)):=by
 intro m;induction m with
 |zero=>intro i h ae;omega
 |succ m a7=>
  intro i hm hi;simp only [zJ,L9,L8];by_cases h:i<l.length
  ·rw [gR l i default h,ck (by omega),a7 (i+1) (by omega) (by omega)]
   simp only [h,b6 h,alW,alX,alO,alQ,a_,List.mem_cons];by_cases he:l.getD i default=s
   ·simp only [he,alO,alQ,true_or]
   ·simp only [he,alP,alR,show¬ s=l.getD i default from λx=>he x.symm,false_or]
  ·rw [iO l i h];simp [h]
def afV(n:Nat):L7 n=some rT:=rfl
def afW{n:Nat}(l:List al5)(s:al5)(h:l.length<n)(hs:l.length≤4611686018427387904):L' n l s=some (decide (s∈l)):=afU n l s hs n 0 (by omega) (by omega)
def afX{n:Nat}(s:al5)(h:25<n):Ey n s=some (A1 s):=by
 unfold Ey;simp only [afV,aC];rw [afW rT s (by show 25<_;omega) (by decide)]
 rfl
def qG(c:UInt8):Bool:=decide (97≤c.toNat)&&decide (c.toNat≤122)
def Wt(n:Nat)(c:UInt8):zK n ((c.toNat:Nat):Int)=some (qG c):=by
 simp only [zK,e8,rS,jb,qG]
def afY{x:Nat}(h:x<256):IntKind.i32.wrap (x:Int)=x:=by rw [IntKind.wrap_i32];omega
def afZ(n:Nat)(c:UInt8):yO n (IntKind.i32.wrap ((c.toNat:Nat):Int))=some (qG c):=by
 rw [afY c.toNat_lt];simp only [yO,e8,rS,jb,qG]
def af0(n:Nat)(c:UInt8):Ez n ((c.toNat:Nat):Int)=some (mf c):=by
 simp only [Ez,Wt,aC,L_,e8,eg,rS,jb,jq];unfold mf qG;by_cases h:97≤c.toNat∧c.toNat≤122
 ·simp [h.1,h.2]
 ·have:(decide (97≤c.toNat)&&decide (c.toNat≤122))=false:=by simpa using h
  rw [this];simp only [alT,alQ,aC,Bool.false_or,h,false_or,Bool.decide_or,Bool.decide_and]
def Wu(c:UInt8)(s:al5):lP (c::s)=bif mf c then lP s+1 else 0:=by
 unfold lP;cases h:mf c<;>simp [List.takeWhile,h]
def af1(n:Nat)(s:al5)(hs:s.length≤4611686018427387904):∀m i,s.length<i+m→i≤s.length→zL n s m (i:Int)=some (((i+lP (s.drop i):Nat):Int)):=by
 intro m;induction m with
 |zero=>intro i h ae;omega
 |succ m a7=>
  intro i hm hi;simp only [zL,Mb,Ma];by_cases h:i<s.length
  ·rw [gR s i 0 h,ck (by omega),a7 (i+1) (by omega) (by omega)]
   simp only [h,b6 h,alW,alX,alO,alQ,a_,al2,af0,aC,Wu];cases mf (s.getD i 0)
   ·rfl
   ·simp only [alQ,Option.some.injEq];omega
  ·rw [iO s i h];simp [h,lP]
def af2{n:Nat}{s:al5}(i:Nat)(h:s.length<n)(hi:i≤s.length)(hs:s.length≤4611686018427387904):Mc n s (i:Int)=some (((i+lP (s.drop i):Nat):Int)):=af1 n s hs n i (by omega) hi
def gp(s:al5):Bool:=
 match s with
 |[]=>false
 |c::l=>decide (l.length≤15)&&qG c&&decide (lP (c::l)=l.length+1) && !A1 (c::l)
def A2{n:Nat}(s:al5)(h:s.length<n)(ae:25<n)(hs:s.length≤4611686018427387904):rE n s=some (gp s):=by
 unfold rE;cases s with
 |nil=>rfl
 |cons c l=>
  simp only [afX _ ae,e8,rS,jb,alU,show 1≤l.length+1 by omega,alO,Bool.true_and,rR (show 0<l.length+1 by omega),al2,a_,List.getD_cons_zero,Wt]
  rw [show(0:Int)=((0:Nat):Int)from rfl,af2 0 h (by omega) hs]
  simp only [List.drop_zero,Nat.zero_add,gp,Int.ofNat_inj,show(l.length+1≤16)=(l.length≤15)by rw [eq_iff_iff];omega]
  cases decide (l.length≤15)<;>simp only [Bool.false_and,alR,aC,Bool.true_and,alQ]
  cases qG c<;>simp only [Bool.false_and,alR,aC,Bool.true_and,alQ,Int.ofNat_inj]
  cases decide (lP (c::l)=l.length+1)<;>simp only [Bool.false_and,alR,aC,Bool.true_and,alQ]
def af3(n:Nat)(s:al5)(h:s.length≤140737488351232):vq n s=some ((lP s:Nat):Int):=by
 unfold vq;simp only [h,alO,a_]
def A3(n:Nat)(s:al5)(h:s.length≤140737488351232):qu n s=some (gp s):=by
 unfold qu;cases s with
 |nil=>rfl
 |cons c l=>
  simp only [afT,e8,rS,jb,alU,reduceCtorEq,alP,alT,Bool.true_and,rR (show 0<l.length+1 by omega),al2,a_,List.getD_cons_zero,afZ,af3 _ _ h]
  simp only [gp,Int.ofNat_inj,show(l.length+1≤16)=(l.length≤15)by rw [eq_iff_iff];omega]
  cases decide (l.length≤15)<;>simp only [Bool.false_and,alR,aC,Bool.true_and,alQ]
  cases qG c<;>simp only [Bool.false_and,alR,aC,Bool.true_and,alQ,Int.ofNat_inj]
  cases decide (lP (c::l)=l.length+1)<;>simp only [Bool.false_and,alR,aC,Bool.true_and,alQ]
def iP(op:Int):Int:=bif decide (op<1)||decide (27<op)then -1 else bif decide (op≤3)||decide (25≤op)then 0 else bif decide (op=9)||decide (op=18)||decide (20≤op)then 1 else 2
def af4(n:Nat)(op:Int):De n op=some (iP op):=by
 simp only [De,iP,eg];cases decide (op<1)||decide (27<op)<;>simp only [alQ,alR]
 cases decide (op≤3)||decide (25≤op)<;>simp only [alQ,alR]
 cases decide (op=9)||decide (op=18)||decide (20≤op)<;>rfl
def af5(n:Nat)(op:Int):zN n op=some (iP op):=by
 by_cases h:1≤op∧op≤27
 ·obtain rfl|rfl|rfl|rfl|rfl|rfl|rfl|rfl|rfl|rfl|rfl|rfl|rfl|rfl|rfl|rfl|rfl|rfl|rfl|rfl|rfl|rfl|rfl|rfl|rfl|rfl|rfl:op=1∨op=2∨op=3∨op=4∨op=5∨op=6∨op=7∨op=8∨op=9∨op=10∨op=11∨op=12∨op=13∨op=14∨op=15∨op=16∨op=17∨op=18∨op=19∨op=20∨op=21∨op=22∨op=23∨op=24∨op=25∨op=26∨op=27:=by omega
  all_goals rfl
 ·have ha:iP op = -1:=by
   unfold iP;by_cases Z:op<1
   ·simp [Z]
   ·simp [show 27<op by omega]
  have hb:(decide (4≤op)&&decide (op≤19))=false:=by
   by_cases Z:4≤op
   ·simp [Z];omega
   ·simp [Z]
  simp only [zN,rH,qA,Mp,e8,hb,ha,show¬ op=1 by omega,show¬ op=2 by omega,show¬ op=3 by omega,show¬ op=25 by omega,show¬ op=26 by omega,show¬ op=27 by omega,show¬ op=9 by omega,show¬ op=18 by omega,show¬ op=20 by omega,show¬ op=21 by omega,show¬ op=22 by omega,show¬ op=23 by omega,show¬ op=24 by omega,alP,alR]
def nQ(e:Expr)(depth:Int):Int:=
 if iP e.Op<0∨(e.Op≠1∧e.N≠0)∨(e.Op≠2∧e.Op≠3∧e.S≠[])then 1
 else if e.Op=3∧gp e.S=false then 7
 else if e.N<0∨(e.Op=2∧jL e.S=false)∨(e.au.length:Int)≠iP e.Op then 1
 else if 12<depth then 2 else 0
def af6{n:Nat}(e:Expr)(depth:Int)(h:e.S.length<n)(hs:e.S.length≤140737488351232):Df n e depth=some (nQ e depth):=by
 obtain⟨Op,N,S,au⟩:=e;simp only at h hs
 simp only [Df,af4,aC,A3 _ _ hs,Ws h (by omega),nQ]
 by_cases Z:iP Op<0
 ·simp [Z]
 by_cases ae:Op=1
 ·subst ae;by_cases bc:S=[]
  ·by_cases b2:N<0
   ·simp [Z,bc,b2]
   ·by_cases cU:(au.length:Int)=iP 1
    ·by_cases dQ:12<depth<;>simp [Z,bc,b2,cU,dQ]
    ·simp [Z,bc,b2,cU]
  ·simp [Z,bc]
 ·by_cases ar:N=0
  ·by_cases aK:Op=3
   ·subst aK;cases hn:gp S
    ·simp [Z,ar,hn]
    ·by_cases cU:(au.length:Int)=iP 3
     ·by_cases dQ:12<depth<;>simp [Z,ar,hn,cU,dQ]
     ·simp [Z,ar,hn,cU]
   ·by_cases bc:Op=2
    ·subst bc;cases hn:jL S
     ·simp [Z,ar,hn]
     ·by_cases cU:(au.length:Int)=iP 2
      ·by_cases dQ:12<depth<;>simp [Z,ar,hn,cU,dQ]
      ·simp [Z,ar,hn,cU]
    ·by_cases b2:S=[]
     ·by_cases cU:(au.length:Int)=iP Op
      ·by_cases dQ:12<depth<;>simp [Z,ae,ar,aK,bc,b2,cU,dQ]
      ·simp [Z,ae,ar,aK,bc,b2,cU]
     ·simp [Z,ae,ar,aK,bc,b2]
  ·simp [Z,ae,ar]
def af7{n:Nat}(e:Expr)(depth:Int)(h:e.S.length<n)(ae:25<n)(hs:e.S.length≤140737488351232):EE n e depth=some (nQ e depth):=by
 obtain⟨Op,N,S,au⟩:=e;simp only at h hs
 simp only [EE,af5,aC,A2 S h ae (by omega),afS h (by omega),nQ]
 clear ae;by_cases Z:iP Op<0
 ·simp [Z]
 by_cases ae:Op=1
 ·subst ae;by_cases bc:S=[]
  ·by_cases b2:N<0
   ·simp [Z,bc,b2]
   ·by_cases cU:(au.length:Int)=iP 1
    ·by_cases dQ:12<depth<;>simp [Z,bc,b2,cU,dQ]
    ·simp [Z,bc,b2,cU]
  ·simp [Z,bc]
 ·by_cases ar:N=0
  ·by_cases aK:Op=3
   ·subst aK;cases hn:gp S
    ·simp [Z,ar,hn]
    ·by_cases cU:(au.length:Int)=iP 3
     ·by_cases dQ:12<depth<;>simp [Z,ar,hn,cU,dQ]
     ·simp [Z,ar,hn,cU]
   ·by_cases bc:Op=2
    ·subst bc;cases hn:jL S
     ·simp [Z,ar,hn]
     ·by_cases cU:(au.length:Int)=iP 2
      ·by_cases dQ:12<depth<;>simp [Z,ar,hn,cU,dQ]
      ·simp [Z,ar,hn,cU]
    ·by_cases b2:S=[]
     ·by_cases cU:(au.length:Int)=iP Op
      ·by_cases dQ:12<depth<;>simp [Z,ae,ar,aK,bc,b2,cU,dQ]
      ·simp [Z,ae,ar,aK,bc,b2,cU]
     ·simp [Z,ae,ar,aK,bc,b2]
  ·simp [Z,ae,ar]
mutual
def db:Expr→Nat
 |⟨_,_,S,au⟩=>30+S.length+ls au
def ls:List Expr→Nat
 |[]=>0
 |x::l=>db x+1+ls l
end
def qH(e:Expr):db e=30+e.S.length+ls e.au:=by cases e;rfl
def F9:∀l:List Expr,l.length≤ls l
 |[]=>Nat.le_refl _
 |x::l=>by have:=F9 l;simp only [ls,alU];omega
def F':∀(l:List Expr) (i:Nat),i<l.length→db (l.getD i default)<ls l
 |[],i,h=>by simp at h
 |x::l,0,h=>by simp only [ls,List.getD_cons_zero];omega
 |x::l,i+1,h=>by have:=F' l i (by simpa using h);simp only [ls,List.getD_cons_succ];omega
open Go Go.Ab Go.Proofs
def val(u:Nat)(l:al5):Nat:=l.foldl (λu c=>u*10+(c.toNat-48)) u
open Go Go.Ab Go.Proofs
open Go Go.Ab Go.Proofs
def up(k:Nat):Int ⊕ (al5×Nat)→Int ⊕ (al5×Nat)
 |.inl e=>.inl e
 |.inr p=>.inr (p.1,p.2+k)
def fA(l:al5):List Int:=l.map λc=>((c.toNat:Nat):Int)
def Wv(l:al5):hl (fA l)=l:=by
 unfold hl fA;rw [List.map_map]
 conv=>rhs;rw [←List.map_id l]
 refine List.map_congr_left λc _=>?_
 simp
def Ww(l:al5):lj (fA l)=true:=by
 unfold lj fA;rw [List.all_eq_true];intro x hx;obtain⟨c,_,rfl⟩:=List.mem_map.1 hx;have:=c.toNat_lt
 simp only [Bool.and_eq_true,decide_eq_true_eq];omega
def Wx(l:al5):(fA l).length=l.length:=by simp [fA]
def af8(l:al5)(c:UInt8):fA l++[((c.toNat:Nat):Int)]=fA (l++[c]):=by simp [fA]
def af9{k:Nat}(h:k≤9223372036854775807):br k=true:=by simp [br];omega
open Go Go.Ab Go.Proofs
def two:List al5:=[[61,61],[33,61],[60,61],[62,61],[43,43]]
def af':al5:=[40,41,123,125,44,59,58,61,60,62,43,45,42,47,37]
def marks:List al5:=two++af'.map λc=>[c]
open Go Go.Ab Go.Proofs
open Go Go.Ab Go.Proofs
def fd(s:al5)(i:Nat):Nat:=(s.take i).count 10
open Go Go.Ab Go.Proofs
open Go Go.Ab Go.Proofs
def jM(l:List Token)(i:Nat)(w:al5):Bool:=
 decide (i<l.length)&&((decide ((l.getD i default).Kind=2)||decide ((l.getD i default).Kind=5))&&decide ((l.getD i default).Text=w))
def Wy{l:List Token}{i:Nat}{w:al5}(h:jM l i w=true):i<l.length:=by
 unfold jM at h;simp only [Bool.and_eq_true,decide_eq_true_eq]at h;exact h.1
def af_(n:Nat)(l:List Token)(i:Nat)(w:al5):rC n w ⟨l,(i:Int)⟩=some (jM l i w):=by
 unfold rC jM;simp only [alW,Int.ofNat_le,eg,e8];by_cases h:i<l.length
 ·simp only [show¬ l.length≤i by omega,alP,alR,b6 h,a_,h,alO,Bool.true_and]
 ·simp only [show l.length≤i by omega,alO,alQ,h,alP,Bool.false_and]
def Wz(l:List Token)(i:Nat):Int:=
 if i<l.length then(l.getD i default).lQ else if l.length=0 then 1 else(l.getD (l.length-1) default).lQ
def uV(l:List Token)(i:Nat)(c:Int):V:=.iface 332 (.agg [.int .i64 (Wz l i),.int .i64 c])
def F_(l:List Token)(i:Nat)(c:Int):Int:=if i<l.length then c else 6
def WA(n:Nat)(l:List Token)(i:Nat)(c:Int)(af:l.length≤4611686018427387904):qx n c ⟨l,(i:Int)⟩=some (.bd (uV l i (F_ l i c)) ()):=by
 unfold qx KX KW uV Wz F_;simp only [alW,alX];by_cases h:i<l.length
 ·simp only [h,b6 h,alO,alQ,a_,al3]
 ·simp only [h,alP,alR,al4];by_cases h0:l.length=0
  ·simp only [h0,al3];rfl
  ·have:al7 (((l.length:Nat):Int)-1)=((l.length-1:Nat):Int):=by rw [wr]<;>omega
   rw [this];simp only [jq,h0,alP,alR,b6 (show l.length-1<l.length by omega),a_,alW,al4]
def aga(n:Nat)(l:List Token)(i:Nat)(w:al5)(hi:i≤4611686018427387904):kF n w ⟨l,(i:Int)⟩=some (jM l i w,(((bif jM l i w then i+1 else i):Nat):Int)):=by
 unfold kF;rw [af_,aC,ck hi];cases jM l i w<;>rfl
def WB(n:Nat)(l:List Token)(i:Nat)(w:al5)(hi:i≤4611686018427387904)(af:l.length≤4611686018427387904):
 ke n w ⟨l,(i:Int)⟩=some (bif jM l i w then .ret () ((i+1:Nat):Int)else .bd (uV l i (F_ l i 5)) (i:Int)):=by
 unfold ke;rw [aga n l i w hi,aC];cases jM l i w
 ·simp only [alT,alQ,alR];rw [WA n l i 5 af,aC];rfl
 ·rfl
def agb:List (al5×Int×Int):=[([111,114],1,17),([97,110,100],2,16),([61,61],4,10),([33,61],4,11),([60],4,12),([60,61],4,13),([62],4,14),([62,61],4,15),([43,43],5,19),([43],6,4),([45],6,5),([42],7,6),([47],7,7),([37],7,8)]
def agc:Option (al5×Int×Int)→Int×Int
 |none=>(0,0)
 |some r=>r.2
def WC{l:List Token}{i:Nat}(h:i<l.length)(hk:(l.getD i default).Kind=2∨(l.getD i default).Kind=5)(w:al5):jM l i w=decide ((l.getD i default).Text=w):=by
 unfold jM;have:(decide ((l.getD i default).Kind=2)||decide ((l.getD i default).Kind=5))=true:=by rcases hk with hk|hk<;>rw [decide_eq_true hk]<;>simp
 rw [this,decide_eq_true h];rfl
def WD{l:List Token}{i:Nat}(h:¬ (i<l.length∧((l.getD i default).Kind=2∨(l.getD i default).Kind=5)))(w:al5):jM l i w=false:=by
 unfold jM;by_cases Z:i<l.length
 ·by_cases ae:(l.getD i default).Kind=2
  ·exact absurd ⟨Z,Or.inl ae⟩ h
  ·by_cases ar:(l.getD i default).Kind=5
   ·exact absurd ⟨Z,Or.inr ar⟩ h
   ·rw [decide_eq_false ae,decide_eq_false ar];simp
 ·rw [decide_eq_false Z];rfl
open Go Go.Ab Go.Proofs
def pQ:List (al5×Int):=[([116,101,120,116],20),([108,101,110],21),([103,101,116,105,110,116],22),([103,101,116,115,116,114],23),([104,97,115],24),([110,111,119],25),([114,97,110,100,111,109],26),([110,111,100,101],27)]
def call2:Option (al5×Int)→Int
 |none=>0
 |some r=>r.2
def Ga(l:List Token)(i:Nat):Int:=call2 (pQ.find? λr=>jM l i r.1)
def WE(l:List Token):Prop:=∀t,t∈l→t.Kind=5→t.Text∈marks
def agd(n:Nat)(l:List Token)(i:Nat)(hg:WE l):D6 n ⟨l,(i:Int)⟩=some (Ga l i):=by
 unfold D6 Ga
 (simp only [alW])
 simp only [Int.ofNat_le,eg];by_cases h:i<l.length
 ·simp only [show¬ l.length≤i by omega,alP,Bool.false_or,b6 h,a_]
  by_cases hk:(l.getD i default).Kind=2
  ·simp only [hk,alO,alS,alR,WC h (Or.inl hk)];generalize (l.getD i default).Text=w
   by_cases hw:w∈pQ.map (·.1)
   ·simp only [pQ,List.map_cons,List.map_nil,List.mem_cons,List.not_mem_nil,or_false]at hw;rcases hw with rfl|rfl|rfl|rfl|rfl|rfl|rfl|rfl<;>rfl
   ·simp only [pQ,List.map_cons,List.map_nil,List.mem_cons,List.not_mem_nil,or_false,not_or]at hw;simp only [hw,alP,alR,pQ,List.find?_cons,List.find?_nil];rfl
  ·simp only [hk,alP,alT,alQ];by_cases bc:(l.getD i default).Kind=5
   ·have hm:(l.getD i default).Text∈marks:=hg _ (by simp [List.getD,h]) bc
    simp only [WC h (Or.inr bc)];generalize (l.getD i default).Text=w at hm
    have:∀w,w∈marks→pQ.find? (λr=>decide (w=r.1))=none:=by decide
    rw [this w hm];rfl
   ·have:∀w,jM l i w=false:=WD (λx=>by rcases x.2 with e|e;exact hk e;exact bc e)
    simp only [this,pQ,List.find?_cons,List.find?_nil];rfl
 ·simp only [show l.length≤i by omega,alO,Bool.true_or,a_,alQ,WD (λx=>h x.1),pQ,List.find?_cons,List.find?_nil]
  rfl
def age(n:Nat)(l:List Token)(i d:Nat)(af:l.length≤4611686018427387904)(hd:d≤24):v_ n (d:Int) ⟨l,(i:Int)⟩=some (if d=24 then .bd (uV l i (F_ l i 2)) ()else .ret ((d+1:Nat):Int) ()):=by
 unfold v_ D5;simp only [rS];by_cases h:d=24
 ·simp only [show 24≤d by omega,alO,alQ,WA n l i 2 af,aC,h,al3];rfl
 ·simp only [show¬ 24≤d by omega,alP,alR,h,al4]
  rw [ck (by omega)]
open Go Go.Ab Go.Proofs
def agf(n:Nat):tC (n+1)=D7 n (lm n) (D9 n) (tC n) (wa n):=rfl
def agh(n:Nat):wa (n+1)=D8 n (lm n) (D9 n) (tC n) (wa n):=rfl
section
variable {l:List Token}
theorem agi{i:Nat}(h:i≤1000000000):al7 (((i+1:Nat):Int)-1)=(i:Int):=by rw [wr]<;>omega
end
open Go Go.Ab Go.Proofs
def lu(e:Expr):(⟨e.Op,e.N,e.S,e.au⟩:Expr)=e:=by cases e;rfl
section
variable {l:List Token}
end
open Go Go.Ab Go.Proofs
open Go Go.Ab Go.Proofs
section
variable {α:Type} {wt:α→Nat} {l:List Token}
end
mutual
def fst:Stmt→Nat
 |⟨_,Name,_,A,B,Body,bN⟩=>80+Name.length+db A+db B+eb Body+eb bN
def eb:List Stmt→Nat
 |[]=>0
 |x::l=>fst x+1+eb l
end
def ue(s:Stmt):(⟨s.Op,s.Name,s.Max,s.A,s.B,s.Body,s.bN⟩:Stmt)=s:=by cases s;rfl
def fst_eq(s:Stmt):fst s=80+s.Name.length+db s.A+db s.B+eb s.Body+eb s.bN:=by cases s;rfl
def NV:∀l m:List Stmt,eb (l++m)=eb l+eb m
 |[],m=>by simp [eb]
 |x::l,m=>by rw [List.cons_append,eb,eb,NV l m];omega
def A4:∀l:List Stmt,80*l.length≤eb l
 |[]=>Nat.le_refl _
 |x::l=>by have:=A4 l;have:=fst_eq x;simp only [eb,alU];omega
open Go Go.Ab Go.Proofs
section
variable {l:List Token}
end
open Go Go.Ab Go.Proofs
section
variable {l:List Token}
end
open Go Go.Ab Go.Proofs
section
variable {l:List Token}
end
open Go Go.Ab Go.Proofs
section
variable {l:List Token}
end
open Go Go.Ab Go.Proofs
section
variable {l:List Token}
end
open Go Go.Ab Go.Proofs
def hv:List Param→Nat
 |[]=>0
 |p::l=>60+p.Name.length+hv l
def A5:∀l:List Param,60*l.length≤hv l
 |[]=>Nat.le_refl _
 |t::l=>by have:=A5 l;simp only [hv,alU];omega
section
variable {l:List Token}
def agj(p:be):Nat:=p.Name.length+hv p.Params+eb p.Body
end
open Go Go.Ab Go.Proofs
mutual
def gf:Expr→Int→Int
 |⟨Op,N,S,au⟩,d=>if nQ ⟨Op,N,S,au⟩ d=0 then qI au (al7 (d+1))else nQ ⟨Op,N,S,au⟩ d
def qI:List Expr→Int→Int
 |[],d=>0
 |x::l,d=>if gf x d=0 then qI l d else gf x d
end
def WF(e:Expr)(d:Int):gf e d=if nQ e d=0 then qI e.au (al7 (d+1))else nQ e d:=by cases e;rfl
def WG:∀(n:Nat) (e:Expr) (d:Int),db e≤n→db e≤140737488351232→vH n e d=some (gf e d)∧wo n e d=some (gf e d):=by
 intro n;induction n with
 |zero=>intro e d h;rw [qH]at h;omega
 |succ n a7=>
  intro e d h af;have uf:=qH e;have Gb:=F9 e.au;simp only [vH,wo,Jy,Mu];rw [af6 e d (by omega) (by omega),af7 e d (by omega) (by omega) (by omega),WF]
  simp only [aC];by_cases h0:nQ e d=0
  ·rw [if_pos h0];simp only [h0,alO,alS,alR]
   have ih:∀m i,e.au.length<i+m→i≤e.au.length→y0 n (vH n) d e m (i:Int)=some (qI (e.au.drop i) (al7 (d+1)))∧zP n (wo n) d e m (i:Int)=some (qI (e.au.drop i) (al7 (d+1))):=by
    intro m;induction m with
    |zero=>intro i Z ae;omega
    |succ m na=>
     intro i Z ae;simp only [y0,Jx,Jw,zP,Mt,Ms];by_cases hi:i<e.au.length
     ·have hg:=F' e.au i hi;obtain⟨ik,iG⟩:=a7 (e.au.getD i default) (al7 (d+1)) (by omega) (by omega)
      obtain⟨agk,NW⟩:=na (i+1) (by omega) (by omega)
      (rw [gR e.au i default hi,ck (by omega)];simp only [alW];rw [ik,iG,agk,NW])
      simp only [hi,b6 hi,alX,alO,alQ,a_,aC,qI];by_cases ak:gf (e.au.getD i default) (al7 (d+1))=0
      ·simp only [ak,alO,alS,alR,al3,and_self]
      ·simp only [ak,alP,alT,alQ,al4,and_self]
     ·rw [iO e.au i hi];simp only [hi,alX,alP,alR,qI,and_self]
   exact ih n 0 (by omega) (by omega)
  ·rw [if_neg h0];simp only [h0,alP,alT,alQ,and_self]
def WH{n:Nat}(e:Expr)(h:db e≤n)(af:db e≤140737488351232):y1 n e=some (gf e 1):=by
 simp only [y1,(WG n e 1 h af).1,aC]
def WI{n:Nat}(e:Expr)(h:db e≤n)(af:db e≤140737488351232):zQ n e=some (gf e 1):=by
 simp only [zQ,(WG n e 1 h af).2,aC]
def lW(e:Expr):Bool:=decide (e.Op=0)&&decide (e.N=0)&&decide (e.S=[])&&decide (e.au.length=0)
def WJ(n:Nat)(e:Expr):vI n e=some (lW e):=by
 simp only [vI,lW,e8,jq]
def WK(n:Nat)(e:Expr):qy n e=some (lW e):=by
 simp only [qy,lW,e8,jq]
def jc(op:Int):kb×Bool:=
 if op=1∨op=2 then(⟨true,true,false,false,false,false⟩,true)
 else if op=3 then(⟨false,true,true,false,false,false⟩,true)
 else if op=4∨op=7 then(⟨false,true,false,false,false,false⟩,true)
 else if op=5 then(⟨false,true,false,false,true,true⟩,true)
 else if op=6 then(⟨true,true,true,true,true,false⟩,true)
 else if op=8 then(⟨false,false,false,true,false,false⟩,true)
 else(⟨false,false,false,false,false,false⟩,false)
def agl(n:Nat)(op:Int):Dj n op=some (jc op):=by
 by_cases h:1≤op∧op≤8
 ·obtain rfl|rfl|rfl|rfl|rfl|rfl|rfl|rfl:op=1∨op=2∨op=3∨op=4∨op=5∨op=6∨op=7∨op=8:=by omega
  all_goals rfl
 ·have e:jc op=(⟨false,false,false,false,false,false⟩,false):=by
   unfold jc;rw [if_neg (by omega),if_neg (by omega),if_neg (by omega),if_neg (by omega),if_neg (by omega),if_neg (by omega)]
  rw [e];simp only [Dj,Di,Dh,Jz,show¬ op=1 by omega,show¬ op=2 by omega,show¬ op=3 by omega,show¬ op=4 by omega,show¬ op=5 by omega,show¬ op=6 by omega,show¬ op=7 by omega,show¬ op=8 by omega,alP,alR]
def agm(n:Nat)(op:Int)(h:1≤op∧op≤8):zR n op=some ((jc op).1.name,(jc op).1.max,(jc op).1.a,(jc op).1.b,(jc op).1.body,(jc op).1.other):=by
 obtain rfl|rfl|rfl|rfl|rfl|rfl|rfl|rfl:op=1∨op=2∨op=3∨op=4∨op=5∨op=6∨op=7∨op=8:=by omega
 all_goals rfl
def agn(n:Nat)(op:Int)(h:¬ (1≤op∧op≤8)):zR n op=some (false,true,false,false,false,false):=by
 simp only [zR,EG,EF,Mv,show¬ op=1 by omega,show¬ op=2 by omega,show¬ op=3 by omega,show¬ op=4 by omega,show¬ op=5 by omega,show¬ op=6 by omega,show¬ op=7 by omega,alP,alR]
def xa(s:Stmt)(u:kb):Bool:=
 (!u.name && !decide (s.Name=[]))||(!u.a && !lW s.A)||(!u.b && !lW s.B)||(!u.max && !decide (s.Max=0))||(!u.body&&decide (0<s.Body.length))||(!u.other&&decide (0<s.bN.length))
def pR(s:Stmt):Bool:=if s.Op=6 then decide (1≤s.Max)&&decide (s.Max≤16)else if s.Op=8 then decide (0≤s.Max)&&decide (s.Max≤999)else true
def jr(s:Stmt)(d:Int):Int:=
 if(jc s.Op).2=false∨xa s (jc s.Op).1=true∨pR s=false then 1
 else if(jc s.Op).1.name=true∧gp s.Name=false then 7
 else if(jc s.Op).1.a=true∧gf s.A 1≠0 then gf s.A 1
 else if(jc s.Op).1.b=true∧gf s.B 1≠0 then gf s.B 1
 else if 12<d then 2 else 0
open Go Go.Ab Go.Proofs
def ago(n:Nat)(s:Stmt)(u:kb):Dg n s u=some (!xa s u&&pR s):=by
 have hm:(bif decide (s.Op=6)then some (bif decide (1≤s.Max)then decide (s.Max≤16)else false)else bif decide (s.Op=8)then some (bif decide (0≤s.Max)then decide (s.Max≤999)else false)else some true)=some (pR s):=by
  unfold pR;by_cases b2:s.Op=6
  ·simp only [b2,alO,alQ,al3,e8]
  ·by_cases dQ:s.Op=8
   ·simp only [dQ,show¬ (8:Int)=6 by omega,alO,alP,alQ,alR,al3,al4,e8]
   ·simp only [b2,dQ,alP,alR,al4]
 unfold Dg xa;rw [hm];simp only [WJ,lu,e8,eg,e7];generalize decide (s.Name=[])=x
 generalize lW s.A=y
 generalize lW s.B=z
 generalize decide (s.Max=0)=w
 generalize decide (0<s.Body.length)=p
 generalize decide (0<s.bN.length)=q
 generalize pR s=r
 obtain⟨nR,a,b,jh,lJ,ug⟩:=u;cases nR<;>cases x<;>cases a<;>cases y<;>cases b<;>cases z<;>simp only [alS,alT,Bool.and_true,Bool.and_false,Bool.true_and,Bool.false_and,al2,Bool.or_false,Bool.true_or,Bool.false_or,alQ,alR,aC]<;>(cases ((!jh && !w)||(!lJ&&p)||(!ug&&q))<;>simp_all)
def agp{n:Nat}(s:Stmt)(d:Int)(ec:db s.A≤n)(ci:db s.B≤n)(NX:db s.A≤140737488351232)(ki:db s.B≤140737488351232)(bz:s.Name.length≤140737488351232):Dm n s d=some (jr s d):=by
 unfold Dm Dl Dk jr;simp only [agl,aC,lu,ue,ago,A3 n s.Name bz,WH s.A ec NX,WH s.B ci ki];generalize (jc s.Op)=U
 obtain⟨u,agq⟩:=U;obtain⟨nR,a,b,jh,lJ,ug⟩:=u;simp only
 generalize xa s ⟨nR,a,b,jh,lJ,ug⟩=m
 generalize pR s=r
 cases agq
 ·simp
 ·cases m
  ·cases r
   ·simp
   ·generalize gp s.Name=x
    simp only [alS,alT,alQ,alR,aC,Bool.true_and,Bool.and_true,Bool.true_eq_false,Bool.false_eq_true,or_self,al4];cases nR
    ·simp only [alR,aC,Bool.false_eq_true,false_and,al4];cases a
     ·simp only [alR,Bool.false_eq_true,false_and,al4];cases b
      ·by_cases f_:12<d<;>simp [f_]
      ·by_cases hb:gf s.B 1=0<;>by_cases f_:12<d<;>simp [hb,f_]
     ·by_cases ha:gf s.A 1=0
      ·cases b
       ·by_cases f_:12<d<;>simp [ha,f_]
       ·by_cases hb:gf s.B 1=0<;>by_cases f_:12<d<;>simp [ha,hb,f_]
      ·simp [ha]
    ·cases x
     ·simp
     ·simp only [alQ,aC,alS,alR,Bool.true_eq_false,and_false,al4];cases a
      ·simp only [alR,Bool.false_eq_true,false_and,al4];cases b
       ·by_cases f_:12<d<;>simp [f_]
       ·by_cases hb:gf s.B 1=0<;>by_cases f_:12<d<;>simp [hb,f_]
      ·by_cases ha:gf s.A 1=0
       ·cases b
        ·by_cases f_:12<d<;>simp [ha,f_]
        ·by_cases hb:gf s.B 1=0<;>by_cases f_:12<d<;>simp [ha,hb,f_]
       ·simp [ha]
  ·simp
def agr(s:Stmt):((decide (s.Op=6)&&(decide (s.Max<1)||decide (16<s.Max)))||(decide (s.Op=8)&&(decide (s.Max<0)||decide (999<s.Max)))) = !pR s:=by
 unfold pR;by_cases b2:s.Op=6
 ·simp only [b2,al3,alO,Bool.true_and,show¬ (6:Int)=8 by omega,alP,Bool.false_and,Bool.or_false]
  by_cases Z:s.Max<1
  ·simp only [Z,show¬ 1≤s.Max by omega,alO,alP,Bool.true_or,Bool.false_and,alT]
  ·by_cases ae:16<s.Max
   ·simp only [Z,ae,show¬ s.Max≤16 by omega,alO,alP,al2,Bool.and_false,alT]
   ·simp only [Z,ae,show s.Max≤16 by omega,show 1≤s.Max by omega,alO,alP,Bool.or_self,Bool.and_self,alS]
 ·by_cases dQ:s.Op=8
  ·simp only [dQ,show¬ (8:Int)=6 by omega,al3,al4,alO,alP,Bool.true_and,Bool.false_and,Bool.false_or]
   by_cases Z:s.Max<0
   ·simp only [Z,show¬ 0≤s.Max by omega,alO,alP,Bool.true_or,Bool.false_and,alT]
   ·by_cases ae:999<s.Max
    ·simp only [Z,ae,show¬ s.Max≤999 by omega,alO,alP,al2,Bool.and_false,alT]
    ·simp only [Z,ae,show s.Max≤999 by omega,show 0≤s.Max by omega,alO,alP,Bool.or_self,Bool.and_self,alS]
  ·simp only [b2,dQ,al4,alP,Bool.false_and,Bool.or_self,alS]
def ags(a y b z pre P Q:Bool)(G:Bool→al'):
 (Option.bind (bif (!pre && !a)then some y else some default) λao=>Option.bind (bif (!(pre||(!a && !ao)) && !b)then some z else some default) λaE=>G ((((pre||(!a && !ao))||(!b && !aE))||P)||Q))=G ((((pre||(!a && !y))||(!b && !z))||P)||Q):=by
 cases pre<;>cases a<;>cases y<;>cases b<;>cases z<;>rfl
def agt{n:Nat}(s:Stmt)(d:Int)(hn:25<n)(ec:db s.A≤n)(ci:db s.B≤n)(NX:db s.A≤140737488351232)(ki:db s.B≤140737488351232)(bz:s.Name.length<n)(agu:s.Name.length≤140737488351232):EJ n s d=some (jr s d):=by
 unfold EJ EI EH jr;by_cases gM:1≤s.Op∧s.Op≤8
 ·have NY:(
   jc s.Op).2=true:=by
   have:s.Op=1∨s.Op=2∨s.Op=3∨s.Op=4∨s.Op=5∨s.Op=6∨s.Op=7∨s.Op=8:=by omega
   rcases this with e|e|e|e|e|e|e|e<;>rw [e]<;>rfl
  simp only [agm n s.Op gM,aC,lu,ue,WK,A2 s.Name bz hn (by omega),WI s.A ec NX,WI s.B ci ki,NY,show¬ s.Op<1 by omega,show¬ 8<s.Op by omega,alP,alR,e8,eg,Bool.or_self,Bool.false_or,agr,e7]
  generalize pR s=r
  unfold xa;generalize (jc s.Op).1=u
  generalize decide (s.Name=[])=fj
  generalize lW s.A=y
  generalize lW s.B=z
  generalize decide (s.Max=0)=w
  generalize decide (0<s.Body.length)=p
  generalize decide (0<s.bN.length)=q
  generalize gp s.Name=x
  obtain⟨nR,a,b,jh,lJ,ug⟩:=u;simp only
  have hm:((!nR && !fj)||(!a && !y)||(!b && !z)||(!jh && !w)||(!lJ&&p)||(!ug&&q))=((((((!nR && !fj)||(!jh && !w))||(!a && !y))||(!b && !z))||(!lJ&&p))||(!ug&&q)):=by
   generalize (!nR && !fj)=c1
   generalize (!jh && !w)=c2
   generalize (!a && !y)=c3
   generalize (!b && !z)=c4
   cases c1<;>cases c2<;>cases c3<;>cases c4<;>rfl
  rw [hm];clear hm;generalize ((!nR && !fj)||(!jh && !w))=pre
  generalize (!lJ&&p)=c1
  generalize (!ug&&q)=c2
  refine(ags a y b z pre c1 c2 (λc=>bif c then some 1 else bif !r then some 1 else Option.bind (bif nR then some x else some default) λbL=>bif (nR && !bL)then some 7 else
   bif a then(bif !decide (gf s.A 1=0)then some (gf s.A 1)else bif b then(bif !decide (gf s.B 1=0)then some (gf s.B 1)else bif decide (12<d)then some 2 else some 0)else bif decide (12<d)then some 2 else some 0)
   else bif b then(bif !decide (gf s.B 1=0)then some (gf s.B 1)else bif decide (12<d)then some 2 else some 0)else bif decide (12<d)then some 2 else some 0)).trans ?_
  generalize ((((pre||(!a && !y))||(!b && !z))||c1)||c2)=m
  cases m
  ·cases r
   ·simp
   ·simp only [alS,alT,alQ,alR,aC,Bool.true_and,Bool.and_true,Bool.true_eq_false,Bool.false_eq_true,or_self,al4];cases nR
    ·simp only [alR,aC,Bool.false_eq_true,false_and,al4,Bool.false_and];cases a
     ·simp only [alR,Bool.false_eq_true,false_and,al4];cases b
      ·by_cases f_:12<d<;>simp [f_]
      ·by_cases hb:gf s.B 1=0<;>by_cases f_:12<d<;>simp [hb,f_]
     ·by_cases ha:gf s.A 1=0
      ·cases b
       ·by_cases f_:12<d<;>simp [ha,f_]
       ·by_cases hb:gf s.B 1=0<;>by_cases f_:12<d<;>simp [ha,hb,f_]
      ·simp [ha]
    ·cases x
     ·simp
     ·simp only [alQ,aC,alS,alR,Bool.true_eq_false,and_false,al4,Bool.and_false];cases a
      ·simp only [alR,Bool.false_eq_true,false_and,al4];cases b
       ·by_cases f_:12<d<;>simp [f_]
       ·by_cases hb:gf s.B 1=0<;>by_cases f_:12<d<;>simp [hb,f_]
      ·by_cases ha:gf s.A 1=0
       ·cases b
        ·by_cases f_:12<d<;>simp [ha,f_]
        ·by_cases hb:gf s.B 1=0<;>by_cases f_:12<d<;>simp [ha,hb,f_]
       ·simp [ha]
  ·simp
 ·have NY:(jc s.Op).2=false:=by
   unfold jc;rw [if_neg (by omega),if_neg (by omega),if_neg (by omega),if_neg (by omega),if_neg (by omega),if_neg (by omega)]
  have hb:(decide (s.Op<1)||decide (8<s.Op))=true:=by
   by_cases Z:s.Op<1
   ·rw [decide_eq_true Z];rfl
   ·rw [decide_eq_true (show 8<s.Op by omega)];simp
  simp only [agn n s.Op gM,aC,NY,hb,eg,e8,Bool.true_or,alS,Bool.false_and,alR,alQ,true_or,al3]
open Go Go.Ab Go.Proofs
def rU(before:List Param):List Param→Int
 |[]=>0
 |x::l=>if gp x.Name=false then 7 else if x.fy<1∨3<x.fy then 10 else if(before.any λy=>decide (y.Name=x.Name))=true then 8 else rU (before++[x]) l
def agv(n:Nat)(s:List Param)(b:Param)(hs:s.length≤4611686018427387904):∀m i,s.length<i+m→i≤s.length→
 ∃r,vE n s b m (i:Int)=some r∧(decide (0≤r)=(s.drop i).any λy=>decide (y.Name=b.Name)):=by
 intro m;induction m with
 |zero=>intro i h ae;omega
 |succ m a7=>
  intro i hm hi;simp only [vE,Jp,Jo,Jn];by_cases h:i<s.length
  ·obtain⟨r,Z,ae⟩:=a7 (i+1) (by omega) (by omega)
   (rw [gR s i default h,ck (by omega)];simp only [alW];rw [Z])
   generalize s.getD i default=c
   simp only [h,b6 h,alX,alO,alQ,a_,aC,List.any_cons];by_cases hc:c.Name=b.Name
   ·simp only [hc,alO,alQ,Bool.true_or];exact⟨_,rfl,decide_eq_true (by omega)⟩
   ·simp only [hc,alP,alR,Bool.false_or];exact⟨r,rfl,ae⟩
  ·rw [iO s i h];simp only [h,alX,alP,alR];exact⟨-1,rfl,rfl⟩
def agw{n:Nat}(s:List Param)(b:Param)(hs:s.length≤4611686018427387904)(hn:s.length<n):Dc n s b=some (s.any λy=>decide (y.Name=b.Name)):=by
 unfold Dc Jq;obtain⟨r,Z,ae⟩:=agv n s b hs n 0 (by omega) (by omega)
 rw [show vE n s b n 0=_ from Z,aC,ae,List.drop_zero]
def uh{α:Type}[Inhabited α](l:List α)(i:Nat)(h:i<l.length):l.take (i+1)=l.take i++[l.getD i default]:=by
 rw [List.take_add,gR l i default h,List.take_succ_cons,List.take_zero]
def NZ:∀(l:List Param) (i:Nat),i<l.length→(l.getD i default).Name.length<hv l
 |[],i,h=>by simp at h
 |x::l,0,h=>by simp only [hv,List.getD_cons_zero];omega
 |x::l,i+1,h=>by have:=NZ l i (by simpa using h);simp only [hv,List.getD_cons_succ];omega
def agx(n:Nat)(l:List Param)(ba:hv l<n)(q3:hv l≤140737488351232):∀m i,l.length<i+m→i≤l.length→vF n l m (i:Int)=some (rU (l.take i) (l.drop i)):=by
 have hlen:=A5 l;intro m;induction m with
 |zero=>intro i h ae;omega
 |succ m a7=>
  intro i hm hi;simp only [vF,Js,Jr];by_cases h:i<l.length
  ·have hg:=NZ l i h
   (rw [gR l i default h,ck (by omega)];simp only [alW];rw [a7 (i+1) (by omega) (by omega),uh l i h])
   generalize l.getD i default=c at hg
   rw [A3 n c.Name (by omega),agw (l.take i) c (by simp;omega) (by simp;omega)]
   simp only [h,b6 h,alX,alO,alQ,a_,aC,Wr hi,eg,rU];cases gp c.Name
   ·simp
   ·by_cases bS:c.fy<1∨3<c.fy
    ·have:(decide (c.fy<1)||decide (3<c.fy))=true:=by rcases bS with bS|bS<;>rw [decide_eq_true bS]<;>simp
     simp [this,bS]
    ·have:(decide (c.fy<1)||decide (3<c.fy))=false:=by rw [decide_eq_false (λe=>bS (Or.inl e)),decide_eq_false (λe=>bS (Or.inr e))];rfl
     rw [this];simp only [alS,alR,Bool.true_eq_false,al4,bS];cases ((l.take i).any λy=>decide (y.Name=c.Name))<;>rfl
  ·rw [iO l i h];simp only [h,alX,alP,alR];rfl
def agy(n:Nat)(aj:Int→al')(l:List Param)(i:Nat)(h:i<l.length)(hs:l.length≤4611686018427387904):∀m k,i<k+m→k≤i→
 wn n aj l (i:Int) m (k:Int)=if(((l.take i).drop k).any λy=>decide (y.Name=(l.getD i default).Name))=true then some 8 else aj ((i+1:Nat):Int):=by
 intro m;induction m with
 |zero=>intro k Z ae;omega
 |succ m a7=>
  intro k hm hk;simp only [wn,Mn,Mm];by_cases Cp:k<i
  ·have e:(l.take i).drop k=l.getD k default::(l.take i).drop (k+1):=by
    rw [gR (l.take i) k default (by simp;omega)]
    congr 1
    simp [List.getD,Cp]
   (rw [e,ck (by omega),a7 (k+1) (by omega) (by omega)];simp only [alW])
   generalize l.getD k default=c
   simp only [Cp,b6 h,b6 (show k<l.length by omega),alX,alO,alQ,a_,List.any_cons]
   by_cases hc:c.Name=(l.getD i default).Name
   ·simp only [hc,alO,alQ,Bool.true_or,al3]
   ·simp only [hc,alP,alR,Bool.false_or]
  ·obtain rfl:k=i:=by omega
   rw [iO (l.take k) k (by simp;omega),ck (by omega)]
   simp only [alX,Nat.lt_irrefl,alP,alR,List.any_nil,Bool.false_eq_true,al4]
def agz(n:Nat)(l:List Param)(hn:25<n)(ba:hv l<n)(q3:hv l≤140737488351232):∀m i,l.length<i+m→i≤l.length→rG n l m (i:Int)=some (rU (l.take i) (l.drop i)):=by
 have hlen:=A5 l;intro m;induction m with
 |zero=>intro i h ae;omega
 |succ m a7=>
  intro i hm hi;simp only [rG,Mo,Ml];by_cases h:i<l.length
  ·have hg:=NZ l i h;have aK:=agy n (rG n l m) l i h (by omega) n 0 (by omega) (by omega)
   rw [show wn n (rG n l m) l (i:Int) n 0=_ from aK,List.drop_zero]
   (rw [gR l i default h];simp only [alW];rw [a7 (i+1) (by omega) (by omega),uh l i h])
   generalize l.getD i default=c at hg
   rw [A2 c.Name (by omega) hn (by omega)]
   simp only [h,b6 h,alX,alO,alQ,a_,aC,al2,eg,rU];cases gp c.Name
   ·simp
   ·by_cases bS:c.fy<1∨3<c.fy
    ·have:(decide (c.fy<1)||decide (3<c.fy))=true:=by rcases bS with bS|bS<;>rw [decide_eq_true bS]<;>simp
     simp [this,bS]
    ·have:(decide (c.fy<1)||decide (3<c.fy))=false:=by rw [decide_eq_false (λe=>bS (Or.inl e)),decide_eq_false (λe=>bS (Or.inr e))];rfl
     rw [this];simp only [alS,alR,Bool.true_eq_false,al4,bS];cases ((l.take i).any λy=>decide (y.Name=c.Name))<;>rfl
  ·rw [iO l i h];simp only [h,alX,alP,alR];rfl
def oO(l:List Param):Int:=if 6<l.length then 2 else rU [] l
def agA{n:Nat}(l:List Param)(ba:hv l<n)(q3:hv l≤140737488351232):Dd n l=some (oO l):=by
 have hlen:=A5 l;unfold Dd oO;have:=agx n l ba q3 n 0 (by omega) (by omega)
 rw [show vF n l n 0=_ from this]
 simp only [e7];by_cases h:6<l.length
 ·simp only [h,alO,alQ,al3]
 ·simp only [h,alP,alR,al4,List.take_zero,List.drop_zero]
def agB{n:Nat}(l:List Param)(hn:25<n)(ba:hv l<n)(q3:hv l≤140737488351232):EC n l=some (oO l):=by
 have hlen:=A5 l;unfold EC oO;have:=agz n l hn ba q3 n 0 (by omega) (by omega)
 rw [show rG n l n 0=_ from this]
 simp only [e7];by_cases h:6<l.length
 ·simp only [h,alO,alQ,al3]
 ·simp only [h,alP,alR,al4,List.take_zero,List.drop_zero]
open Go Go.Ab Go.Proofs
mutual
def qJ:Expr→Nat→Nat
 |⟨_,_,_,au⟩,k=>if k=0 then 0 else oP au (k-1)
def oP:List Expr→Nat→Nat
 |[],k=>k
 |x::l,k=>oP l (qJ x k)
end
def WL(e:Expr)(k:Nat):qJ e k=if k=0 then 0 else oP e.au (k-1):=by cases e;rfl
mutual
def A6:∀(e:Expr) (k:Nat),qJ e k≤k
 |⟨_,_,_,au⟩,k=>by
  have:=N0 au (k-1)
  simp only [qJ];split<;>omega
def N0:∀(l:List Expr) (k:Nat),oP l k≤k
 |[],k=>Nat.le_refl _
 |x::l,k=>by
  have Z:=A6 x k;have ae:=N0 l (qJ x k);simp only [oP];omega
end
def jd(e:Expr)(k:Nat):Nat:=if k=0∨lW e=true then k else qJ e k
def Gc(e:Expr)(k:Nat):jd e k≤k:=by unfold jd;split;exact Nat.le_refl _;exact A6 e k
mutual
def oQ:Stmt→Int→Nat×Int→Nat×Int
 |⟨Op,Name,Max,A,B,Body,bN⟩,d,r=>
  gX bN (al7 (d+1)) (gX Body (al7 (d+1)) (jd B (jd A (r.1-1)),if r.2=0 then jr ⟨Op,Name,Max,A,B,Body,bN⟩ d else r.2))
def gX:List Stmt→Int→Nat×Int→Nat×Int
 |[],d,r=>r
 |s::l,d,r=>if r.1=0 then r else gX l d (oQ s d r)
end
def WM(s:Stmt)(d:Int)(r:Nat×Int):oQ s d r=gX s.bN (al7 (d+1)) (gX s.Body (al7 (d+1)) (jd s.B (jd s.A (r.1-1)),if r.2=0 then jr s d else r.2)):=by cases s;rfl
mutual
def agC:∀(s:Stmt) (d:Int) (r:Nat×Int),(oQ s d r).1≤r.1
 |⟨Op,Name,Max,A,B,Body,bN⟩,d,r=>by
  have Z:=Gc A (r.1-1);have ae:=Gc B (jd A (r.1-1));have ar:=rV Body (al7 (d+1)) (jd B (jd A (r.1-1)),if r.2=0 then jr ⟨Op,Name,Max,A,B,Body,bN⟩ d else r.2)
  have aK:=rV bN (al7 (d+1)) (gX Body (al7 (d+1)) (jd B (jd A (r.1-1)),if r.2=0 then jr ⟨Op,Name,Max,A,B,Body,bN⟩ d else r.2))
  simp only [oQ]at *;omega
def rV:∀(l:List Stmt) (d:Int) (r:Nat×Int),(gX l d r).1≤r.1
 |[],d,r=>Nat.le_refl _
 |s::l,d,r=>by
  have Z:=agC s d r;have ae:=rV l d (oQ s d r);simp only [gX];split
  ·exact Nat.le_refl _
  ·omega
end
def agD:∀(n:Nat) (e:Expr) (k:Nat) (b:Int),db e≤n→db e≤140737488351232→k≤1000→vJ n e (k:Int) b=some ((qJ e k:Nat):Int):=by
 intro n;induction n with
 |zero=>intro e k b h;rw [qH]at h;omega
 |succ n a7=>
  intro e k b h af hk;have uf:=qH e;have Gb:=F9 e.au;simp only [vJ,JC,jq];rw [WL];by_cases h0:k=0
  ·rw [if_pos h0];simp only [h0,alO,alQ]
  ·rw [if_neg h0];simp only [h0,alP,alR]
   have ih:∀m i k,e.au.length<i+m→i≤e.au.length→k≤1000→y2 n (vJ n) e b m ((k:Nat):Int) (i:Int)=some ((oP (e.au.drop i) k:Nat):Int):=by
    intro m;induction m with
    |zero=>intro i k Z ae;omega
    |succ m na=>
     intro i k Z ae hk;simp only [y2,JB];by_cases hi:i<e.au.length
     ·have hg:=F' e.au i hi;have hle:=A6 (e.au.getD i default) k
      (rw [gR e.au i default hi,ck (by omega)];simp only [alW];rw [a7 _ k b (by omega) (by omega) hk])
      simp only [hi,b6 hi,alX,alO,alQ,a_,aC,oP];exact na (i+1) _ (by omega) (by omega) (by omega)
     ·rw [iO e.au i hi];simp only [hi,alX,alP,alR,oP]
   rw [show al7 ((k:Int)-1)=((k-1:Nat):Int)by rw [wr]<;>omega]
   exact ih n 0 (k-1) (by omega) (by omega) (by omega)
def WN{n:Nat}(e:Expr)(k:Nat)(b:Int)(h:db e≤n)(af:db e≤140737488351232)(hk:k≤1000):y3 n e (k:Int) b=some ((jd e k:Nat):Int):=by
 unfold y3 jd JA;simp only [WJ,jq,agD n e k b h af hk,aC];by_cases h0:k=0
 ·simp [h0]
 ·cases lW e<;>simp [h0]
open Go Go.Ab Go.Proofs
def N1:∀(l:List Stmt) (i:Nat),i<l.length→fst (l.getD i default)<eb l
 |[],i,h=>by simp at h
 |x::l,0,h=>by simp only [eb,List.getD_cons_zero];omega
 |x::l,i+1,h=>by have:=N1 l i (by simpa using h);simp only [eb,List.getD_cons_succ];omega
def WO{α β:Type}(x:α×β):(x.1,x.2)=x:=rfl
def agE:∀(n:Nat) (l:List Stmt) (d:Int) (k:Nat) (e:Int),eb l+2≤n→eb l≤140737488351232→k≤1000→
 td n l d (k:Int) e=some ((((gX l d (k,e)).1:Nat):Int),(gX l d (k,e)).2):=by
 intro n;induction n with
 |zero=>intro l d k e h;omega
 |succ n a7=>
  intro l d k e h af hk;have Gb:=A4 l;simp only [td,JE]
  have ih:∀m i k e,l.length<i+m→i≤l.length→k≤1000→y4 n (td n) d l m ((k:Nat):Int) e (i:Int)=some ((((gX (l.drop i) d (k,e)).1:Nat):Int),(gX (l.drop i) d (k,e)).2):=by
   intro m;induction m with
   |zero=>intro i k e Z ae;omega
   |succ m na=>
    intro i k e Z ae hk;simp only [y4,JD,lu,ue];by_cases hi:i<l.length
    ·have hg:=N1 l i hi
     (rw [gR l i default hi];simp only [alW])
     generalize l.getD i default=s at hg
     have mN:=fst_eq s;rw [ck (by omega)]
     simp only [hi,b6 hi,alX,alO,alQ,a_,jq,gX];by_cases h0:k=0
     ·simp only [h0,alO,alQ,al3]
     ·simp only [h0,alP,alR,al4]
      have ay:Dn n s d e=some (if e=0 then jr s d else e):=by
       unfold Dn;simp only [lu,ue,agp s d (show db s.A≤n by omega) (show db s.B≤n by omega) (by omega) (by omega) (by omega),aC]
       by_cases he:e=0
       ·simp only [he,alO,alQ,al3]
       ·simp only [he,alP,alR,al4]
      rw [ay,aC,show al7 ((k:Int)-1)=((k-1:Nat):Int)by rw [wr]<;>omega]
      have fk:=Gc s.A (k-1);have eC:=Gc s.B (jd s.A (k-1));rw [WN s.A (k-1) _ (by omega) (by omega) (by omega),aC,WN s.B _ _ (by omega) (by omega) (by omega),aC]
      have HT:=rV s.Body (al7 (d+1)) (jd s.B (jd s.A (k-1)),if e=0 then jr s d else e)
      rw [a7 s.Body _ _ _ (by omega) (by omega) (by omega),aC]
      simp only [WO]at HT ⊢;have alg:=rV s.bN (al7 (d+1)) (gX s.Body (al7 (d+1)) (jd s.B (jd s.A (k-1)),if e=0 then jr s d else e))
      rw [a7 s.bN _ _ _ (by omega) (by omega) (by omega),aC]
      simp only [WO];rw [na (i+1) _ _ (by omega) (by omega) (by omega),WM]
    ·rw [iO l i hi];simp only [hi,alX,alP,alR,gX]
  exact ih n 0 k e (by omega) (by omega) hk
open Go Go.Ab Go.Proofs
abbrev kj:=cn
def hH:Int→List kj→Int
 |e,[]=>e
 |e,v::l=>hH (if e=0∧v.ow=true then jr v.Stmt v.yI else e) l
def WP:∀(l m:List kj) (e:Int),hH e (l++m)=hH (hH e l) m
 |[],m,e=>rfl
 |v::l,m,e=>by rw [List.cons_append,hH,hH,WP l m]
def N2:∀(l:List kj) (e:Int),(∀v,v∈l→v.ow=false)→hH e l=e
 |[],e,h=>rfl
 |v::l,e,h=>by
  rw [hH,h v (List.mem_cons_self),N2 l _ λw hw=>h w (List.mem_cons_of_mem _ hw)]
  simp
def WQ{k:Nat}(h:k≤100000):room k 272=true:=by simp [room];omega
def agF:∀(n:Nat) (e:Expr) (out:List kj) (root:Bool),db e≤n→db e≤140737488351232→out.length≤401→
 ∃ext,qz n out e root=some (out++ext)∧(out++ext).length≤401∧401-(out++ext).length=qJ e (401-out.length)∧∀v,v∈ext→v.ow=false:=by
 intro n;induction n with
 |zero=>intro e out root h;rw [qH]at h;omega
 |succ n a7=>
  intro e out root h af ax;have uf:=qH e;have Gb:=F9 e.au;simp only [qz,Mf,e7];rw [WL];by_cases h0:400<out.length
  ·simp only [h0,alO,alQ];rw [if_pos (by omega)]
   exact⟨[],by simp,by simpa using ax,by simp;omega,λv ay=>by cases ay⟩
  ·simp only [h0,alP,alR,alU,alV,WQ (show out.length+(0+1)≤100000 by omega),a_]
   rw [if_neg (by omega)]
   have ih:∀m i (out:List kj),e.au.length<i+m→i≤e.au.length→out.length≤401→
    ∃ext,zM n (qz n) e m out (i:Int)=some (out++ext)∧(out++ext).length≤401∧401-(out++ext).length=oP (e.au.drop i) (401-out.length)∧∀v,v∈ext→v.ow=false:=by
    intro m;induction m with
    |zero=>intro i out Z ae;omega
    |succ m na=>
     intro i out Z ae ax;simp only [zM,Me,Md];by_cases hi:i<e.au.length
     ·have hg:=F' e.au i hi
      (rw [gR e.au i default hi];simp only [alW])
      generalize e.au.getD i default=a at hg
      rw [ck (by omega)]
      simp only [hi,b6 hi,alX,alO,alQ,a_,jb,oP];by_cases A7:out.length≤400
      ·simp only [A7,alO,alQ];obtain⟨fc,e1,e2,e3,hK⟩:=a7 a out false (by omega) (by omega) ax
       obtain⟨gu,f1,f2,f3,f4⟩:=na (i+1) (out++fc) (by omega) (by omega) e2
       rw [e1,aC,f1];refine⟨fc++gu,by rw [List.append_assoc],by rw [←List.append_assoc];exact f2,by rw [←List.append_assoc,f3,e3],λv ay=>?_⟩
       rcases List.mem_append.1 ay with ay|ay
       ·exact hK v ay
       ·exact f4 v ay
      ·simp only [A7,alP,alR];have dE:401-out.length=0:=by omega
       have alh:=A6 a 0;have vh:=N0 (e.au.drop (i+1)) (qJ a 0);exact⟨[],by simp,by simpa using ax,by rw [dE];simp;omega,λv ay=>by cases ay⟩
     ·rw [iO e.au i hi];simp only [hi,alX,alP,alR,oP];exact⟨[],by simp,by simpa using ax,by simp,λv ay=>by cases ay⟩
   obtain⟨x,e1,e2,e3,hK⟩:=ih n 0 (out++[⟨false,⟨0,[],0,⟨0,0,[],[]⟩,⟨0,0,[],[]⟩,[],[]⟩,0,e,root⟩]) (by omega) (by omega) (by simp;omega)
   refine⟨⟨false,⟨0,[],0,⟨0,0,[],[]⟩,⟨0,0,[],[]⟩,[],[]⟩,0,e,root⟩::x,?_,?_,?_,?_⟩
   ·exact e1.trans (by simp)
   ·simpa using e2
   ·have:401-(out++[(⟨false,⟨0,[],0,⟨0,0,[],[]⟩,⟨0,0,[],[]⟩,[],[]⟩,0,e,root⟩:kj)]).length=401-out.length-1:=by simp;omega
    rw [this,List.drop_zero]at e3;simpa using e3
   ·intro v ay;rcases List.mem_cons.1 ay with rfl|ay
    ·rfl
    ·exact hK v ay
open Go Go.Ab Go.Proofs
def WR{α:Type}{n:Nat}(e:Expr)(out:List kj)(G:List kj→Option α)(h:db e≤n)(af:db e≤140737488351232)(ax:out.length≤401):
 ∃ext,(Option.bind (qy n e) λr=>bif !r then Option.bind (qz n out e true) G else G out)=G (out++ext)∧(out++ext).length≤401∧401-(out++ext).length=jd e (401-out.length)∧∀v,v∈ext→v.ow=false:=by
 rw [WK,aC];unfold jd;cases lM:lW e
 ·obtain⟨x,e1,e2,e3,hK⟩:=agF n e out true h af ax;refine⟨x,?_,e2,?_,hK⟩
  ·rw [e1];rfl
  ·rw [e3];by_cases h0:401-out.length=0
   ·rw [if_pos (Or.inl h0),h0];have:=A6 e 0
    omega
   ·rw [if_neg (by simp [h0])]
 ·refine⟨[],by simp,by simpa using ax,?_,λv ay=>by cases ay⟩
  rw [if_pos (Or.inr rfl)];simp
def agG:∀(n:Nat) (l:List Stmt) (d:Int) (out:List kj) (e:Int),eb l+2≤n→eb l≤140737488351232→out.length≤401→
 ∃ext,lT n out l d=some (out++ext)∧(out++ext).length≤401∧(401-(out++ext).length,hH e ext)=gX l d (401-out.length,e)∧∀v,v∈ext→v.ow=true→fst v.Stmt<eb l:=by
 intro n;induction n with
 |zero=>intro l d out e h;omega
 |succ n a7=>
  intro l d out e h af ax;have Gb:=A4 l;simp only [lT,Mj]
  have ih:∀m i (out:List kj) (e:Int),l.length<i+m→i≤l.length→out.length≤401→
   ∃ext,rF n (lT n) l d m out (i:Int)=some (out++ext)∧(out++ext).length≤401∧(401-(out++ext).length,hH e ext)=gX (l.drop i) d (401-out.length,e)∧∀v,v∈ext→v.ow=true→fst v.Stmt<eb l:=by
   intro m;induction m with
   |zero=>intro i out e Z ae;omega
   |succ m na=>
    intro i out e Z ae ax;simp only [rF,Mi,Mg,EB,EA,Mh,lu,ue];by_cases hi:i<l.length
    ·have hg:=N1 l i hi
     (rw [gR l i default hi];simp only [alW])
     generalize l.getD i default=s at hg
     have mN:=fst_eq s;rw [ck (by omega)]
     simp only [hi,b6 hi,alX,alO,alQ,a_,jb,gX];by_cases A7:out.length≤400
     ·rw [if_neg (by omega)]
      simp only [A7,alO,alQ,alU,alV,WQ (show out.length+(0+1)≤100000 by omega),a_]
      obtain⟨fc,aY,a2,a3,a4⟩:=WR (n:=n) s.A (out++[(⟨true,s,d,⟨0,0,[],[]⟩,false⟩:kj)]) (λv28=>Option.bind (qy n s.B) λhF=>bif !hF then Option.bind (qz n v28 s.B true) λjo=>
       Option.bind (lT n jo s.Body (al7 (d+1))) λiM=>Option.bind (lT n iM s.bN (al7 (d+1))) λm5=>rF n (lT n) l d m m5 ((i+1:Nat):Int)
       else Option.bind (lT n v28 s.Body (al7 (d+1))) λiM=>Option.bind (lT n iM s.bN (al7 (d+1))) λm5=>rF n (lT n) l d m m5 ((i+1:Nat):Int)) (by omega) (by omega) (by simp;omega)
      rw [aY];obtain⟨gu,cS,hz,A8,Gd⟩:=WR (n:=n) s.B (out++[(⟨true,s,d,⟨0,0,[],[]⟩,false⟩:kj)]++fc) (λv=>Option.bind (lT n v s.Body (al7 (d+1))) λiM=>Option.bind (lT n iM s.bN (al7 (d+1))) λm5=>rF n (lT n) l d m m5 ((i+1:Nat):Int)) (by omega) (by omega) a2
      rw [cS];obtain⟨k1,c1,c2,c3,c4⟩:=a7 s.Body (al7 (d+1)) _ (if e=0 then jr s d else e) (by omega) (by omega) hz
      rw [c1,aC];obtain⟨e9,d1,d2,d3,d4⟩:=a7 s.bN (al7 (d+1)) _ (hH (if e=0 then jr s d else e) k1) (by omega) (by omega) c2
      rw [d1,aC];obtain⟨kf,f1,f2,f3,f4⟩:=na (i+1) _ (hH (hH (if e=0 then jr s d else e) k1) e9) (by omega) (by omega) d2
      rw [f1];have RN:401-(out++[(⟨true,s,d,⟨0,0,[],[]⟩,false⟩:kj)]).length=401-out.length-1:=by simp;omega
      refine⟨(⟨true,s,d,⟨0,0,[],[]⟩,false⟩:kj)::(fc++(gu++(k1++(e9++kf)))),?_,?_,?_,?_⟩
      ·simp
      ·simpa using f2
      ·have e1:hH e ((⟨true,s,d,⟨0,0,[],[]⟩,false⟩:kj)::(fc++(gu++(k1++(e9++kf)))))=hH (hH (hH (if e=0 then jr s d else e) k1) e9) kf:=by
        simp only [hH,and_true,WP];rw [N2 fc _ a4,N2 gu _ Gd]
       have e2:(out++(⟨true,s,d,⟨0,0,[],[]⟩,false⟩:kj)::(fc++(gu++(k1++(e9++kf))))).length=(out++[(⟨true,s,d,⟨0,0,[],[]⟩,false⟩:kj)]++fc++gu++k1++e9++kf).length:=by simp
       rw [e1,e2,f3]
       congr 1
       rw [WM];simp only
       rw [d3,c3,A8,a3,RN]
      ·intro v ay dH;simp only [List.mem_cons,List.mem_append]at ay;rcases ay with rfl|ay|ay|ay|ay|ay
       ·exact hg
       ·rw [a4 v ay]at dH;cases dH
       ·rw [Gd v ay]at dH;cases dH
       ·have:=c4 v ay dH;omega
       ·have:=d4 v ay dH;omega
       ·exact f4 v ay dH
     ·rw [if_pos (by omega)]
      simp only [A7,alP,alR];exact⟨[],by simp,by simpa using ax,by simp [hH],λv ay=>by cases ay⟩
    ·rw [iO l i hi];simp only [hi,alX,alP,alR,gX];exact⟨[],by simp,by simpa using ax,by simp [hH],λv ay=>by cases ay⟩
  exact ih n 0 out e (by omega) (by omega) ax
open Go Go.Ab Go.Proofs
def nb(p:be):Int:=
 if gp p.Name=false then 7 else if oO p.Params≠0 then oO p.Params
 else if(gX p.Body 1 (401,0)).2=0∧(gX p.Body 1 (401,0)).1=0 then 2 else(gX p.Body 1 (401,0)).2
def WS{n:Nat}(p:be)(bz:p.Name.length≤140737488351232)(j':hv p.Params<n)(N3:hv p.Params≤140737488351232)(ci:eb p.Body+2≤n)(ki:eb p.Body≤140737488351232):y5 n p=some (nb p):=by
 unfold y5 JF nb;rw [A3 n p.Name bz,agA p.Params j' N3];simp only [aC];cases gp p.Name
 ·rfl
 ·simp only [alS,alR,Bool.true_eq_false,al4];by_cases h:oO p.Params=0
  ·simp only [h,alO,alS,alR,ne_eq,not_true,al4];have:=agE n p.Body 1 401 0 ci ki (by omega)
   rw [show td n p.Body 1 401 0=_ from this]
   have hle:=rV p.Body 1 (401,0);simp only at hle
   generalize gX p.Body 1 (401,0)=r at hle
   obtain⟨k,e⟩:=r;simp only [aC];simp only at hle
   rw [show al7 (401-((k:Nat):Int))=401-((k:Nat):Int)by rw [wr]<;>omega]
   by_cases he:e=0
   ·by_cases hk:k=0
    ·subst hk;subst he;rfl
    ·simp only [he,hk,alO,alQ,and_false,al4,show¬ (400:Int)<401-((k:Nat):Int)by omega,alP,alR]
   ·simp only [he,alP,alR,false_and,al4]
  ·simp only [h,alP,alT,alQ,ne_eq,not_false_iff,al3]
def WT:∀(l:List kj) (e:Int),e≠0→hH e l=e
 |[],e,h=>rfl
 |v::l,e,h=>by rw [hH,if_neg (λx=>h x.1),WT l e h]
def agH(n:Nat)(l:List kj)(hn:25<n)(B:Nat)(ci:B≤n)(ki:B≤140737488351232)(af:l.length≤401)(hs:∀v,v∈l→v.ow=true→fst v.Stmt<B):∀m i,l.length<i+m→i≤l.length→
 wq n l m (i:Int)=some (if hH 0 (l.drop i)≠0 then hH 0 (l.drop i)else if 400<l.length then 2 else 0):=by
 intro m;induction m with
 |zero=>intro i h ae;omega
 |succ m a7=>
  intro i hm hi;simp only [wq,Mx,Mw,EK];by_cases h:i<l.length
  ·have ay:l.getD i default∈l:=by
    have e:l.getD i default=l[i]:=by simp [List.getD,h]
    rw [e];exact List.getElem_mem h
   have dH:=hs _ ay
   (rw [gR l i default h,ck (by omega)];simp only [alW];rw [a7 (i+1) (by omega) (by omega)])
   generalize l.getD i default=v at dH
   simp only [h,b6 h,alX,alO,alQ,a_,hH];cases aB:v.ow
   ·simp only [alR,Bool.false_eq_true,and_false,al4]
   ·have ba:=dH aB;have uf:=fst_eq v.Stmt;rw [agt v.Stmt v.yI hn (by omega) (by omega) (by omega) (by omega) (by omega) (by omega)]
    simp only [alQ,aC,and_self,al3];by_cases he:jr v.Stmt v.yI=0
    ·simp only [he,alO,alS,alR]
    ·simp only [he,alP,alT,alQ];rw [WT _ _ he,if_pos he]
  ·rw [iO l i h];simp only [h,alX,alP,alR,hH,e7,ne_eq,not_true,al4];by_cases aK:400<l.length
   ·simp only [aK,alO,alQ,al3]
   ·simp only [aK,alP,alR,al4]
def WU{n:Nat}(p:be)(hn:500<n)(bz:p.Name.length<n)(agu:p.Name.length≤140737488351232)(j':hv p.Params<n)(N3:hv p.Params≤140737488351232)(ci:eb p.Body+2≤n)(ki:eb p.Body≤140737488351232):EL n p=some (nb p):=by
 unfold EL Mk nb;rw [A2 p.Name bz (by omega) (by omega),agB p.Params (by omega) j' N3]
 simp only [aC];cases gp p.Name
 ·rfl
 ·simp only [alS,alR,Bool.true_eq_false,al4];by_cases h:oO p.Params=0
  ·simp only [h,alO,alS,alR,ne_eq,not_true,al4];obtain⟨ext,e1,e2,e3,hK⟩:=agG n p.Body 1 [] 0 ci ki (by simp)
   rw [List.nil_append]at e1 e2 e3;rw [e1];simp only [aC];have:=agH n ext (by omega) (eb p.Body) (by omega) ki e2 hK n 0 (by omega) (by omega)
   rw [show wq n ext n 0=_ from this,List.drop_zero,alV]at *
   rw [show 401-0=401 from rfl]at e3
   rw [←e3];simp only
   by_cases he:hH 0 ext=0
   ·simp only [he,ne_eq,not_true,al4,true_and];by_cases aK:400<ext.length
    ·rw [if_pos aK,if_pos (by omega)]
    ·rw [if_neg aK,if_neg (by omega)]
   ·rw [if_pos he,if_neg (λx=>he x.1)]
  ·simp only [h,alP,alT,alQ,ne_eq,not_false_iff,al3]
open Go Go.Ab Go.Proofs
open Go Go.Ab Go.Proofs
def iB(t:Token):Token:=⟨t.Kind,t.Text,t.N,0⟩
open Go Go.Ab Go.Proofs
def agI{w:al5}:lP w=w.length→w.all mf=true:=by
 induction w with
 |nil=>intro;rfl
 |cons c w a7=>
  intro h;rw [Wu]at h;cases hc:mf c
  ·rw [hc]at h;simp at h
  ·rw [hc]at h;simp only [alQ,alU]at h;rw [List.all_cons,hc,a7 (by omega)];rfl
def N4{w:al5}(h:gp w=true):∃c l,w=c::l∧qG c=true∧w.all mf=true∧A1 w=false∧w.length≤16:=by
 cases w with
 |nil=>cases h
 |cons c l=>
  simp only [gp,Bool.and_eq_true,decide_eq_true_eq,Bool.not_eq_true']at h;obtain⟨⟨⟨Z,ae⟩,ar⟩,aK⟩:=h;exact⟨c,l,rfl,ae,agI (by simpa using ar),aK,by simp;omega⟩
def gz:al5→al5
 |[]=>[]
 |c::l=>if c.toNat=34∨c.toNat=92 then 92::c::gz l else c::gz l
def quo(s:al5):al5:=34::(gz s++[34])
def spell(t:Token):al5:=if t.Kind=3 then Lib.decDigits t.N.toNat else if t.Kind=4 then quo t.Text else t.Text
def A9(t:Token):Prop:=
 t.lQ=0∧((t.Kind=1∧gp t.Text=true∧t.N=0)∨(t.Kind=2∧t.Text∈rT∧t.N=0)∨(t.Kind=3∧t.Text=[]∧0≤t.N∧t.N≤9223372036854775807)∨
  (t.Kind=4∧jL t.Text=true∧t.N=0)∨(t.Kind=5∧t.Text∈marks∧t.N=0))
open Go Go.Ab Go.Proofs
abbrev oR:=List (Option Token)
def flat:oR→al5
 |[]=>[]
 |some t::l=>spell t++flat l
 |none::l=>32::flat l
def lv:oR→List Token
 |[]=>[]
 |some t::l=>t::lv l
 |none::l=>lv l
def nc:∀l m:oR,flat (l++m)=flat l++flat m
 |[],m=>rfl
 |some t::l,m=>by simp only [List.cons_append,flat,nc l m,List.append_assoc]
 |none::l,m=>by simp only [List.cons_append,flat,nc l m]
def N5:∀l m:oR,lv (l++m)=lv l++lv m
 |[],m=>rfl
 |some t::l,m=>by simp only [List.cons_append,lv,N5 l m]
 |none::l,m=>by simp only [List.cons_append,lv,N5 l m]
def lw(w:al5):Token:=⟨2,w,0,0⟩
def fF(w:al5):Token:=⟨5,w,0,0⟩
def agJ(w:al5):Token:=⟨1,w,0,0⟩
def agK(n:Int):Token:=⟨3,[],n,0⟩
def agL(w:al5):Token:=⟨4,w,0,0⟩
def el(op:Int):Nat:=if op=17 then 1 else if op=16 then 2 else if op=18 then 3 else if 10≤op∧op≤15 then 4 else if op=19 then 5 else if op=4∨op=5 then 6 else if 6≤op∧op≤8 then 7 else if op=9 then 8 else 9
def qK(op:Int):Token:=
 if op=17 then lw [111,114]else if op=16 then lw [97,110,100]else if op=10 then fF [61,61]else if op=11 then fF [33,61]else if op=12 then fF [60]else if op=13 then fF [60,61]
 else if op=14 then fF [62]else if op=15 then fF [62,61]else if op=19 then fF [43,43]else if op=4 then fF [43]else if op=5 then fF [45]else if op=6 then fF [42]else if op=7 then fF [47]else fF [37]
def ii(op:Int):Token:=
 if op=20 then lw [116,101,120,116]else if op=21 then lw [108,101,110]else if op=22 then lw [103,101,116,105,110,116]else if op=23 then lw [103,101,116,115,116,114]else if op=24 then lw [104,97,115]
 else if op=25 then lw [110,111,119]else if op=26 then lw [114,97,110,100,111,109]else lw [110,111,100,101]
def h1(op:Int)(p:oR)(least:Nat):oR:=if el op<least then some (fF [40])::(p++[some (fF [41])])else p
def rW(Op N:Int)(S:al5)(L:List (Int×oR)):oR:=
 if Op=1 then[some (agK N)]else if Op=2 then[some (agL S)]else if Op=3 then[some (agJ S)]
 else match L with
  |[]=>[some (ii Op),some (fF [40]),some (fF [41])]
  |[a]=>if Op=18 then some (lw [110,111,116])::none::h1 a.1 a.2 3 else if Op=9 then some (fF [45])::h1 a.1 a.2 8 else some (ii Op)::some (fF [40])::(a.2++[some (fF [41])])
  |a::b::_=>h1 a.1 a.2 (if el Op=4 then 5 else el Op)++none::some (qK Op)::none::h1 b.1 b.2 (el Op+1)
mutual
def cX:Expr→oR
 |⟨Op,N,S,au⟩=>rW Op N S (qL au)
def qL:List Expr→List (Int×oR)
 |[]=>[]
 |x::l=>(x.Op,cX x)::qL l
end
def pr(op:Int)(n:Nat):Prop:=(1≤op∧op≤27)∧(n:Int)=iP op
mutual
def hL:Expr→Prop
 |⟨Op,N,S,au⟩=>pr Op au.length∧(Op=1→0≤N∧N≤9223372036854775807)∧(Op≠1→N=0)∧(Op≠2∧Op≠3→S=[])∧(Op=2→jL S=true)∧(Op=3→gp S=true)∧Ge au
def Ge:List Expr→Prop
 |[]=>True
 |x::l=>hL x∧Ge l
end
mutual
def h2:Expr→Nat
 |⟨_,_,_,au⟩=>1+oS au
def oS:List Expr→Nat
 |[]=>0
 |x::l=>max (h2 x) (oS l)
end
def Gf(e:Expr):hL e↔pr e.Op e.au.length∧(e.Op=1→0≤e.N∧e.N≤9223372036854775807)∧(e.Op≠1→e.N=0)∧(e.Op≠2∧e.Op≠3→e.S=[])∧(e.Op=2→jL e.S=true)∧(e.Op=3→gp e.S=true)∧Ge e.au:=by cases e;rfl
def A'(e:Expr):h2 e=1+oS e.au:=by cases e;rfl
def WV{w:al5}(h:w∈rT):A9 (lw w):=⟨rfl,Or.inr (Or.inl ⟨rfl,h,rfl⟩)⟩
def agM{c:Prop}[Decidable c]{a b:Token}(ha:A9 a)(hb:A9 b):A9 (if c then a else b):=by
 by_cases h:c
 ·rw [if_pos h];exact ha
 ·rw [if_neg h];exact hb
def agN{c:Prop}[Decidable c]{a b:Token}{k:Int}(ha:a.Kind=k)(hb:b.Kind=k):(if c then a else b).Kind=k:=by
 by_cases h:c
 ·rw [if_pos h];exact ha
 ·rw [if_neg h];exact hb
def agO(op:Int):A9 (ii op)∧(ii op).Kind=2:=by
 unfold ii;constructor
 ·repeat refine agM (WV (by decide)) ?_
  exact WV (by decide)
 ·repeat refine agN rfl ?_
  rfl
def agP{op:Int}(h:1≤op∧op≤27):iP op=0∧(op≤3∨25≤op)∨iP op=1∧(op=9∨op=18∨20≤op∧op≤24)∨iP op=2∧(4≤op∧op≤8∨10≤op∧op≤17∨op=19):=by
 obtain rfl|rfl|rfl|rfl|rfl|rfl|rfl|rfl|rfl|rfl|rfl|rfl|rfl|rfl|rfl|rfl|rfl|rfl|rfl|rfl|rfl|rfl|rfl|rfl|rfl|rfl|rfl:op=1∨op=2∨op=3∨op=4∨op=5∨op=6∨op=7∨op=8∨op=9∨op=10∨op=11∨op=12∨op=13∨op=14∨op=15∨op=16∨op=17∨op=18∨op=19∨op=20∨op=21∨op=22∨op=23∨op=24∨op=25∨op=26∨op=27:=by omega
 all_goals first|exact Or.inl ⟨rfl,by omega⟩|exact Or.inr (Or.inl ⟨rfl,by omega⟩)|exact Or.inr (Or.inr ⟨rfl,by omega⟩)
open Go Go.Ab Go.Proofs
def fe(l:List Token)(i:Nat)(T R:List Token):Prop:=(l.map iB).drop i=T++R
def ui(R:List Token)(w:al5):Bool:=
 match R with
 |[]=>false
 |t::_=>(decide (t.Kind=2)||decide (t.Kind=5))&&decide (t.Text=w)
def agQ(l:List Token)(i:Nat)(w:al5):jM l i w=ui ((l.map iB).drop i) w:=by
 unfold jM;by_cases h:i<l.length
 ·rw [gR (l.map iB) i default (by simpa using h)]
  have:(l.map iB).getD i default=iB (l.getD i default):=by simp [List.getD,h]
  rw [this];generalize l.getD i default=t
  simp only [ui,h,iB,alO,Bool.true_and]
  congr
 ·rw [iO (l.map iB) i (by simpa using h)]
  simp [ui,h]
def fe.is{l T R:List Token}{i:Nat}(h:fe l i T R)(w:al5):jM l i w=ui (T++R) w:=by rw [agQ,h]
def fe.call{l T R:List Token}{i:Nat}(h:fe l i T R):Ga l i=call2 (pQ.find? λr=>ui (T++R) r.1):=by
 unfold Ga
 congr 2
 funext r
 exact h.is r.1
def fe.lt{l T R:List Token}{t:Token}{i:Nat}(h:fe l i (t::T) R):i<l.length:=by
 by_cases hi:i<l.length
 ·exact hi
 ·unfold fe at h;rw [iO (l.map iB) i (by simpa using hi)]at h
  cases h
def fe.hd{l T R:List Token}{t:Token}{i:Nat}(h:fe l i (t::T) R):iB (l.getD i default)=t:=by
 have hi:=h.lt;unfold fe at h;rw [gR (l.map iB) i default (by simpa using hi),List.cons_append]at h
 injection h with Z ae;rw [←Z];simp [List.getD,hi]
def fe.le{l T R:List Token}{i:Nat}(h:fe l i T R)(aS:T≠[]):i+T.length≤l.length:=by
 have:=congrArg List.length h
 simp only [List.length_drop,List.length_map,alY]at this;have:0<T.length:=List.length_pos_iff.2 aS
 omega
def agR(R:List Token):Int:=(agc (agb.find? λr=>ui R r.1)).1
def agS(op:Int)(R:List Token)(h:20≤op∧op≤27):call2 (pQ.find? λr=>ui (ii op::R) r.1)=op:=by
 have:op=20∨op=21∨op=22∨op=23∨op=24∨op=25∨op=26∨op=27:=by omega
 rcases this with rfl|rfl|rfl|rfl|rfl|rfl|rfl|rfl<;>rfl
section
variable {l:List Token}
def iw(l:List Token)(i d oT:Nat)(e:Expr)(k B:Nat):Prop:=∀n,B≤n→lm n (oT:Int) (d:Int) ⟨l,(i:Int)⟩=some (.ret e (k:Int))
def N6(l:List Token)(i d:Nat)(e:Expr)(k B:Nat):Prop:=∀n,B≤n→tC n (d:Int) ⟨l,(i:Int)⟩=some (.ret e (k:Int))
def N7(l:List Token)(i d:Nat)(e:Expr)(k B:Nat):Prop:=∀n,B≤n→wa n (d:Int) ⟨l,(i:Int)⟩=some (.ret e (k:Int))
theorem iw.mono{i d oT:Nat}{e:Expr}{k B WW:Nat}(h:iw l i d oT e k B)(ci:B≤WW):iw l i d oT e k WW:=λn hn=>h n (by omega)
theorem N7.of{i d:Nat}{e:Expr}{k B:Nat}(af:l.length≤1000000000)(hi:jM l i [40]=true)(h:iw l (i+1) d 1 e k B)(hk:jM l k [41]=true):N7 l i d e (k+1) (B+1):=by
 intro n hn;obtain⟨n,rfl⟩:∃j,n=j+1:=⟨n-1,by omega⟩
 have Z:=Wy hi;have ae:=Wy hk;rw [agh];unfold D8;rw [WB n l i _ (by omega) (by omega),hi]
 simp only [aC,alQ,aO.on];rw [show lm n 1 (d:Int) ⟨l,((i+1:Nat):Int)⟩=_ from h n (by omega)]
 simp only [aC,aO.on];rw [WB n l k _ (by omega) (by omega),hk]
 rfl
theorem agT{n i d:Nat}(af:l.length≤1000000000)(h:i<l.length):tC (n+1) (d:Int) ⟨l,(i:Int)⟩ =
 if(l.getD i default).Kind=3 then some (.ret ⟨1,(l.getD i default).N,[],[]⟩ ((i+1:Nat):Int))else if(l.getD i default).Kind=4 then some (.ret ⟨2,0,(l.getD i default).Text,[]⟩ ((i+1:Nat):Int))
 else if(l.getD i default).Kind=1 then some (.ret ⟨3,0,(l.getD i default).Text,[]⟩ ((i+1:Nat):Int))else zu n (lm n) (D9 n) (tC n) (wa n) (d:Int) ⟨l,(i:Int)⟩ (i:Int):=by
 rw [agf];unfold D7
 (rw [ck (by omega)];simp only [alW];rw [agi (by omega)])
 simp only [alX,h,alO,alQ,b6 h,a_];by_cases ar:(l.getD i default).Kind=3
 ·simp only [ar,alO,alQ,al3]
 ·by_cases aK:(l.getD i default).Kind=4
  ·simp only [aK,show¬ (4:Int)=3 by omega,alO,alP,alQ,alR,al3,al4]
  ·by_cases bc:(l.getD i default).Kind=1
   ·simp only [bc,show¬ (1:Int)=3 by omega,show¬ (1:Int)=4 by omega,alO,alP,alQ,alR,al3,al4]
   ·simp only [ar,aK,bc,alP,alR,al4]
theorem N6.word{i d:Nat}{e:Expr}{k B:Nat}{op:Int}(gM:20≤op∧op≤24)(af:l.length≤1000000000)(hg:WE l){T R:List Token}(ec:fe l i (ii op::T) R)(hd:d≤23)(h:N7 l (i+1) (d+1) e k B):N6 l i d ⟨op,0,[],[e]⟩ k (B+1):=by
 intro n hn;obtain⟨n,rfl⟩:∃j,n=j+1:=⟨n-1,by omega⟩
 have c8:=ec.lt;have bx:=ec.hd;have hk:(l.getD i default).Kind=2:=by have:=congrArg Token.Kind bx;exact this.trans (agO op).2
 rw [agT af c8,hk,if_neg (by decide),if_neg (by decide),if_neg (by decide)]
 unfold zu zt K2;rw [agd n l i hg,ec.call,List.cons_append,agS op _ (by omega),age n l i d (by omega) (by omega),if_neg (by omega)]
 simp only [aC,show¬ op=0 by omega,show¬ op=25 by omega,show¬ op=26 by omega,show¬ op=27 by omega,alP,alR,aO.on]
 rw [ck (by omega),h n (by omega)]
 rfl
end
open Go Go.Ab Go.Proofs
def agU{l:List Expr}{n:Int}(h:(l.length:Int)=n)(ae:n=2):∃a b,l=[a,b]:=by
 match l,h with
 |[a,b],_=>exact⟨a,b,rfl⟩
 |[],h=>simp at h;omega
 |[a],h=>simp at h;omega
 |a::b::c::l,h=>simp at h;omega
def agV{l:List Expr}{n:Int}(h:(l.length:Int)=n)(ae:n=1):∃a,l=[a]:=by
 match l,h with
 |[a],_=>exact⟨a,rfl⟩
 |[],h=>simp at h;omega
 |a::b::l,h=>simp at h;omega
def agW{l:List Expr}{n:Int}(h:(l.length:Int)=n)(ae:n=0):l=[]:=by
 match l,h with
 |[],_=>rfl
 |a::l,h=>simp at h;omega
def N8(e:Expr)(h:hL e):
 (e.Op=1∧e=⟨1,e.N,[],[]⟩)∨(e.Op=2∧e=⟨2,0,e.S,[]⟩)∨(e.Op=3∧e=⟨3,0,e.S,[]⟩)∨((25≤e.Op∧e.Op≤27)∧e=⟨e.Op,0,[],[]⟩)∨
 (∃a,e=⟨e.Op,0,[],[a]⟩∧hL a∧h2 e=1+h2 a∧(e.Op=9∨e.Op=18∨20≤e.Op∧e.Op≤24))∨
 (∃a b,e=⟨e.Op,0,[],[a,b]⟩∧hL a∧hL b∧h2 e=1+max (h2 a) (h2 b)∧(4≤e.Op∧e.Op≤8∨10≤e.Op∧e.Op≤17∨e.Op=19)):=by
 obtain⟨Op,N,S,au⟩:=e;obtain⟨⟨Z,ae⟩,ar,aK,bc,b2,cU,dQ⟩:=h;rcases agP Z with⟨ha,hb⟩|⟨ha,hb⟩|⟨ha,hb⟩
 ·obtain rfl:=agW ae ha;by_cases e1:Op=1
  ·subst e1;obtain rfl:=bc (by omega);exact Or.inl ⟨rfl,rfl⟩
  ·obtain rfl:=aK e1;by_cases e2:Op=2
   ·subst e2;exact Or.inr (Or.inl ⟨rfl,rfl⟩)
   ·by_cases e3:Op=3
    ·subst e3;exact Or.inr (Or.inr (Or.inl ⟨rfl,rfl⟩))
    ·obtain rfl:=bc ⟨e2,e3⟩;exact Or.inr (Or.inr (Or.inr (Or.inl ⟨⟨by simp only;omega,by simp only;omega⟩,rfl⟩)))
 ·obtain⟨a,rfl⟩:=agV ae ha;obtain rfl:=aK (by omega)
  obtain rfl:=bc (by omega)
  exact Or.inr (Or.inr (Or.inr (Or.inr (Or.inl ⟨a,rfl,dQ.1,by simp [h2,oS],hb⟩))))
 ·obtain⟨a,b,rfl⟩:=agU ae ha;obtain rfl:=aK (by omega)
  obtain rfl:=bc (by omega)
  exact Or.inr (Or.inr (Or.inr (Or.inr (Or.inr ⟨a,b,rfl,dQ.1,dQ.2.1,by simp [h2,oS],hb⟩))))
def N9{op:Int}{a b:Expr}(h:4≤op∧op≤8∨10≤op∧op≤17∨op=19):cX ⟨op,0,[],[a,b]⟩=h1 a.Op (cX a) (if el op=4 then 5 else el op)++none::some (qK op)::none::h1 b.Op (cX b) (el op+1):=by
 simp only [cX,qL,rW];rw [if_neg (by omega),if_neg (by omega),if_neg (by omega)]
def WX{op:Int}(h:4≤op∧op≤8∨10≤op∧op≤17∨op=19):el op=1∨el op=2∨el op=4∨el op=5∨el op=6∨el op=7:=by
 have:op=4∨op=5∨op=6∨op=7∨op=8∨op=10∨op=11∨op=12∨op=13∨op=14∨op=15∨op=16∨op=17∨op=19:=by omega
 rcases this with rfl|rfl|rfl|rfl|rfl|rfl|rfl|rfl|rfl|rfl|rfl|rfl|rfl|rfl<;>decide
section
variable {l:List Token}
abbrev A_(e:Expr)(oT:Nat):List Token:=lv (h1 e.Op (cX e) oT)
end
open Go Go.Ab Go.Proofs
section
variable {l:List Token}
def fC(l:List Token)(e:Expr):Prop:=∀(i d:Nat) (R:List Token),fe l i (lv (cX e)) R→agR R<(el e.Op:Int)→d+2*h2 e≤26→
 if el e.Op=9 then N6 l i d e (i+(lv (cX e)).length) (24*(lv (cX e)).length+20)else iw l i d (el e.Op) e (i+(lv (cX e)).length) (24*(lv (cX e)).length+40-2*el e.Op)
end
open Go Go.Ab Go.Proofs
def gg{k:Nat}(h:k≤1000000000000):br k=true:=af9 (by omega)
def N'{k:Nat}(h:k≤1000000000000):room k 1=true:=by simp [room];omega
def N_(n:Nat)(op:Int):za n op=some ((el op:Nat):Int):=by
 by_cases h:1≤op∧op≤27
 ·obtain rfl|rfl|rfl|rfl|rfl|rfl|rfl|rfl|rfl|rfl|rfl|rfl|rfl|rfl|rfl|rfl|rfl|rfl|rfl|rfl|rfl|rfl|rfl|rfl|rfl|rfl|rfl:op=1∨op=2∨op=3∨op=4∨op=5∨op=6∨op=7∨op=8∨op=9∨op=10∨op=11∨op=12∨op=13∨op=14∨op=15∨op=16∨op=17∨op=18∨op=19∨op=20∨op=21∨op=22∨op=23∨op=24∨op=25∨op=26∨op=27:=by omega
  all_goals rfl
 ·have e:el op=9:=by
   unfold el;rw [if_neg (by omega),if_neg (by omega),if_neg (by omega),if_neg (by omega),if_neg (by omega),if_neg (by omega),if_neg (by omega),if_neg (by omega)]
  rw [e];simp only [za,rx,Ds,y_,JR,show¬ op=17 by omega,show¬ op=16 by omega,show¬ op=18 by omega,show¬ op=10 by omega,show¬ op=11 by omega,show¬ op=12 by omega,show¬ op=13 by omega,show¬ op=14 by omega,show¬ op=15 by omega,show¬ op=19 by omega,show¬ op=4 by omega,show¬ op=5 by omega,show¬ op=6 by omega,show¬ op=7 by omega,show¬ op=8 by omega,show¬ op=9 by omega,alP,alR]
  rfl
def WY(n:Nat)(op:Int)(h:20≤op∧op≤27):Du n op=some (spell (ii op)):=by
 obtain rfl|rfl|rfl|rfl|rfl|rfl|rfl|rfl:op=20∨op=21∨op=22∨op=23∨op=24∨op=25∨op=26∨op=27:=by omega
 all_goals rfl
def WZ(n:Nat)(op:Int)(h:4≤op∧op≤8∨10≤op∧op≤17∨op=19):Dt n op=some (spell (qK op)):=by
 have:op=4∨op=5∨op=6∨op=7∨op=8∨op=10∨op=11∨op=12∨op=13∨op=14∨op=15∨op=16∨op=17∨op=19:=by omega
 rcases this with rfl|rfl|rfl|rfl|rfl|rfl|rfl|rfl|rfl|rfl|rfl|rfl|rfl|rfl<;>rfl
def W0(n:Nat)(i:Int)(h0:0≤i)(Z:i≤9223372036854775807):te n i=some (Lib.decDigits i.toNat):=by
 unfold te CV;rw [decide_eq_true (show(10:Int)=10 ∧ -9223372036854775808≤i∧i≤9223372036854775807 from⟨rfl,by omega,Z⟩)]
 simp only [a_,aC];unfold Lib.itoa;rw [if_neg (by omega)]
def xb(i:Int)(h0:0≤i)(Z:i≤9223372036854775807):(Lib.decDigits i.toNat).length≤21:=by
 have:=Lib.itoa_length_le i (by omega) Z
 unfold Lib.itoa at this
 rwa [if_neg (by omega)]at this
def Ba(n:Nat)(c:UInt8)(b:al5)(h:b.length≤100000000):pC n ((c.toNat:Nat):Int) (fA b)=some (fA (b++[c])):=by
 unfold pC vL;simp only [aC,Wx,alU,alV,N' (show b.length+(0+1)≤1000000000000 by omega),a_,af8]
def agX(n:Nat)(s:al5)(hs:s.length≤4611686018427387904):∀m i,s.length<i+m→i≤s.length→y9 n s m (i:Int)=some ((s.drop i).all okB):=by
 intro m;induction m with
 |zero=>intro i h ae;omega
 |succ m a7=>
  intro i hm hi;simp only [y9,JM,JL];by_cases h:i<s.length
  ·rw [gR s i 0 h,ck (by omega),a7 (i+1) (by omega) (by omega)]
   simp only [h,b6 h,alW,alX,alO,alQ,a_,al2,List.all_cons,qF,e7,eg,F8];cases okB (s.getD i 0)<;>simp
  ·rw [iO s i h];simp [h]
def agY{n:Nat}(s:al5)(h:s.length<n)(hs:s.length≤4611686018427387904):JN n s=some (s.all okB):=by
 have:=agX n s hs n 0 (by omega) (by omega)
 rw [List.drop_zero]at this;exact this
def uj:∀s:al5,(gz s).length≤2*s.length
 |[]=>Nat.le_refl _
 |c::s=>by
  have:=uj s
  simp only [gz];split<;>simp only [alU]<;>omega
def W1(s:al5)(c:UInt8):gz (s++[c])=gz s++gz [c]:=by
 induction s with
 |nil=>rfl
 |cons d s a7=>simp only [List.cons_append,gz,a7];split<;>rfl
def agZ(n:Nat)(s:al5)(hs:s.length≤64):∀m i,s.length<i+m→i≤s.length→y' n s m (fA (34::gz (s.take i))) (i:Int)=some (quo s,0):=by
 intro m;induction m with
 |zero=>intro i h ae;omega
 |succ m a7=>
  intro i hm hi;simp only [y',JQ,JO,JP,Dq];have hlen:=uj (s.take i);have ag0:(s.take i).length≤i:=by simp;omega
  by_cases h:i<s.length
  ·(rw [ck (by omega)];simp only [alW])
   have hn:=a7 (i+1) (by omega) (by omega)
   have bS:s.take (i+1)=s.take i++[s.getD i 0]:=by
    rw [List.take_add,gR s i 0 h,List.take_succ_cons,List.take_zero]
   rw [bS,W1]at hn;generalize s.getD i 0=c at hn
   simp only [h,b6 h,alX,alO,alQ,a_,al2,jq,eg];by_cases hc:c.toNat=34∨c.toNat=92
   ·have hb:(decide (c.toNat=34)||decide (c.toNat=92))=true:=by rcases hc with hc|hc<;>rw [decide_eq_true hc]<;>simp
    have e1:=Ba n 92 (34::gz (s.take i)) (by simp only [alU];omega)
    have e2:=Ba n c (34::gz (s.take i)++[92]) (by simp only [alY,alU,alV];omega)
    rw [hb];simp only [alQ];rw [show pC n 92 _=_ from e1]
    simp only [aC];rw [e2];simp only [aC];rw [show(34::gz (s.take i)++[92]++[c])=34::(gz (s.take i)++gz [c])by simp only [gz];rw [if_pos hc];simp]
    exact hn
   ·have hb:(decide (c.toNat=34)||decide (c.toNat=92))=false:=by rw [decide_eq_false (λe=>hc (Or.inl e)),decide_eq_false (λe=>hc (Or.inr e))];rfl
    have e2:=Ba n c (34::gz (s.take i)) (by simp only [alU];omega)
    rw [hb];simp only [alR];rw [e2];simp only [aC];rw [show(34::gz (s.take i)++[c])=34::(gz (s.take i)++gz [c])by simp only [gz];rw [if_neg hc];simp]
    exact hn
  ·have Oa:i=s.length:=by omega
   subst Oa;simp only [alX,Nat.lt_irrefl,alP,alR,List.take_length];have e1:=Ba n 34 (34::gz s) (by have:=uj s;simp only [alU];omega)
   rw [show pC n 34 _=_ from e1]
   have af:=uj s;have eC:(fA (34::gz s++[34])).length≤9223372036854775807:=by rw [Wx];simp only [alY,alU,alV];omega
   simp only [aC,qv,Ww,Wv,eC,alO,Bool.and_self,a_];rfl
def ag1{n:Nat}(s:al5)(h:jL s=true)(hn:100<n):Dr n s=some (quo s,0):=by
 unfold jL at h;simp only [Bool.and_eq_true,decide_eq_true_eq]at h;unfold Dr;simp only [e7,show¬ 64<s.length by omega,alP,alR,agY s (show s.length<n by omega) (by omega),aC,h.1,alS]
 have e1:=Ba n 34 [] (by simp)
 rw [show pC n 34 []=_ from e1]
 exact agZ n s (by omega) n 0 (by omega) (by omega)
def ag2(s:al5):(quo s).length≤2*s.length+2:=by
 have:=uj s
 simp only [quo,alU,alY,alV];omega
def W2{c:Prop}[Decidable c]{a b:Token}{k:Nat}(ha:(spell a).length≤k)(hb:(spell b).length≤k):(spell (if c then a else b)).length≤k:=by
 by_cases h:c
 ·rw [if_pos h];exact ha
 ·rw [if_neg h];exact hb
def Ob(op:Int):(spell (qK op)).length≤3:=by
 unfold qK
 repeat refine W2 (by decide) ?_
 decide
def xc(op:Int):(spell (ii op)).length≤6:=by
 unfold ii
 repeat refine W2 (by decide) ?_
 decide
def nS(op:Int)(p:oR)(k:Nat):(flat (h1 op p k)).length≤(flat p).length+2:=by
 unfold h1;split
 ·simp only [flat,nc,spell,fF,alY,alU];simp;omega
 ·omega
def oU{w:al5}(h:gp w=true):w.length≤16:=by
 obtain⟨c,l,_,_,_,_,bc⟩:=N4 h;exact bc
def pg:∀(h:Nat) (e:Expr),h2 e≤h→hL e→(flat (cX e)).length≤4*db e:=by
 intro h;induction h with
 |zero=>intro e he;rw [A']at he;omega
 |succ h a7=>
  intro e he eK;have my:=(Gf e).1 eK;have uf:=qH e;rcases N8 e eK with⟨Z,aB⟩|⟨Z,aB⟩|⟨Z,aB⟩|⟨ak,aB⟩|⟨a,aB,ha,bx,gM⟩|⟨a,b,aB,ha,hb,bx,gM⟩
  ·have:=xb e.N (my.2.1 Z).1 (my.2.1 Z).2
   have e2:flat (cX e)=Lib.decDigits e.N.toNat++[]:=by rw [aB];rfl
   rw [e2,List.append_nil];omega
  ·have:=ag2 e.S
   have e2:flat (cX e)=quo e.S++[]:=by rw [aB];rfl
   rw [e2,List.append_nil];omega
  ·have:=oU (my.2.2.2.2.2.1 Z)
   have e2:flat (cX e)=e.S++[]:=by rw [aB];rfl
   rw [e2,List.append_nil];omega
  ·have:=xc e.Op
   generalize e.Op=op at ak aB this
   have e2:flat (cX e)=spell (ii op)++([40]++([41]++[])):=by
    rw [aB];simp only [cX,qL,rW];rw [if_neg (by omega),if_neg (by omega),if_neg (by omega)];rfl
   rw [e2];simp only [alY,alU,alV];omega
  ·have Bb:=a7 a (by omega) ha
   have Bc:db e=30+(db a+1):=by rw [aB];simp [db,ls]
   have:=xc e.Op
   have ar:=nS a.Op (cX a) 3;have dQ:=nS a.Op (cX a) 8;generalize e.Op=op at gM aB this
   have e2:cX e=if op=18 then some (lw [110,111,116])::none::h1 a.Op (cX a) 3 else if op=9 then some (fF [45])::h1 a.Op (cX a) 8 else some (ii op)::some (fF [40])::(cX a++[some (fF [41])]):=by
    rw [aB];simp only [cX,qL,rW];rw [if_neg (by omega),if_neg (by omega),if_neg (by omega)]
   rw [e2];split
   ·simp only [flat,spell,lw,alY,alU];simp;omega
   ·split
    ·simp only [flat,spell,fF,alY,alU];simp;omega
    ·simp only [flat,nc,alY];have e3:(spell (fF [40])).length=1:=rfl;have hK:(spell (fF [41])).length=1:=rfl;simp only [alV];omega
  ·have Bb:=a7 a (by omega) ha
   have W3:=a7 b (by omega) hb
   have Bc:db e=30+(db a+1+(db b+1)):=by rw [aB];simp [db,ls]
   have:=Ob e.Op
   have ar:=nS a.Op (cX a) (if el e.Op=4 then 5 else el e.Op)
   have dQ:=nS b.Op (cX b) (el e.Op+1);generalize e.Op=op at gM aB this ar dQ
   have e2:cX e=h1 a.Op (cX a) (if el op=4 then 5 else el op)++none::some (qK op)::none::h1 b.Op (cX b) (el op+1):=by rw [aB,N9 gM]
   rw [e2];simp only [nc,flat,alY,alU];omega
open Go Go.Ab Go.Proofs
def ag3(n:Nat):kZ (n+1)=Dv n (kZ n) (tf n):=rfl
def ag4(n:Nat):tf (n+1)=Dw n (kZ n) (tf n):=rfl
def Bd{n:Nat}{e:Expr}{k:Nat}(h:kZ n e=some (flat (cX e)))(af:(flat (cX e)).length≤100000000):tf (n+1) e (k:Int)=some (flat (h1 e.Op (cX e) k)):=by
 rw [ag4];unfold Dw h1;rw [N_,h];simp only [aC,alX];by_cases hk:el e.Op<k
 ·simp only [hk,alO,alQ,al3];rw [gg (by simp;omega),gg (by simp;omega)]
  simp only [a_,flat,nc,spell,fF];simp
 ·simp only [hk,alP,alR,al4]
def ag5:∀(h:Nat) (e:Expr) (n:Nat),h2 e≤h→hL e→2*h+200≤n→db e≤1000000→kZ n e=some (flat (cX e)):=by
 intro h;induction h with
 |zero=>intro e n he;rw [A']at he;omega
 |succ h a7=>
  intro e n he eK hn ag6;obtain⟨n,rfl⟩:∃j,n=j+1:=⟨n-1,by omega⟩
  obtain⟨n,rfl⟩:∃j,n=j+1:=⟨n-1,by omega⟩
  have my:=(Gf e).1 eK;have uf:=qH e;rw [ag3];unfold Dv;rw [N_];simp only [aC];rcases N8 e eK with⟨Z,aB⟩|⟨Z,aB⟩|⟨Z,aB⟩|⟨ak,aB⟩|⟨a,aB,ha,bx,gM⟩|⟨a,b,aB,ha,hb,bx,gM⟩
  ·have e2:flat (cX e)=Lib.decDigits e.N.toNat++[]:=by rw [aB];rfl
   rw [W0 _ e.N (my.2.1 Z).1 (my.2.1 Z).2,e2,List.append_nil];simp only [Z,alO,alQ,aC]
  ·have e2:flat (cX e)=quo e.S++[]:=by rw [aB];rfl
   rw [ag1 e.S (my.2.2.2.2.1 Z) (by omega),e2,List.append_nil]
   simp only [Z,show¬ (2:Int)=1 by omega,alO,alP,alQ,alR,aC]
  ·have e2:flat (cX e)=e.S++[]:=by rw [aB];rfl
   rw [e2,List.append_nil];simp only [Z,show¬ (3:Int)=1 by omega,show¬ (3:Int)=2 by omega,alO,alP,alQ,alR]
  ·have hw:=xc e.Op;have Oc:=WY (n+1) e.Op (by omega)
   have jY:el e.Op=9:=by
    have:e.Op=25∨e.Op=26∨e.Op=27:=by omega
    rcases this with h|h|h<;>rw [h]<;>decide
   have eJ:e.au=[]:=by rw [aB]
   have e2:flat (cX e)=spell (ii e.Op)++([40]++([41]++[])):=by
    generalize e.Op=op at ak aB
    rw [aB];simp only [cX,qL,rW];rw [if_neg (by omega),if_neg (by omega),if_neg (by omega)];rfl
   rw [Oc,e2];simp only [aC];rw [gg (show(spell (ii e.Op)).length+([40,41]:al5).length≤1000000000000 by simp;omega)]
   simp only [jY,eJ,show¬ e.Op=1 by omega,show¬ e.Op=2 by omega,show¬ e.Op=3 by omega,show¬ e.Op=18 by omega,show¬ e.Op=9 by omega,alP,alR,alV,jq,alO,alQ,a_]
   simp
  ·have Bc:db e=30+(db a+1):=by rw [aB];simp [db,ls]
   have oV:=a7 a n (by omega) ha (by omega) (by omega)
   have Od:=a7 a (n+1) (by omega) ha (by omega) (by omega)
   have Bb:=pg (h2 a) a (Nat.le_refl _) ha;have eJ:e.au=[a]:=by rw [aB]
   have ar:=nS a.Op (cX a) 3;have dQ:=nS a.Op (cX a) 8
   have e2:cX e=if e.Op=18 then some (lw [110,111,116])::none::h1 a.Op (cX a) 3 else if e.Op=9 then some (fF [45])::h1 a.Op (cX a) 8 else some (ii e.Op)::some (fF [40])::(cX a++[some (fF [41])]):=by
    generalize e.Op=op at gM aB
    rw [aB];simp only [cX,qL,rW];rw [if_neg (by omega),if_neg (by omega),if_neg (by omega)]
   rw [e2,eJ];simp only [alU,alV,rR (show 0<0+1 by omega),a_,List.getD_cons_zero,show¬ e.Op=1 by omega,show¬ e.Op=2 by omega,show¬ e.Op=3 by omega,alP,alR]
   by_cases uk:e.Op=18
   ·have:=Bd (k:=3) oV (by omega)
    rw [uk];simp only [alO,alQ,al3,show el 18=3 from rfl]
    rw [this];simp only [aC];rw [gg (by simp;omega)]
    rfl
   ·by_cases f':e.Op=9
    ·have:=Bd (k:=8) oV (by omega)
     rw [f'];simp only [show¬ (9:Int)=18 by omega,alO,alP,alQ,alR,al3,al4,show el 9=8 from rfl]
     rw [this];simp only [aC];rw [gg (by simp;omega)]
     rfl
    ·have ag7:20≤e.Op∧e.Op≤24:=by omega
     have jY:el e.Op=9:=by
      have:e.Op=20∨e.Op=21∨e.Op=22∨e.Op=23∨e.Op=24:=by omega
      rcases this with h|h|h|h|h<;>rw [h]<;>decide
     have hw:=xc e.Op;rw [WY (n+1) e.Op (by omega),Od,if_neg uk,if_neg f']
     have e3:flat (some (ii e.Op)::some (fF [40])::(cX a++[some (fF [41])]))=spell (ii e.Op)++([40]++(flat (cX a)++([41]++[]))):=by
      simp only [flat,nc];rfl
     rw [e3];generalize spell (ii e.Op)=W at hw
     simp only [uk,f',jY,alP,alO,alR,alQ,aC];rw [gg (show W.length+(0+1)≤1000000000000 by omega),gg (show(W++([40]:al5)).length+(flat (cX a)).length≤1000000000000 by simp;omega),gg (show((W++([40]:al5))++flat (cX a)).length+(0+1)≤1000000000000 by simp;omega)]
     simp only [show((0+1:Nat):Int)=1 from rfl,show¬ (1:Int)=0 by omega,show((9:Nat):Int)=9 from rfl,alO,alP,alQ,alR,a_]
     simp
  ·have Bc:db e=30+(db a+1+(db b+1)):=by rw [aB];simp [db,ls]
   have oV:=a7 a n (by omega) ha (by omega) (by omega)
   have Oe:=a7 b n (by omega) hb (by omega) (by omega)
   have Bb:=pg (h2 a) a (Nat.le_refl _) ha;have W3:=pg (h2 b) b (Nat.le_refl _) hb;have eJ:e.au=[a,b]:=by rw [aB]
   have jY:=WX gM;have ag8:=Ob e.Op
   have e2:cX e=h1 a.Op (cX a) (if el e.Op=4 then 5 else el e.Op)++none::some (qK e.Op)::none::h1 b.Op (cX b) (el e.Op+1):=by
    generalize e.Op=op at gM aB
    rw [aB,N9 gM]
   have ar:=nS a.Op (cX a) (if el e.Op=4 then 5 else el e.Op)
   have dQ:=nS b.Op (cX b) (el e.Op+1);have ul:=Bd (k:=el e.Op+1) Oe (by omega)
   rw [e2,eJ,WZ (n+1) e.Op gM];simp only [alU,alV,rR (show 0<0+1+1 by omega),a_,List.getD_cons_zero,List.getD_cons_succ,show¬ e.Op=1 by omega,show¬ e.Op=2 by omega,show¬ e.Op=3 by omega,show¬ e.Op=18 by omega,show¬ e.Op=9 by omega,alP,alR,jq,show¬ el e.Op=9 by omega,show aN 1 (0+1+1)=true from rfl]
   by_cases aK:el e.Op=4
   ·have qg:=Bd (k:=5) oV (by omega)
    rw [aK]at ul ⊢;rw [if_pos rfl];rw [if_pos aK]at ar;simp only [alO,alQ];rw [show tf (n+1) a 5=_ from qg,show tf (n+1) b 5=_ from ul]
    simp only [aC];rw [aK]at dQ;rw [gg (by simp;omega),gg (by simp;omega),gg (by simp;omega),gg (by simp only [alY,alU,alV];omega)]
    simp only [a_,nc,flat];simp
   ·have qg:=Bd (k:=el e.Op) oV (by omega)
    rw [if_neg aK]at ar ⊢;simp only [aK,alP,alR];rw [qg,ck (by omega),ul]
    simp only [aC];rw [gg (by simp;omega),gg (by simp;omega),gg (by simp;omega),gg (by simp only [alY,alU,alV];omega)]
    simp only [a_,nc,flat];simp
open Go Go.Ab Go.Proofs
mutual
def lx:Expr→Prop
 |⟨Op,N,S,au⟩=>N≤9223372036854775807∧S.length≤9223372036854775807∧au.length≤9223372036854775807∧xd au
def xd:List Expr→Prop
 |[]=>True
 |x::l=>lx x∧xd l
end
def Gg(e:Expr):lx e↔e.N≤9223372036854775807∧e.S.length≤9223372036854775807∧e.au.length≤9223372036854775807∧xd e.au:=by cases e;rfl
def W4:∀(l:List Expr) (i:Nat),i<l.length→xd l→lx (l.getD i default)
 |[],i,h,_=>by simp at h
 |x::l,0,h,af=>af.1
 |x::l,i+1,h,af=>by simp only [List.getD_cons_succ];exact W4 l i (by simpa using h) af.2
mutual
def pS:Expr→Nat
 |⟨_,_,S,au⟩=>1+S.length / 64+um au
def um:List Expr→Nat
 |[]=>0
 |x::l=>pS x+um l
end
def ag9(e:Expr):pS e=1+e.S.length / 64+um e.au:=by cases e;rfl
mutual
def Of:∀e:Expr,db e+1≤95*pS e
 |⟨Op,N,S,au⟩=>by
  have:=W5 au
  simp only [db,pS];omega
def W5:∀l:List Expr,ls l≤95*um l
 |[]=>Nat.le_refl _
 |x::l=>by
  have Z:=Of x;have ae:=W5 l;simp only [ls,um];omega
end
def Og(k:Nat):Int.tdiv ((k:Nat):Int) 64=((k / 64:Nat):Int):=by
 rw [Int.tdiv_eq_ediv_of_nonneg (by omega)];rfl
def ag':∀(n:Nat) (e:Expr) (m:Nat),m≤1000→m+3≤n→lx e→
 ∃r:Nat,pM n e (m:Int)=some (r:Int)∧1≤r∧r≤m+144115188075855873∧(r≤m→r=pS e):=by
 intro n;induction n with
 |zero=>intro e m h ae;omega
 |succ n a7=>
  intro e m hm hn he;obtain⟨Z,ae,ar,aK⟩:=(Gg e).1 he;simp only [pM,Fo];rw [Og];rw [show al7 ((e.S.length / 64:Nat):Int)=((e.S.length / 64:Nat):Int)by rw [wr]<;>omega]
  rw [show al7 (1+((e.S.length / 64:Nat):Int))=((1+e.S.length / 64:Nat):Int)by rw [wr]<;>omega]
  have ih:∀k i v,m+2≤v+k→i≤e.au.length→i≤v→1≤v→v≤m+144115188075855873→1≤k→
   ∃r:Nat,wO n (pM n) (m:Int) e k (v:Int) (i:Int)=some (r:Int)∧v≤r∧r≤m+144115188075855873∧(r≤m→r=v+um (e.au.drop i)):=by
   intro k;induction k with
   |zero=>intro i v Z ae h0 ar aK bc;omega
   |succ k xe=>
    intro i v g1 g2 g0 g3 g4 g5;simp only [wO,Fn,Fm,e8,alX,Int.ofNat_le];by_cases hi:i<e.au.length
    ·by_cases ay:v≤m
     ·obtain⟨ah,e1,e2,e3,hK⟩:=a7 (e.au.getD i default) (m-v) (by omega) (by omega) (W4 _ _ hi aK)
      (rw [show al7 ((m:Int)-(v:Int))=((m-v:Nat):Int)by rw [wr]<;>omega,ck (by omega)];simp only [alW];rw [e1])
      simp only [hi,ay,alO,Bool.and_self,alQ,b6 hi,a_,aC];rw [show al7 ((v:Int)+(ah:Int))=((v+ah:Nat):Int)by rw [wr]<;>omega]
      obtain⟨r,f1,f2,f3,f4⟩:=xe (i+1) (v+ah) (by omega) (by omega) (by omega) (by omega) (by omega) (by omega)
      refine⟨r,f1,by omega,f3,λak=>?_⟩
      have:=f4 ak
      have ik:=hK (by omega)
      rw [gR e.au i default hi];simp only [um];omega
     ·simp only [hi,ay,alO,alP,Bool.and_false,alR];exact⟨v,rfl,Nat.le_refl _,g4,λh=>absurd h ay⟩
    ·rw [iO e.au i hi];simp only [hi,alP,Bool.false_and,alR];exact⟨v,rfl,Nat.le_refl _,g4,λh=>rfl⟩
  obtain⟨r,f1,f2,f3,f4⟩:=ih n 0 (1+e.S.length / 64) (by omega) (by omega) (by omega) (by omega) (by omega) (by omega)
  exact⟨r,f1,by omega,f3,λak=>by rw [f4 ak,ag9,List.drop_zero]⟩
def ag_:∀(h:Nat) (e:Expr) (d:Nat),h2 e≤h→lx e→gf e (d:Int)=0→d≤1000→hL e∧d+h2 e≤13:=by
 intro h;induction h with
 |zero=>intro e d he;rw [A']at he;omega
 |succ h a7=>
  intro e d he hi ay hd;obtain⟨i1,i2,i3,i4⟩:=(Gg e).1 hi;rw [WF]at ay
  have mO:nQ e (d:Int)=0:=by
   by_cases h0:nQ e (d:Int)=0
   ·exact h0
   ·rw [if_neg h0]at ay;exact absurd ay h0
  rw [if_pos mO]at ay;unfold nQ at mO;split at mO
  ·omega
  rename_i g1;split at mO
  ·omega
  rename_i g2;split at mO
  ·omega
  rename_i g3;split at mO
  ·omega
  rename_i g4;simp only [not_or,not_and,Bool.not_eq_false]at g1 g2 g3;obtain⟨aY,a2,a3⟩:=g1;obtain⟨cS,hz,A8⟩:=g3
  have gM:1≤e.Op∧e.Op≤27:=by
   unfold iP at aY;by_cases Z:e.Op<1
   ·simp [Z]at aY
   ·by_cases ae:27<e.Op
    ·simp [ae]at aY
    ·omega
  rw [show al7 ((d:Int)+1)=((d+1:Nat):Int)by rw [wr]<;>omega]at ay
  have af:∀l:List Expr,oS l≤h→xd l→qI l ((d+1:Nat):Int)=0→Ge l∧(d+1+oS l≤13∨l=[]):=by
   intro l;induction l with
   |nil=>intro _ _ _;exact⟨trivial,Or.inr rfl⟩
   |cons x l aha=>
    intro bx hin sI;simp only [oS]at bx;simp only [qI]at sI
    have hx:gf x ((d+1:Nat):Int)=0:=by
     by_cases h0:gf x ((d+1:Nat):Int)=0
     ·exact h0
     ·rw [if_neg h0]at sI;exact absurd sI h0
    rw [if_pos hx]at sI;obtain⟨fq,eB⟩:=a7 x (d+1) (by omega) hin.1 hx (by omega)
    obtain⟨aH,bk⟩:=aha (by omega) hin.2 sI
    refine⟨⟨fq,aH⟩,Or.inl ?_⟩
    simp only [oS];rcases bk with bk|rfl
    ·omega
    ·simp only [oS];omega
  have W6:=A' e;obtain⟨cN,aj⟩:=af e.au (by omega) i4 ay
  refine⟨(Gf e).2 ⟨⟨gM,?_⟩,λZ=>⟨by omega,i1⟩,λZ=>?_,λZ=>?_,λZ=>?_,λZ=>?_,cN⟩,?_⟩
  ·by_cases hc:(e.au.length:Int)=iP e.Op
   ·exact hc
   ·exact absurd hc A8
  ·by_cases hc:e.N=0
   ·exact hc
   ·exact absurd hc (a2 Z)
  ·by_cases hc:e.S=[]
   ·exact hc
   ·exact absurd hc (a3 Z.1 Z.2)
  ·exact hz Z
  ·exact g2 Z
  ·rcases aj with aj|aj
   ·omega
   ·rw [aj]at W6;simp only [oS]at W6;omega
open Go Go.Ab Go.Proofs
mutual
def pT:Stmt→Prop
 |⟨_,Name,Max,A,B,Body,bN⟩=>(-9223372036854775808≤Max∧Max≤9223372036854775807)∧Name.length≤9223372036854775807∧lx A∧lx B∧pU Body∧pU bN
def pU:List Stmt→Prop
 |[]=>True
 |x::l=>pT x∧pU l
end
def Oh(s:Stmt):pT s↔(-9223372036854775808≤s.Max∧s.Max≤9223372036854775807)∧s.Name.length≤9223372036854775807∧lx s.A∧lx s.B∧pU s.Body∧pU s.bN:=by cases s;rfl
def W7:∀(l:List Stmt) (i:Nat),i<l.length→pU l→pT (l.getD i default)
 |[],i,h,_=>by simp at h
 |x::l,0,h,af=>af.1
 |x::l,i+1,h,af=>by simp only [List.getD_cons_succ];exact W7 l i (by simpa using h) af.2
mutual
def Gh:Stmt→Nat
 |⟨_,Name,_,A,B,Body,bN⟩=>1+Name.length / 64+pS A+pS B+oW Body+oW bN
def oW:List Stmt→Nat
 |[]=>0
 |x::l=>Gh x+oW l
end
def ahb(s:Stmt):Gh s=1+s.Name.length / 64+pS s.A+pS s.B+oW s.Body+oW s.bN:=by cases s;rfl
mutual
def ahc:∀s:Stmt,fst s+1≤150*Gh s
 |⟨Op,Name,Max,A,B,Body,bN⟩=>by
  have Z:=Of A;have ae:=Of B;have ar:=Gi Body;have aK:=Gi bN;simp only [fst,Gh];omega
def Gi:∀l:List Stmt,eb l≤150*oW l
 |[]=>Nat.zero_le _
 |x::l=>by
  have Z:=ahc x;have ae:=Gi l;simp only [eb,oW];omega
end
def ahd(n:Nat)(e:Expr)(m:Int)(hm:m<0)(hn:2≤n)(he:lx e):pM n e m=some ((1+e.S.length / 64:Nat):Int):=by
 obtain⟨n,rfl⟩:∃k,n=k+2:=⟨n-2,by omega⟩
 obtain⟨Z,ae,ar,aK⟩:=(Gg e).1 he;simp only [pM,Fo];rw [Og];rw [show al7 ((e.S.length / 64:Nat):Int)=((e.S.length / 64:Nat):Int)by rw [wr]<;>omega]
 rw [show al7 (1+((e.S.length / 64:Nat):Int))=((1+e.S.length / 64:Nat):Int)by rw [wr]<;>omega]
 simp only [wO,Fn,Fm,e8];rw [show decide (((1+e.S.length / 64:Nat):Int)≤m)=false from decide_eq_false (by omega)]
 simp
def W8(n:Nat)(e:Expr)(m:Int)(hm:m≤1000)(hn:m+3≤n)(NW:3≤n)(he:lx e):
 ∃r:Nat,pM n e m=some (r:Int)∧1≤r∧(r:Int)≤(if m<0 then 0 else m)+144115188075855873∧((r:Int)≤m→r=pS e):=by
 by_cases h:m<0
 ·have ae:=((Gg e).1 he).2.1;exact⟨_,ahd n e m h (by omega) he,by omega,by rw [if_pos h];omega,λak=>by omega⟩
 ·obtain⟨k,rfl⟩:=Int.eq_ofNat_of_zero_le (show 0≤m by omega)
  obtain⟨r,Z,ae,ar,aK⟩:=ag' n e k (by omega) (by omega) he
  exact⟨r,Z,ae,by rw [if_neg h];omega,λak=>aK (by omega)⟩
def ahe:∀(n:Nat) (l:List Stmt) (m:Int),-4611686018427387904≤m→m≤1000→m+6≤n→5≤n→pU l→
 ∃r:Nat,wP n l m=some (r:Int)∧(r:Int)≤(if m<0 then 0 else m+576460752303423500)∧((r:Int)≤m→r=oW l):=by
 intro n;induction n with
 |zero=>intro l m _ _ _ h;omega
 |succ n a7=>
  intro l m ali hm hn NW af;simp only [wP,Na]
  have ih:∀(k i v:Nat),m+2≤v+k→1≤k→i≤v→(v:Int)≤(if m<0 then 0 else m+576460752303423500)→
   ∃r:Nat,Ah n (wP n) l m k (v:Int) (i:Int)=some (r:Int)∧v≤r∧(r:Int)≤(if m<0 then 0 else m+576460752303423500)∧((r:Int)≤m→r=v+oW (l.drop i)):=by
   intro k;induction k with
   |zero=>intro i v _ h;omega
   |succ k xe=>
    intro i v g1 g2 g3 g4;simp only [Ah,M_,M9,e8,alX];by_cases hi:i<l.length
    ·by_cases ay:(v:Int)≤m
     ·have W9:¬ m<0:=by omega
      rw [if_neg W9];simp only [if_neg W9]at xe g4;obtain⟨aY,a2,a3,a4,a5,oX⟩:=(Oh _).1 (W7 l i hi af)
      (simp only [alW])
      generalize hs:l.getD i default=s at aY a2 a3 a4 a5 oX
      simp only [hi,ay,alO,Bool.and_self,alQ,b6 hi,a_];rw [Og];rw [show al7 ((s.Name.length / 64:Nat):Int)=((s.Name.length / 64:Nat):Int)by rw [wr]<;>omega]
      rw [show al7 ((v:Int)+1)=((v+1:Nat):Int)by rw [wr]<;>omega]
      rw [show al7 (((v+1:Nat):Int)+((s.Name.length / 64:Nat):Int))=((v+1+s.Name.length / 64:Nat):Int)by rw [wr]<;>omega]
      rw [show al7 (m-((v+1+s.Name.length / 64:Nat):Int))=m-((v+1+s.Name.length / 64:Nat):Int)by rw [wr]<;>omega]
      obtain⟨ah,e1,cS,c1,d1⟩:=W8 n s.A (m-((v+1+s.Name.length / 64:Nat):Int)) (by omega) (by omega) (by omega) a3
      rw [e1];simp only [aC];have Pz:(v+1+s.Name.length / 64+ah:Nat)≤m+288230376151711750:=by split at c1<;>omega
      rw [show al7 (((v+1+s.Name.length / 64:Nat):Int)+(ah:Int))=((v+1+s.Name.length / 64+ah:Nat):Int)by rw [wr]<;>omega]
      rw [show al7 (m-((v+1+s.Name.length / 64+ah:Nat):Int))=m-((v+1+s.Name.length / 64+ah:Nat):Int)by rw [wr]<;>omega]
      obtain⟨ao,e2,hz,c2,d2⟩:=W8 n s.B (m-((v+1+s.Name.length / 64+ah:Nat):Int)) (by omega) (by omega) (by omega) a4
      rw [e2];simp only [aC];have PA:(v+1+s.Name.length / 64+ah+ao:Nat)≤m+432345564227567625:=by split at c2<;>omega
      rw [show al7 (((v+1+s.Name.length / 64+ah:Nat):Int)+(ao:Int))=((v+1+s.Name.length / 64+ah+ao:Nat):Int)by rw [wr]<;>omega]
      rw [show al7 (m-((v+1+s.Name.length / 64+ah+ao:Nat):Int))=m-((v+1+s.Name.length / 64+ah+ao:Nat):Int)by rw [wr]<;>omega]
      obtain⟨aE,e3,c3,d3⟩:=a7 s.Body (m-((v+1+s.Name.length / 64+ah+ao:Nat):Int)) (by omega) (by omega) (by omega) (by omega) a5
      rw [e3];simp only [aC];have alj:(v+1+s.Name.length / 64+ah+ao+aE:Nat)≤m+576460752303423500:=by split at c3<;>omega
      rw [show al7 (((v+1+s.Name.length / 64+ah+ao:Nat):Int)+(aE:Int))=((v+1+s.Name.length / 64+ah+ao+aE:Nat):Int)by rw [wr]<;>omega]
      rw [show al7 (m-((v+1+s.Name.length / 64+ah+ao+aE:Nat):Int))=m-((v+1+s.Name.length / 64+ah+ao+aE:Nat):Int)by rw [wr]<;>omega]
      obtain⟨bp,hK,c4,d4⟩:=a7 s.bN (m-((v+1+s.Name.length / 64+ah+ao+aE:Nat):Int)) (by omega) (by omega) (by omega) (by omega) oX
      rw [hK];simp only [aC];have alk:(v+1+s.Name.length / 64+ah+ao+aE+bp:Nat)≤m+576460752303423500:=by split at c4<;>omega
      rw [show al7 (((v+1+s.Name.length / 64+ah+ao+aE:Nat):Int)+(bp:Int))=((v+1+s.Name.length / 64+ah+ao+aE+bp:Nat):Int)by rw [wr]<;>omega]
      rw [ck (by omega)]
      obtain⟨r,f1,f2,f3,f4⟩:=xe (i+1) (v+1+s.Name.length / 64+ah+ao+aE+bp) (by omega) (by omega) (by omega) (by omega)
      refine⟨r,f1,by omega,f3,λak=>?_⟩
      have h0:=f4 ak;have Z:=d1 (by omega)
      have ae:=d2 (by omega)
      have ar:=d3 (by omega)
      have aK:=d4 (by omega)
      rw [gR l i default hi,hs];have:=ahb s
      simp only [oW];omega
     ·simp only [hi,ay,alO,alP,Bool.and_false,alR];exact⟨v,rfl,Nat.le_refl _,g4,λh=>absurd h ay⟩
    ·rw [iO l i hi];simp only [hi,alP,Bool.false_and,alR];exact⟨v,rfl,Nat.le_refl _,g4,λh=>rfl⟩
  obtain⟨r,f1,f2,f3,f4⟩:=ih n 0 0 (by omega) (by omega) (by omega) (by split<;>omega)
  exact⟨r,f1,f3,λak=>by rw [f4 ak,List.drop_zero];omega⟩
def pV(p:be):Prop:=p.Name.length≤9223372036854775807∧p.Params.length≤9223372036854775807∧(∀i,i<p.Params.length→(p.Params.getD i default).Name.length≤9223372036854775807)∧pU p.Body
def W':∀l:List Param,(∀i,i<l.length→(l.getD i default).Name.length≤200)→hv l≤400*l.length
 |[],_=>Nat.le_refl _
 |x::l,h=>by
  have h0:=h 0 (by simp)
  have Z:=W' l λi hi=>by have:=h (i+1) (by simpa using hi);simpa using this
  simp only [List.getD_cons_zero]at h0;simp only [hv,alU];omega
def Gj(p:be)(m:Nat):Prop:=p.Name.length≤200∧p.Params.length≤40∧hv p.Params≤16000∧oW p.Body≤m
def ahf{n:Nat}(p:be)(m:Nat)(hm:m≤1000)(hn:1100≤n)(hp:pV p):∃b,Aj n p (m:Int)=some b∧(b=true→Gj p m):=by
 obtain⟨Z,ae,ar,aK⟩:=hp;simp only [Aj,eg];by_cases hc:40<p.Params.length∨200<p.Name.length
 ·rw [show(decide (40<((p.Params.length:Nat):Int))||decide (200<((p.Name.length:Nat):Int)))=true by
   rcases hc with h|h
   ·rw [decide_eq_true (show 40<((p.Params.length:Nat):Int)by omega)];rfl
   ·rw [decide_eq_true (show 200<((p.Name.length:Nat):Int)by omega),al2]]
  exact⟨false,rfl,λh=>by cases h⟩
 ·rw [show(
   decide (40<((p.Params.length:Nat):Int))||decide (200<((p.Name.length:Nat):Int)))=false by
   rw [decide_eq_false (show¬ 40<((p.Params.length:Nat):Int)by omega),decide_eq_false (show¬ 200<((p.Name.length:Nat):Int)by omega)];rfl]
  simp only [alR]
  have ih:∀k i,p.Params.length<i+k→i≤p.Params.length→(∀j,j<i→(p.Params.getD j default).Name.length≤200)→∃b,Ai n (m:Int) p k (i:Int)=some b∧(b=true→Gj p m):=by
   intro k;induction k with
   |zero=>intro i g1 g2;omega
   |succ k xe=>
    intro i g1 g2 g3;simp only [Ai,Nc,Nb,alX,alW];by_cases hi:i<p.Params.length
    ·simp only [hi,alO,alQ,b6 hi,a_];by_cases hx:200<(p.Params.getD i default).Name.length
     ·rw [decide_eq_true (show 200<(((p.Params.getD i default).Name.length:Nat):Int)by omega)]
      exact⟨false,rfl,λh=>by cases h⟩
     ·rw [decide_eq_false (show¬ 200<(((p.Params.getD i default).Name.length:Nat):Int)by omega),ck (by omega)]
      exact xe (i+1) (by omega) (by omega) λj hj=>by
       by_cases h:j<i
       ·exact g3 j h
       ·obtain rfl:j=i:=by omega
        omega
    ·simp only [hi,alP,alR];obtain⟨r,f1,f2,f3⟩:=ahe n p.Body (m:Int) (by omega) (by omega) (by omega) (by omega) aK
     rw [f1];refine⟨_,rfl,λhb=>?_⟩
     have hb:=of_decide_eq_true hb;have:=f3 hb
     have ba:=W' p.Params λj hj=>g3 j (by omega)
     exact⟨by omega,by omega,by omega,by omega⟩
  exact ih n 0 (by omega) (by omega) λj hj=>by omega
open Go Go.Ab Go.Proofs
abbrev iQ:Expr:=⟨0,0,[],[]⟩
def ly(e:Expr):Prop:=hL e∧h2 e≤12
def Be(s:Stmt):Prop:=
 ((s.Op=1∨s.Op=2)∧s=⟨s.Op,s.Name,0,s.A,iQ,[],[]⟩∧gp s.Name=true∧ly s.A)∨
 (s=⟨3,[],0,s.A,s.B,[],[]⟩∧ly s.A∧ly s.B)∨
 ((s.Op=4∨s.Op=7)∧s=⟨s.Op,[],0,s.A,iQ,[],[]⟩∧ly s.A)∨
 (s=⟨5,[],0,s.A,iQ,s.Body,s.bN⟩∧ly s.A)∨
 (s=⟨6,s.Name,s.Max,s.A,s.B,s.Body,[]⟩∧gp s.Name=true∧(1≤s.Max∧s.Max≤16)∧ly s.A∧ly s.B)∨
 (s=⟨8,[],s.Max,iQ,iQ,[],[]⟩∧0≤s.Max∧s.Max≤999)
mutual
def xf:Stmt→Nat→Prop
 |⟨Op,Name,Max,A,B,Body,bN⟩,d=>d≤12∧Be ⟨Op,Name,Max,A,B,Body,bN⟩∧kL Body (d+1)∧kL bN (d+1)
def kL:List Stmt→Nat→Prop
 |[],_=>True
 |s::l,d=>xf s d∧kL l d
end
def Gk(s:Stmt)(d:Nat):xf s d↔d≤12∧Be s∧kL s.Body (d+1)∧kL s.bN (d+1):=by cases s;rfl
def un{e:Expr}(h:lW e=true):e=iQ:=by
 obtain⟨a,b,c,l⟩:=e;unfold lW at h;simp only [Bool.and_eq_true,decide_eq_true_eq]at h;obtain⟨⟨⟨rfl,rfl⟩,rfl⟩,h⟩:=h;rw [List.length_eq_zero_iff]at h;subst h;rfl
def qM{e:Expr}(hi:lx e)(h:gf e 1=0):ly e:=by
 obtain⟨Z,ae⟩:=ag_ (h2 e) e 1 (Nat.le_refl _) hi h (by omega)
 exact⟨Z,by omega⟩
def ahg{s:Stmt}{d:Int}(hi:pT s)(h:jr s d=0):d≤12∧Be s:=by
 obtain⟨i1,i2,i3,i4,i5,i6⟩:=(Oh s).1 hi;unfold jr at h;split at h
 ·omega
 rename_i g1;split at h
 ·omega
 rename_i g2;split at h
 ·rename_i g;exact absurd h g.2
 rename_i g3;split at h
 ·rename_i g;exact absurd h g.2
 rename_i g4;split at h
 ·omega
 rename_i g5;refine⟨by omega,?_⟩
 simp only [not_or,not_and,Bool.not_eq_false,Bool.not_eq_true,Decidable.not_not]at g1 g2 g3 g4;obtain⟨aY,a2,a3⟩:=g1
 have gM:1≤s.Op∧s.Op≤8:=by
  by_cases bx:1≤s.Op∧s.Op≤8
  ·exact bx
  ·rw [show jc s.Op=(⟨false,false,false,false,false,false⟩,false) by
    unfold jc;rw [if_neg (by omega),if_neg (by omega),if_neg (by omega),if_neg (by omega),if_neg (by omega),if_neg (by omega)]]at aY
   cases aY
 obtain⟨Op,Name,Max,A,B,Body,bN⟩:=s;simp only at *
 obtain rfl|rfl|rfl|rfl|rfl|rfl|rfl|rfl:Op=1∨Op=2∨Op=3∨Op=4∨Op=5∨Op=6∨Op=7∨Op=8:=by omega
 all_goals
  simp only [xa,pR,jc]at a2 a3 g2 g3 g4;simp [-List.length_eq_zero_iff]at a2 a3 g2 g3 g4
 all_goals unfold Be;simp only []
 ·obtain⟨⟨⟨ci,rfl⟩,Z⟩,ae⟩:=a2;obtain rfl:=un ci;obtain rfl:=List.eq_nil_of_length_eq_zero Z;obtain rfl:=List.eq_nil_of_length_eq_zero ae;exact Or.inl ⟨Or.inl trivial,rfl,g2,qM i3 g3⟩
 ·obtain⟨⟨⟨ci,rfl⟩,Z⟩,ae⟩:=a2;obtain rfl:=un ci;obtain rfl:=List.eq_nil_of_length_eq_zero Z;obtain rfl:=List.eq_nil_of_length_eq_zero ae;exact Or.inl ⟨Or.inr trivial,rfl,g2,qM i3 g3⟩
 ·obtain⟨⟨⟨rfl,rfl⟩,Z⟩,ae⟩:=a2;obtain rfl:=List.eq_nil_of_length_eq_zero Z;obtain rfl:=List.eq_nil_of_length_eq_zero ae;exact Or.inr (Or.inl ⟨rfl,qM i3 g3,qM i4 g4⟩)
 ·obtain⟨⟨⟨⟨rfl,ci⟩,rfl⟩,Z⟩,ae⟩:=a2;obtain rfl:=un ci;obtain rfl:=List.eq_nil_of_length_eq_zero Z;obtain rfl:=List.eq_nil_of_length_eq_zero ae;exact Or.inr (Or.inr (Or.inl ⟨Or.inl trivial,rfl,qM i3 g3⟩))
 ·obtain⟨⟨rfl,ci⟩,rfl⟩:=a2;obtain rfl:=un ci;exact Or.inr (Or.inr (Or.inr (Or.inl ⟨rfl,qM i3 g3⟩)))
 ·obtain rfl:=List.eq_nil_of_length_eq_zero a2;exact Or.inr (Or.inr (Or.inr (Or.inr (Or.inl ⟨rfl,g2,a3,qM i3 g3,qM i4 g4⟩))))
 ·obtain⟨⟨⟨⟨rfl,ci⟩,rfl⟩,Z⟩,ae⟩:=a2;obtain rfl:=un ci;obtain rfl:=List.eq_nil_of_length_eq_zero Z;obtain rfl:=List.eq_nil_of_length_eq_zero ae;exact Or.inr (Or.inr (Or.inl ⟨Or.inr trivial,rfl,qM i3 g3⟩))
 ·obtain⟨⟨⟨⟨rfl,ec⟩,ci⟩,Z⟩,ae⟩:=a2;obtain rfl:=un ec;obtain rfl:=un ci;obtain rfl:=List.eq_nil_of_length_eq_zero Z;obtain rfl:=List.eq_nil_of_length_eq_zero ae;exact Or.inr (Or.inr (Or.inr (Or.inr (Or.inr ⟨rfl,a3⟩))))
mutual
def W_:∀(s:Stmt) (d:Int) (r:Nat×Int),(oQ s d r).2=0→r.2=0∧jr s d=0
 |⟨Op,Name,Max,A,B,Body,bN⟩,d,r,h=>by
  simp only [oQ]at h;have Z:=Bf Body _ _ (Bf bN _ _ h);simp only at Z
  by_cases h0:r.2=0
  ·rw [if_pos h0]at Z;exact⟨h0,Z⟩
  ·rw [if_neg h0]at Z;exact absurd Z h0
def Bf:∀(l:List Stmt) (d:Int) (r:Nat×Int),(gX l d r).2=0→r.2=0
 |[],d,r,h=>h
 |s::l,d,r,h=>by
  simp only [gX]at h;split at h
  ·exact h
  ·exact(W_ s d r (Bf l d _ h)).1
end
mutual
def ahh:∀(s:Stmt) (d:Nat) (r:Nat×Int),pT s→(oQ s (d:Int) r).1≠0→(oQ s (d:Int) r).2=0→xf s d
 |⟨Op,Name,Max,A,B,Body,bN⟩,d,r,hi,Z,ae=>by
  have hs:=ahg hi (W_ _ _ _ ae).2;obtain⟨i1,i2,i3,i4,i5,i6⟩:=(Oh _).1 hi;have hd:al7 ((d:Int)+1)=((d+1:Nat):Int):=by rw [wr]<;>omega
  simp only [oQ,hd]at Z ae;have cN:=Bf _ _ _ ae;have aj:=rV bN ((d+1:Nat):Int) (gX Body ((d+1:Nat):Int) (jd B (jd A (r.1-1)),if r.2=0 then jr ⟨Op,Name,Max,A,B,Body,bN⟩ d else r.2))
  exact⟨by omega,hs.2,Gl Body (d+1) _ i5 (by omega) cN,Gl bN (d+1) _ i6 Z ae⟩
def Gl:∀(l:List Stmt) (d:Nat) (r:Nat×Int),pU l→(gX l (d:Int) r).1≠0→(gX l (d:Int) r).2=0→kL l d
 |[],d,r,_,_,_=>trivial
 |s::l,d,r,hi,Z,ae=>by
  simp only [gX]at Z ae;split at Z
  ·rename_i h;exact absurd h Z
  ·rename_i h;rw [if_neg h]at ae;have k:=rV l (d:Int) (oQ s (d:Int) r);exact⟨ahh s d r hi.1 (by omega) (Bf _ _ _ ae),Gl l d _ hi.2 Z ae⟩
end
def Xa(p:be):Prop:=gp p.Name=true∧oO p.Params=0∧kL p.Body 1
def Oi{p:be}(hi:pV p)(h:nb p=0):Xa p:=by
 unfold nb at h;split at h
 ·omega
 rename_i g1;split at h
 ·rename_i g;exact absurd h g
 rename_i g2;split at h
 ·omega
 rename_i g3;simp only [Bool.not_eq_false,Decidable.not_not]at g1 g2;exact⟨g1,g2,Gl p.Body 1 (401,0) hi.2.2.2 (λe=>g3 ⟨h,e⟩) h⟩
open Go Go.Ab Go.Proofs
def ind:Nat→al5
 | 0=>[]
 |d+1=>32::32::32::32::ind d
def cat:List al5→al5
 |[]=>[]
 |x::l=>x++cat l
def eh(d:Nat)(l:List al5):al5:=ind d++(cat l++[10])
abbrev fO(e:Expr):al5:=flat (cX e)
abbrev Xb(e:Expr):List Token:=lv (cX e)
mutual
def fB:Stmt→Nat→al5
 |⟨Op,Name,Max,A,B,Body,bN⟩,d=>
  if Op=1 then eh d [[108,101,116,32],Name,[32,61,32],fO A,[59]]
  else if Op=2 then eh d [Name,[32,61,32],fO A,[59]]
  else if Op=3 then eh d [[112,117,116,32],fO A,[32,61,32],fO B,[59]]
  else if Op=4 then eh d [[100,101,108,101,116,101,32],fO A,[59]]
  else if Op=5 then eh d [[105,102,32],fO A,[32,123]]++(fX Body (d+1)++((if bN.length=0 then[]else eh d [[125,32,101,108,115,101,32,123]]++fX bN (d+1))++eh d [[125]]))
  else if Op=6 then eh d [[102,111,114,32],Name,[32,61,32],fO A,[32,116,111,32],fO B,[32,109,97,120,32],Lib.decDigits Max.toNat,[32,123]]++(fX Body (d+1)++eh d [[125]])
  else if Op=7 then eh d [[101,109,105,116,32],fO A,[59]]
  else eh d [[97,98,111,114,116,32],Lib.decDigits Max.toNat,[59]]
def fX:List Stmt→Nat→al5
 |[],_=>[]
 |s::l,d=>fB s d++fX l d
end
open Go Go.Ab Go.Proofs
def Xc(n:Nat)(s b:al5)(x:Int)(h:b.length+s.length≤1000000000):y6 n s (fA b) x=some (((s.length:Nat):Int),fA (b++s)):=by
 unfold y6 vK;rw [show(fA b).length+s.length=b.length+s.length by simp [fA],N' (by omega)]
 simp [fA,aC,a_]
def ahi(n:Nat)(b:al5)(x:Int)(h:b.length≤1000000000):Dp n 10 (fA b) x=some (fA (b++[10])):=by
 unfold Dp vK;rw [show(fA b).length+([10]:List Int).length=b.length+1 by simp [fA],N' (by omega)]
 simp [fA,aC,a_]
def Oj:∀l m:List al5,cat (l++m)=cat l++cat m
 |[],m=>rfl
 |x::l,m=>by simp only [List.cons_append,cat,Oj l m,List.append_assoc]
def Ok:∀d,ind (d+1)=ind d++[32,32,32,32]
 | 0=>rfl
 |d+1=>by
  show 32::32::32::32::ind (d+1)=(32::32::32::32::ind d)++[32,32,32,32]
  rw [Ok d];rfl
def Bg:∀d,(ind d).length=4*d
 | 0=>rfl
 |d+1=>by simp only [ind,alU,Bg d];omega
def ahj(n:Nat)(parts:List al5)(d:Nat)(b:al5)(af:b.length+(cat parts).length≤1000000000)(hp:parts.length≤1000):∀m i,parts.length<i+m→i≤parts.length→
 y7 n parts (d:Int) m (fA (b++cat (parts.take i))) (i:Int)=some (fA (b++(cat parts++[10]))):=by
 intro m;induction m with
 |zero=>intro i Z ae;omega
 |succ m a7=>
  intro i Z ae;have hc:cat parts=cat (parts.take i)++cat (parts.drop i):=by rw [←Oj,List.take_append_drop]
  have hf:(cat parts).length=(cat (parts.take i)).length+(cat (parts.drop i)).length:=by rw [hc,alY]
  simp only [y7,JH,JG,alX,alW];by_cases hi:i<parts.length
  ·rw [gR parts i default hi]at hf;simp only [cat,alY]at hf;simp only [hi,alO,alQ,b6 hi,a_];rw [Xc n _ _ _ (by rw [alY];omega),ck (by omega)]
   simp only [aC];have:=a7 (i+1) (by omega) (by omega)
   rw [uh parts i hi,Oj]at this;simp only [cat,List.append_nil]at this;rw [List.append_assoc];exact this
  ·simp only [hi,alP,alR];obtain rfl:i=parts.length:=by omega
   rw [List.take_length,ahi n _ _ (by rw [alY];omega)]
   simp only [aC,List.append_assoc]
def mz{n:Nat}(parts:List al5)(d:Nat)(b:al5)(af:b.length+(cat parts).length≤900000000)(hp:parts.length≤10)(hd:d≤100)(hn:200≤n):
 lk n parts (fA b) (d:Int)=some (fA (b++eh d parts)):=by
 have ih:∀m i,d<i+m→i≤d→y8 n parts (d:Int) m (fA (b++ind i)) (i:Int)=some (fA (b++eh d parts)):=by
  intro m;induction m with
  |zero=>intro i Z ae;omega
  |succ m a7=>
   intro i Z ae;have uU:=Bg i;simp only [y8,JJ,JI,alX];by_cases hi:i<d
   ·simp only [hi,alO,alQ];rw [Xc n _ _ _ (by simp only [alY,alU,alV];omega),ck (by omega)]
    simp only [aC];have:=a7 (i+1) (by omega) (by omega)
    rw [Ok]at this;rw [List.append_assoc];exact this
   ·simp only [hi,alP,alR];obtain rfl:i=d:=by omega
    have:=ahj n parts i (b++ind i) (by rw [alY];omega) (by omega) n 0 (by omega) (by omega)
    simp only [List.take_zero,cat,List.append_nil]at this;rw [show((0:Nat):Int)=0 from rfl]at this
    rw [this,eh,List.append_assoc]
 have:=ih n 0 (by omega) (by omega)
 simp only [ind,List.append_nil]at this;exact this
def kM(d:Nat)(l:List al5):(eh d l).length=4*d+(cat l).length+1:=by
 unfold eh;simp only [alY,Bg,alU,alV];omega
def lz{e:Expr}(h:ly e):(fO e).length≤4*db e:=pg (h2 e) e (Nat.le_refl _) h.1
mutual
def Xd:∀(s:Stmt) (d:Nat),xf s d→(fB s d).length≤4*fst s
 |⟨Op,Name,Max,A,B,Body,bN⟩,d,h=>by
  obtain⟨hd,hs,dc,fR⟩:=(Gk _ _).1 h;have alm:=nd Body (d+1) dc;have aln:=nd bN (d+1) fR;rcases hs with⟨ax,aB,hn,ec⟩|⟨aB,ec,ci⟩|⟨ax,aB,ec⟩|⟨aB,ec⟩|⟨aB,hn,hm,ec,ci⟩|⟨aB,hm⟩
  ·simp only [Stmt.mk.injEq,true_and,and_true]at aB ax;obtain⟨rfl,rfl,rfl,rfl⟩:=aB;have Z:=lz ec;have ae:=oU hn;simp only at Z ae
   rcases ax with rfl|rfl
   ·rw [show fB ⟨1,Name,0,A,iQ,[],[]⟩ d=eh d [[108,101,116,32],Name,[32,61,32],fO A,[59]]by simp [fB],kM]
    simp only [cat,fst,alY,alU,alV];omega
   ·rw [show fB ⟨2,Name,0,A,iQ,[],[]⟩ d=eh d [Name,[32,61,32],fO A,[59]]by simp [fB],kM]
    simp only [cat,fst,alY,alU,alV];omega
  ·simp only [Stmt.mk.injEq,true_and,and_true]at aB;obtain⟨rfl,rfl,rfl,rfl,rfl⟩:=aB;have Z:=lz ec;have ae:=lz ci;simp only at Z ae
   rw [show fB ⟨3,[],0,A,B,[],[]⟩ d=eh d [[112,117,116,32],fO A,[32,61,32],fO B,[59]]by simp [fB],kM]
   simp only [cat,fst,alY,alU,alV];omega
  ·simp only [Stmt.mk.injEq,true_and,and_true]at aB ax;obtain⟨rfl,rfl,rfl,rfl,rfl⟩:=aB;have Z:=lz ec;simp only at Z
   rcases ax with rfl|rfl
   ·rw [show fB ⟨4,[],0,A,iQ,[],[]⟩ d=eh d [[100,101,108,101,116,101,32],fO A,[59]]by simp [fB],kM]
    simp only [cat,fst,alY,alU,alV];omega
   ·rw [show fB ⟨7,[],0,A,iQ,[],[]⟩ d=eh d [[101,109,105,116,32],fO A,[59]]by simp [fB],kM]
    simp only [cat,fst,alY,alU,alV];omega
  ·simp only [Stmt.mk.injEq,true_and,and_true]at aB;obtain⟨rfl,rfl,rfl,rfl⟩:=aB;have Z:=lz ec;simp only at Z
   have ae:(fB ⟨5,[],0,A,iQ,Body,bN⟩ d).length≤(eh d [[105,102,32],fO A,[32,123]]).length+((fX Body (d+1)).length+(((eh d [[125,32,101,108,115,101,32,123]]).length+(fX bN (d+1)).length)+(eh d [[125]]).length)):=by
    by_cases af:bN.length=0
    ·simp [fB,af]
    ·simp [fB,af];omega
   simp only [kM,cat,alY,alU,alV]at ae;simp only [fst];omega
  ·simp only [Stmt.mk.injEq,true_and,and_true]at aB;obtain⟨rfl,rfl⟩:=aB;have hm:1≤Max∧Max≤16:=hm;have Z:=lz ec;have ae:=lz ci;have ar:=oU hn;have aK:=xb Max (by omega) (by omega)
   simp only at Z ae ar
   have bc:fB ⟨6,Name,Max,A,B,Body,[]⟩ d=eh d [[102,111,114,32],Name,[32,61,32],fO A,[32,116,111,32],fO B,[32,109,97,120,32],Lib.decDigits Max.toNat,[32,123]]++(fX Body (d+1)++eh d [[125]]):=by simp [fB]
   rw [bc];simp only [kM,cat,fst,alY,alU,alV];omega
  ·simp only [Stmt.mk.injEq,true_and,and_true]at aB;obtain⟨rfl,rfl,rfl,rfl,rfl,rfl⟩:=aB;have hm:0≤Max∧Max≤999:=hm;have aK:=xb Max (by omega) (by omega)
   rw [show fB ⟨8,[],Max,iQ,iQ,[],[]⟩ d=eh d [[97,98,111,114,116,32],Lib.decDigits Max.toNat,[59]]by simp [fB],kM]
   simp only [cat,fst,alY,alU,alV];omega
def nd:∀(l:List Stmt) (d:Nat),kL l d→(fX l d).length≤4*eb l
 |[],d,h=>Nat.le_refl _
 |s::l,d,h=>by
  have Z:=Xd s d h.1;have ae:=nd l d h.2;simp only [fX,eb,alY];omega
end
def Xe(n:Nat)(i:Int)(h0:0≤i)(Z:i≤9223372036854775807):te n i=some (Lib.decDigits i.toNat):=W0 n i h0 Z
open Go Go.Ab Go.Proofs
def ahk(n:Nat):pE (n+1)=Dx n (pE n) (tg n) (th n):=rfl
def ahl(n:Nat):tg (n+1)=Dz n (pE n) (tg n) (th n):=rfl
def ahm(n:Nat):th (n+1)=DA n (pE n) (tg n) (th n):=rfl
def qN{n:Nat}{e:Expr}(h:ly e)(hn:300≤n)(ba:db e≤1000000):kZ n e=some (fO e):=ag5 (h2 e) e n (Nat.le_refl _) h.1 (by have:=h.2;omega) ba
def qO(n:Nat)(l:List Stmt)(d:Nat)(b:al5):Prop:=pE n l (fA b) (d:Int)=some (fA (b++fX l (d+1)),(d:Int))
def ahn{n d:Nat}{b:al5}{A:Expr}{Body bN:List Stmt}(ec:ly A)(ba:db A≤300000)(hd:d≤12)(hn:400≤n)(hb:b.length≤10000000)(fk:(fX Body (d+1)).length≤10000000)(eC:(fX bN (d+1)).length≤10000000)
 (ci:∀bC:al5,bC.length≤b.length+4*db A+100→qO n Body d bC) (cw:∀bC:al5,bC.length≤b.length+4*db A+200+(fX Body (d+1)).length→qO n bN d bC):
 tg (n+1) ⟨5,[],0,A,iQ,Body,bN⟩ (fA b) (d:Int)=some (fA (b++fB ⟨5,[],0,A,iQ,Body,bN⟩ d),(d:Int)):=by
 have Z:=lz ec;rw [ahl];simp only [Dz,Dy,lu];rw [qN ec (by omega) (by omega)]
 simp only [aC];rw [mz _ d b (by simp only [cat,alY,alU,alV];omega) (by simp) (by omega) (by omega)]
 simp only [aC];have e1:=ci (b++eh d [[105,102,32],fO A,[32,123]]) (by simp only [alY,kM,cat,alU,alV];omega)
 unfold qO at e1;rw [e1];simp only [aC];by_cases af:bN.length=0
 ·rw [show decide (0<((bN.length:Nat):Int))=false from decide_eq_false (by omega)]
  simp only [alR];rw [mz _ d _ (by simp only [alY,kM,cat,alU,alV];omega) (by simp) (by omega) (by omega)]
  simp only [aC];have:fB ⟨5,[],0,A,iQ,Body,bN⟩ d=eh d [[105,102,32],fO A,[32,123]]++(fX Body (d+1)++eh d [[125]]):=by simp [fB,af]
  rw [this];simp only [List.append_assoc]
 ·rw [show decide (0<((bN.length:Nat):Int))=true from decide_eq_true (by omega)]
  simp only [alQ];rw [mz _ d _ (by simp only [alY,kM,cat,alU,alV];omega) (by simp) (by omega) (by omega)]
  simp only [aC];have e2:=cw (b++eh d [[105,102,32],fO A,[32,123]]++fX Body (d+1)++eh d [[125,32,101,108,115,101,32,123]]) (by simp only [alY,kM,cat,alU,alV];omega)
  unfold qO at e2;rw [e2];simp only [aC];rw [mz _ d _ (by simp only [alY,kM,cat,alU,alV];omega) (by simp) (by omega) (by omega)]
  simp only [aC];have:fB ⟨5,[],0,A,iQ,Body,bN⟩ d=eh d [[105,102,32],fO A,[32,123]]++(fX Body (d+1)++((eh d [[125,32,101,108,115,101,32,123]]++fX bN (d+1))++eh d [[125]])):=by simp [fB,af]
  rw [this];simp only [List.append_assoc]
def aho{n d:Nat}{b:al5}{Name:al5}{Max:Int}{A B:Expr}{Body:List Stmt}(ec:ly A)(Xf:ly B)(ba:db A≤300000)(q3:db B≤300000)(bz:gp Name=true)(hm:1≤Max∧Max≤16)(hd:d≤12)(hn:400≤n)(hb:b.length≤10000000)(fk:(fX Body (d+1)).length≤10000000)
 (ci:∀bC:al5,bC.length≤b.length+4*db A+4*db B+120→qO n Body d bC):
 th (n+1) ⟨6,Name,Max,A,B,Body,[]⟩ (fA b) (d:Int)=some (fA (b++fB ⟨6,Name,Max,A,B,Body,[]⟩ d),(d:Int)):=by
 have Z:=lz ec;have ae:=lz Xf;have ar:=oU bz;have aK:=xb Max (by omega) (by omega)
 rw [ahm];simp only [DA,lu];rw [qN ec (by omega) (by omega),qN Xf (by omega) (by omega),Xe n Max (by omega) (by omega)]
 simp only [aC];rw [mz _ d b (by simp only [cat,alY,alU,alV];omega) (by simp) (by omega) (by omega)]
 simp only [aC];have e1:=ci (b++eh d [[102,111,114,32],Name,[32,61,32],fO A,[32,116,111,32],fO B,[32,109,97,120,32],Lib.decDigits Max.toNat,[32,123]]) (by simp only [alY,kM,cat,alU,alV];omega)
 unfold qO at e1;rw [e1];simp only [aC];rw [mz _ d _ (by simp only [alY,kM,cat,alU,alV];omega) (by simp) (by omega) (by omega)]
 simp only [aC];have:fB ⟨6,Name,Max,A,B,Body,[]⟩ d=eh d [[102,111,114,32],Name,[32,61,32],fO A,[32,116,111,32],fO B,[32,109,97,120,32],Lib.decDigits Max.toNat,[32,123]]++(fX Body (d+1)++eh d [[125]]):=by simp [fB]
 rw [this];simp only [List.append_assoc]
def Ol:∀(l:List Stmt) (i d:Nat),i<l.length→kL l d→xf (l.getD i default) d
 |[],i,d,h,_=>by simp at h
 |x::l,0,d,h,af=>af.1
 |x::l,i+1,d,h,af=>by simp only [List.getD_cons_succ];exact Ol l i d (by simpa using h) af.2
def Om:∀(l m:List Stmt) (d:Nat),kL (l++m) d↔kL l d∧kL m d
 |[],m,d=>by simp [kL]
 |x::l,m,d=>by simp only [List.cons_append,kL,Om l m d,and_assoc]
def On:∀(l m:List Stmt) (d:Nat),fX (l++m) d=fX l d++fX m d
 |[],m,d=>rfl
 |x::l,m,d=>by simp only [List.cons_append,fX,On l m d,List.append_assoc]
def ahp:∀(n:Nat) (l:List Stmt) (d:Nat) (b:al5),kL l (d+1)→d≤12→eb l≤300000→2*eb l+500≤n→b.length+4*eb l≤9000000→qO n l d b:=by
 intro n;induction n using Nat.strongRecOn with
 |_ n a7=>
  intro l d b eK hd ba hn hb;obtain⟨n,rfl⟩:∃k,n=k+2:=⟨n-2,by omega⟩
  have hlen:=A4 l;unfold qO;rw [ahk];unfold Dx;rw [ck (by omega)]
  have ih:∀m i,l.length<i+m→i≤l.length→zb (n+1) (pE (n+1)) (tg (n+1)) (th (n+1)) l m (fA (b++fX (l.take i) (d+1))) ((d+1:Nat):Int) (i:Int)=some (fA (b++fX l (d+1)),(d:Int)):=by
   intro m;induction m with
   |zero=>intro i Z ae;omega
   |succ m na=>
    intro i Z ae;simp only [zb,JY,JX,alX,alW,lu,ue];by_cases hi:i<l.length
    ·simp only [hi,alO,alQ,b6 hi,a_];have dH:=Ol l i (d+1) hi eK;have Oo:kL (l.take i) (d+1):=((Om (l.take i) (l.drop i) (d+1)).1 (by rw [List.take_append_drop];exact eK)).1
     have oh:=nd _ _ Oo
     have yw:eb l=eb (l.take i)+(fst (l.getD i default)+1+eb (l.drop (i+1))):=by
      have:eb l=eb (l.take i++l.drop i):=by rw [List.take_append_drop]
      rw [NV,gR l i default hi]at this;simpa only [eb]using this
     have fS:=na (i+1) (by omega) (by omega)
     rw [uh l i hi,On,←List.append_assoc]at fS;simp only [fX,List.append_nil]at fS;have l7:(b++fX (l.take i) (d+1)).length≤b.length+4*eb (l.take i):=by rw [alY];omega
     generalize b++fX (l.take i) (d+1)=xg at fS l7
     rw [ck (by omega)]
     generalize l.getD i default=s at dH yw fS
     have mN:=fst_eq s;obtain⟨jz,hs,dc,fR⟩:=(Gk _ _).1 dH;obtain⟨Op,Name,Max,A,B,Body,bN⟩:=s;simp only at mN dc fR
     rcases hs with⟨ax,aB,bz,ec⟩|⟨aB,ec,ci⟩|⟨ax,aB,ec⟩|⟨aB,ec⟩|⟨aB,bz,hm,ec,ci⟩|⟨aB,hm⟩
     ·simp only [Stmt.mk.injEq,true_and,and_true]at aB ax;obtain⟨rfl,rfl,rfl,rfl⟩:=aB;have ar:=lz ec;have aK:=oU bz;simp only at ar aK
      rcases ax with rfl|rfl
      ·simp only [show pB (n+1) 1=some (.inl ())from rfl,aC,hA.on,JT,lu]
       rw [qN ec (by omega) (by show db A≤_;omega)]
       simp only [aC];rw [mz _ (d+1) xg (by simp only [cat,alY,alU,alV];omega) (by simp) (by omega) (by omega)]
       simp only [aC];rw [show fB ⟨1,Name,0,A,iQ,[],[]⟩ (d+1)=eh (d+1) [[108,101,116,32],Name,[32,61,32],fO A,[59]]by simp [fB]]at fS
       exact fS
      ·simp only [show pB (n+1) 2=some (.inr (.inl ()))from rfl,aC,hA.on,JS,lu]
       rw [qN ec (by omega) (by show db A≤_;omega)]
       simp only [aC];rw [mz _ (d+1) xg (by simp only [cat,alY,alU,alV];omega) (by simp) (by omega) (by omega)]
       simp only [aC];rw [show fB ⟨2,Name,0,A,iQ,[],[]⟩ (d+1)=eh (d+1) [Name,[32,61,32],fO A,[59]]by simp [fB]]at fS
       exact fS
     ·simp only [Stmt.mk.injEq,true_and,and_true]at aB;obtain⟨rfl,rfl,rfl,rfl,rfl⟩:=aB;have ar:=lz ec;have aK:=lz ci;simp only at ar aK
      simp only [show pB (n+1) 3=some (.inr (.inr (.inl ())))from rfl,aC,hA.on,JV,lu]
      rw [qN ec (by omega) (by show db A≤_;omega),qN ci (by omega) (by show db B≤_;omega)]
      simp only [aC];rw [mz _ (d+1) xg (by simp only [cat,alY,alU,alV];omega) (by simp) (by omega) (by omega)]
      simp only [aC];rw [show fB ⟨3,[],0,A,B,[],[]⟩ (d+1)=eh (d+1) [[112,117,116,32],fO A,[32,61,32],fO B,[59]]by simp [fB]]at fS
      exact fS
     ·simp only [Stmt.mk.injEq,true_and,and_true]at aB ax;obtain⟨rfl,rfl,rfl,rfl,rfl⟩:=aB;have ar:=lz ec;simp only at ar
      rcases ax with rfl|rfl
      ·simp only [show pB (n+1) 4=some (.inr (.inr (.inr (.inl ()))))from rfl,aC,hA.on,JW,lu]
       rw [qN ec (by omega) (by show db A≤_;omega)]
       simp only [aC];rw [mz _ (d+1) xg (by simp only [cat,alY,alU,alV];omega) (by simp) (by omega) (by omega)]
       simp only [aC];rw [show fB ⟨4,[],0,A,iQ,[],[]⟩ (d+1)=eh (d+1) [[100,101,108,101,116,101,32],fO A,[59]]by simp [fB]]at fS
       exact fS
      ·simp only [show pB (n+1) 7=some (.inr (.inr (.inr (.inr (.inr (.inr (.inl ())))))))from rfl,aC,hA.on,JU,lu]
       rw [qN ec (by omega) (by show db A≤_;omega)]
       simp only [aC];rw [mz _ (d+1) xg (by simp only [cat,alY,alU,alV];omega) (by simp) (by omega) (by omega)]
       simp only [aC];rw [show fB ⟨7,[],0,A,iQ,[],[]⟩ (d+1)=eh (d+1) [[101,109,105,116,32],fO A,[59]]by simp [fB]]at fS
       exact fS
     ·simp only [Stmt.mk.injEq,true_and,and_true]at aB;obtain⟨rfl,rfl,rfl,rfl⟩:=aB;have fk:=nd _ _ dc;have eC:=nd _ _ fR;simp only [show pB (n+1) 5=some (.inr (.inr (.inr (.inr (.inl ())))))from rfl,aC,hA.on]
      rw [ahn (A:=A) ec (by show db A≤_;omega) (by omega) (by omega) (by omega) (by omega) (by omega)
       (λbC bQ=>a7 n (by omega) Body (d+1) bC dc (by omega) (by omega) (by omega) (by omega)) (λbC bQ=>a7 n (by omega) bN (d+1) bC fR (by omega) (by omega) (by omega) (by omega))]
      exact fS
     ·simp only [Stmt.mk.injEq,true_and,and_true]at aB;obtain⟨rfl,rfl⟩:=aB;have fk:=nd _ _ dc;simp only [show pB (n+1) 6=some (.inr (.inr (.inr (.inr (.inr (.inl ()))))))from rfl,aC,hA.on]
      rw [aho (A:=A) (B:=B) ec ci (by show db A≤_;omega) (by show db B≤_;omega) bz hm (by omega) (by omega) (by omega) (by omega)
       (λbC bQ=>a7 n (by omega) Body (d+1) bC dc (by omega) (by omega) (by omega) (by omega))]
      exact fS
     ·simp only [Stmt.mk.injEq,true_and,and_true]at aB;obtain⟨rfl,rfl,rfl,rfl,rfl,rfl⟩:=aB;have hm:0≤Max∧Max≤999:=hm;have aK:=xb Max (by omega) (by omega)
      simp only [show pB (n+1) 8=some (.inr (.inr (.inr (.inr (.inr (.inr (.inr ())))))))from rfl,aC,hA.on,JK,lu]
      rw [Xe _ Max (by omega) (by omega)]
      simp only [aC];rw [mz _ (d+1) xg (by simp only [cat,alY,alU,alV];omega) (by simp) (by omega) (by omega)]
      simp only [aC];rw [show fB ⟨8,[],Max,iQ,iQ,[],[]⟩ (d+1)=eh (d+1) [[97,98,111,114,116,32],Lib.decDigits Max.toNat,[59]]by simp [fB]]at fS
      exact fS
    ·simp only [hi,alP,alR];obtain rfl:i=l.length:=by omega
     rw [List.take_length,show al7 (((d+1:Nat):Int)-1)=(d:Int)by rw [wr]<;>omega]
  have:=ih (n+1) 0 (by omega) (by omega)
  simp only [List.take_zero,fX,List.append_nil]at this;exact this
open Go Go.Ab Go.Proofs
section
variable {l:List Token}
end
open Go Go.Ab Go.Proofs
section
variable {l:List Token}
end
open Go Go.Ab Go.Proofs
def uo(t:Int):al5:=if t=1 then[105,110,116]else if t=2 then[115,116,114] else[98,111,111,108]
def oY(x:Param):al5:=(x.Name++[58,32])++uo x.fy
def Bh(x:Param):Prop:=gp x.Name=true∧1≤x.fy∧x.fy≤3
def Xg:∀(l b:List Param),rU b l=0→∀x,x∈l→Bh x
 |[],b,h,x,hx=>by cases hx
 |y::l,b,h,x,hx=>by
  unfold rU at h;split at h
  ·omega
  rename_i g1;split at h
  ·omega
  rename_i g2;split at h
  ·omega
  rename_i g3;rcases List.mem_cons.1 hx with rfl|hx
  ·exact⟨by simpa using g1,by omega,by omega⟩
  ·exact Xg l _ h x hx
def Oq{l:List Param}(h:oO l=0):l.length≤6∧∀x,x∈l→Bh x:=by
 unfold oO at h;split at h
 ·omega
 ·exact⟨by omega,Xg l [] h⟩
def nT(l:List Param):al5:=Lib.join (l.map oY) [44,32]
def ne(p:be):al5:=eh 0 [[112,114,111,99,32],p.Name,[40],nT p.Params,[41,32,123]]++(fX p.Body 1++eh 0 [[125]])
def Ot(t:Int):(uo t).length≤4:=by
 unfold uo;split
 ·simp
 ·split<;>simp
def Xh(n:Nat)(t:Int):Do n t=some (uo t):=by
 unfold Do uo;by_cases Z:t=1
 ·simp [Z]
 ·by_cases ae:t=2
  ·simp [ae]
  ·simp [Z,ae]
def Ou(x:al5)(l:List al5):Lib.joinTail [44,32] (x::l)=44::32::(x++Lib.joinTail [44,32] l):=by simp [Lib.joinTail]
def Xi{x:Param}(h:Bh x):(oY x).length≤22:=by
 have:=oU h.1
 have:=Ot x.fy
 unfold oY;simp only [alY,alU,alV];omega
def Xj:∀l:List Param,(∀x,x∈l→Bh x)→(Lib.joinTail [44,32] (l.map oY)).length≤24*l.length
 |[],_=>Nat.le_refl _
 |x::l,h=>by
  have Z:=Xj l λy cl=>h y (by simp [cl])
  have ae:=Xi (h x (by simp))
  rw [List.map_cons,Ou];simp only [alY,alU];omega
def Ov{l:List Param}(af:∀x,x∈l→Bh x):(nT l).length≤24*l.length:=by
 unfold nT;cases l with
 |nil=>exact Nat.le_refl _
 |cons x l=>
  have Z:=Xj l λy cl=>af y (by simp [cl])
  have ae:=Xi (af x (by simp))
  rw [List.map_cons,Lib.join_cons];simp only [alY,alU];omega
def Xk{p:be}(hp:Xa p):(ne p).length≤4*eb p.Body+300:=by
 obtain⟨Z,ae,ar⟩:=hp;obtain⟨aK,bc⟩:=Oq ae;have b2:=Ov bc;have cU:=oU Z;have dQ:=nd p.Body 1 ar;unfold ne;simp only [alY,kM,cat,alU,alV];omega
def ahq{n:Nat}(p:be)(hi:pV p)(ay:nb p=0)(hn:3000000≤n)(ba:hv p.Params≤300000)(ci:eb p.Body≤300000):ry n p=some (ne p):=by
 have hp:=Oi hi ay;have u_:=hp;obtain⟨Z,ae,ar⟩:=hp;obtain⟨aK,bc⟩:=Oq ae;have b2:=Ov bc;have cU:=oU Z;have dQ:=nd p.Body 1 ar;have f':(fX p.Body (0+1)).length≤4*eb p.Body:=dQ;unfold ry;rw [WS p (by omega) (by omega) (by omega) (by omega) (by omega),ay]
 simp only [aC,alO,alS,alR]
 have ih:∀m i,p.Params.length<i+m→i≤p.Params.length→zc n p m (i:Int) ((p.Params.take i).map oY)=some (ne p):=by
  intro m;induction m with
  |zero=>intro i g1 g2;omega
  |succ m a7=>
   intro i g1 g2;simp only [zc,J0,alX,alW];by_cases hi:i<p.Params.length
   ·have hx:=bc (p.Params.getD i default) (by rw [List.getD_eq_getElem?_getD,List.getElem?_eq_getElem hi];exact List.getElem_mem hi)
    have hnx:=oU hx.1;have Xl:=Ot (p.Params.getD i default).fy;have:=a7 (i+1) (by omega) (by omega)
    rw [uh p.Params i hi,List.map_append]at this;simp only [List.map_cons,List.map_nil]at this;simp only [hi,alO,alQ,b6 hi,a_];rw [gg (by simp only [alU,alV];omega),Xh]
    simp only [a_,aC];rw [gg (by simp only [alY,alU,alV];omega)]
    simp only [a_]
    rw [show room ((List.map oY (p.Params.take i)).length+([(p.Params.getD i default).Name++[58,32]++uo (p.Params.getD i default).fy]:List al5).length) 16=true by
     simp [room];omega]
    simp only [a_];rw [ck (by omega)]
    exact this
   ·simp only [hi,alP,alR];obtain rfl:i=p.Params.length:=by omega
    unfold JZ;rw [List.take_length];unfold CW;rw [show decide ((p.Params.map oY).length≤140737488355328∧(Lib.join (p.Params.map oY) [44,32]).length≤140737488355328)=true from decide_eq_true ⟨by rw [List.length_map];omega,by show(nT p.Params).length≤_;omega⟩]
    simp only [a_,aC];have af:=mz (n:=n) [[112,114,111,99,32],p.Name,[40],nT p.Params,[41,32,123]] 0 [] (by simp only [cat,alY,alU,alV];omega) (by simp) (by omega) (by omega)
    have af:lk n [[112,114,111,99,32],p.Name,[40],Lib.join (p.Params.map oY) [44,32],[41,32,123]] [] 0=_:=af;rw [af];simp only [aC,List.nil_append];have hb:=ahp n p.Body 0 (eh 0 [[112,114,111,99,32],p.Name,[40],nT p.Params,[41,32,123]]) ar (by omega) (by omega) (by omega) (by simp only [kM,cat,alY,alU,alV];omega)
    unfold qO at hb;rw [show pE n p.Body (fA (eh 0 [[112,114,111,99,32],p.Name,[40],nT p.Params,[41,32,123]])) 0=_ from hb]
    simp only [aC];rw [mz _ 0 _ (by simp only [cat,alY,kM,alU,alV];omega) (by simp) (by omega) (by omega)]
    simp only [aC];unfold DB;rw [Ww,Wv];have hlen:=Xk u_;have ahr:eh 0 [[112,114,111,99,32],p.Name,[40],nT p.Params,[41,32,123]]++fX p.Body (0+1)++eh 0 [[125]]=ne p:=by unfold ne;rw [List.append_assoc]
    rw [ahr];rw [show decide ((fA (ne p)).length≤9223372036854775807)=true from decide_eq_true (by rw [show(fA (ne p)).length=(ne p).length by simp [fA]];omega)]
    rfl
 exact ih n 0 (by omega) (by omega)
open Go Go.Ab Go.Proofs
section
variable {l:List Token}
end
open Go Go.Ab Go.Proofs
def gq(s:al5):List Int:=s.map λb=>(b.toNat:Int)
def Bi(s:al5):hl (gq s)=s:=by
 simp only [hl,gq,List.map_map]
 conv=>rhs;rw [←List.map_id s]
 apply List.map_congr_left;intro b _;simp
def Bj(s:al5):lj (gq s)=true:=by
 simp only [lj,gq,List.all_eq_true,List.mem_map,forall_exists_index,and_imp,forall_apply_eq_imp_iff₂];intro b _;have:=b.toNat_lt
 simp;omega
def Ow(s t:al5):gq (s++t)=gq s++gq t:=List.map_append
def Gm(s:al5):(gq s).length=s.length:=List.length_map _
def Ox:([]:List Int)=gq []:=rfl
def eH(u:Nat):al5:=if u<128 then[UInt8.ofNat u]else UInt8.ofNat (u % 128+128)::eH (u / 128)
termination_by u
decreasing_by omega
def Xm:∀(k u:Nat),u<128 ^ k→0<k→(eH u).length≤k
 | 0,u,_,h=>by omega
 |k+1,u,hu,_=>by
  rw [eH];split
  ·simp
  ·have hk:0<k:=by
    rcases Nat.eq_zero_or_pos k with rfl|h
    ·simp at hu;omega
    ·exact h
   have:=Xm k (u / 128) (by rw [Nat.pow_succ]at hu;omega) hk
   simp;omega
def iR{u:Nat}(h:u<18446744073709551616):(eH u).length≤10:=Xm 10 u (by omega) (by omega)
def ahs:∀x:Nat,x<256→sb .u8 (x:Int) 128=((x % 128+128:Nat):Int):=by decide +kernel
def Oy(u:Nat):IntKind.u8.wrap (u:Int)=((u % 256:Nat):Int):=by rw [IntKind.wrap_u8];omega
def uq{u:Nat}(h:u<18446744073709551616):IntKind.u64.wrap (u:Int)=(u:Int):=by rw [IntKind.wrap_u64];omega
def Bk(u:Nat)(h:u<256):([(u:Int)]:List Int)=gq [UInt8.ofNat u]:=by
 simp only [gq,List.map_cons,List.map_nil,UInt8.toNat_ofNat',Nat.mod_eq_of_lt (show u<2 ^ 8 from h)]
def aht(u:Nat):n3 .u64 (u:Int) 7=((u / 128:Nat):Int):=by
 unfold n3;rw [show min (7:Int).toNat (IntKind.bits .u64)=7 by decide,Int.fdiv_eq_ediv_of_nonneg _ (by omega)]
 omega
def Oz{n:Nat}(h:n≤140737488355328):room n 1=true:=by simp [room];omega
def dq{n:Nat}(h:n≤9223372036854775807):br n=true:=by simp [br];omega
def ahu(n:Nat):∀m u (acc:al5),u<18446744073709551616→(eH u).length≤m→acc.length+(eH u).length≤1000→yR n m (u:Int) (gq acc)=some (acc++eH u):=by
 intro m;induction m with
 |zero=>intro u acc _ h _;rw [eH]at h;split at h<;>simp at h
 |succ m a7=>
  intro u acc hu hm af;simp only [yR,Jc,Jb,C2];rw [eH]at hm af ⊢;by_cases h:u<128
  ·rw [if_pos h]at hm af ⊢;simp only [alZ]at af;have:¬ (128:Int)≤(u:Int):=by omega
   rw [Oy,Nat.mod_eq_of_lt (by omega),Bk u (by omega),←Ow]
   simp only [this,alP,alR,alZ,Gm,Oz (show acc.length+1≤140737488355328 by omega),a_,aC,Bj,Bi]
  ·rw [if_neg h]at hm af ⊢;simp only [alU]at hm af;have:(128:Int)≤(u:Int):=by omega
   rw [Oy,ahs _ (by omega),show u % 256 % 128=u % 128 by omega,Bk _ (by omega),←Ow,aht]
   simp only [this,alO,alQ,alZ,Gm,Oz (show acc.length+1≤140737488355328 by omega),a_,aC]
   rw [a7 (u / 128) _ (by omega) (by omega) (by simp;omega)]
   simp
def rX{n u:Nat}(hn:10≤n)(hu:u<18446744073709551616):gV n (u:Int)=some (eH u):=by
 have:=iR hu
 exact ahu n n u [] hu (by omega) (by simp;omega)
def ahv(n:Nat):∀m u (acc:al5),u<18446744073709551616→(eH u).length≤m→acc.length+(eH u).length≤1000→z6 n m (u:Int) acc=some (acc++eH u):=by
 intro m;induction m with
 |zero=>intro u acc _ h _;rw [eH]at h;split at h<;>simp at h
 |succ m a7=>
  intro u acc hu hm af;simp only [z6,MU,MT];rw [eH]at hm af ⊢;by_cases h:u<128
  ·rw [if_pos h]at hm af ⊢;simp only [alZ]at af;have:¬ (128:Int)≤(u:Int):=by omega
   rw [Oy,Nat.mod_eq_of_lt (by omega),Bk u (by omega)]
   simp only [this,alP,alR,Bj,Bi,alZ,dq (show acc.length+1≤9223372036854775807 by omega),a_]
  ·rw [if_neg h]at hm af ⊢;simp only [alU]at hm af;have:(128:Int)≤(u:Int):=by omega
   have e1:IntKind.u8.wrap (IntKind.u8.wrap (Int.tmod (u:Int) 128)+128)=((u % 128+128:Nat):Int):=by
    rw [Int.tmod_eq_emod_of_nonneg (by omega),IntKind.wrap_u8,IntKind.wrap_u8];omega
   have e2:IntKind.u64.wrap (Int.tdiv (u:Int) 128)=((u / 128:Nat):Int):=by
    rw [Int.tdiv_eq_ediv_of_nonneg (by omega),IntKind.wrap_u64];omega
   rw [e1,e2,Bk _ (by omega)]
   simp only [this,alO,alQ,Bj,Bi,alZ,dq (show acc.length+1≤9223372036854775807 by omega),a_]
   rw [a7 (u / 128) _ (by omega) (by omega) (by simp;omega)]
   simp
def rY{n u:Nat}(hn:10≤n)(hu:u<18446744073709551616):gW n (u:Int)=some (eH u):=by
 have:=iR hu
 exact ahv n n u [] hu (by omega) (by simp;omega)
def fold(n:Int):Nat:=if n<0 then(2*(-(n+1))+1).toNat else(2*n).toNat
def eX(x:Int):Prop := -9223372036854775808≤x∧x≤9223372036854775807
def OA{n:Int}(h:eX n):fold n<18446744073709551616:=by
 unfold eX at h;unfold fold;split<;>omega
def lX(n:Int):al5:=eH (fold n)
def nf{n:Int}(h:eX n):(lX n).length≤10:=iR (OA h)
def ahw{n:Nat}{x:Int}(h:eX x):E5 n x=some (fold x:Int):=by
 unfold eX at h;unfold E5 fold;by_cases hx:x<0
 ·simp only [hx,alO,alQ,al3,IntKind.wrap_u64,IntKind.wrap_i64]
  congr 1;omega
 ·simp only [hx,alP,alR,al4,IntKind.wrap_u64]
  congr 1;omega
def ur{n:Nat}{x:Int}(hn:10≤n)(h:eX x):pL n x=some (lX x):=by
 unfold pL;rw [ahw h,aC,rY hn (OA h)];rfl
def xor_zero{a:Nat}(h:a<18446744073709551616):o9 .u64 (a:Int) 0=(a:Int):=by
 unfold o9;rw [show BitVec.ofInt (IntKind.bits .u64) 0=0#_ from rfl,BitVec.xor_zero]
 rw [show((BitVec.ofInt (IntKind.bits .u64) (a:Int)).toNat:Int)=(a:Int) by
  rw [BitVec.toNat_ofInt];simp only [IntKind.bits];omega]
 exact uq h
def ahx{a:Nat}(h:a<18446744073709551616):o9 .u64 (a:Int) 18446744073709551615=((18446744073709551615-a:Nat):Int):=by
 unfold o9;rw [show BitVec.ofInt (IntKind.bits .u64) 18446744073709551615=BitVec.allOnes _ by decide,BitVec.xor_allOnes]
 rw [show((~~~ BitVec.ofInt (IntKind.bits .u64) (a:Int)).toNat:Int)=((18446744073709551615-a:Nat):Int) by
  rw [BitVec.toNat_not,BitVec.toNat_ofInt];simp only [IntKind.bits];omega]
 exact uq (by omega)
def ahy{x:Int}(h:eX x):o9 .u64 (p8 .u64 (IntKind.u64.wrap x) 1) (IntKind.u64.wrap (n3 .i64 x 63))=(fold x:Int):=by
 unfold eX at h
 have e1:n3 .i64 x 63=if x<0 then -1 else 0:=by
  unfold n3;rw [show min (63:Int).toNat (IntKind.bits .i64)=63 by decide,Int.fdiv_eq_ediv_of_nonneg _ (by omega)]
  split<;>omega
 have e2:p8 .u64 (IntKind.u64.wrap x) 1=(((2*x) % 18446744073709551616).toNat:Int):=by
  unfold p8;rw [show min (1:Int).toNat (IntKind.bits .u64)=1 by decide,IntKind.wrap_u64,IntKind.wrap_u64]
  omega
 rw [e1,e2];unfold fold;by_cases hx:x<0
 ·rw [if_pos hx,if_pos hx,show IntKind.u64.wrap (-1)=18446744073709551615 by decide,ahx (by omega)]
  omega
 ·rw [if_neg hx,if_neg hx,show IntKind.u64.wrap 0=0 by decide,xor_zero (by omega)]
  omega
def ut{n:Nat}{x:Int}(hn:10≤n)(h:eX x):pA n x=some (lX x):=by
 unfold pA;rw [ahy h,rX hn (OA h)];rfl
def gh(s:al5):al5:=eH s.length++s
def rZ{n:Nat}{s:al5}(hn:10≤n)(h:s.length≤4611686018427387904):oz n s=some (gh s):=by
 unfold oz;have:=iR (u:=s.length) (by omega)
 rw [uq (by omega),rX hn (by omega)]
 simp only [aC,dq (show(eH s.length).length+s.length≤9223372036854775807 by omega),a_];rfl
def r0{n:Nat}{s:al5}(hn:10≤n)(h:s.length≤4611686018427387904):oI n s=some (gh s):=by
 unfold oI;have:=iR (u:=s.length) (by omega)
 rw [uq (by omega),rY hn (by omega)]
 simp only [aC,dq (show(eH s.length).length+s.length≤9223372036854775807 by omega),a_];rfl
def xh{s:al5}(h:s.length≤4611686018427387904):(gh s).length≤s.length+10:=by
 have:=iR (u:=s.length) (by omega)
 simp [gh];omega
open Go Go.Ab Go.Proofs
def Xn(n:Nat)(op:Int):EP n op=some ((el op:Nat):Int):=N_ n op
def ahz(n:Nat)(op:Int)(h:4≤op∧op≤8∨10≤op∧op≤17∨op=19):EQ n op=some (spell (qK op)):=WZ n op h
def Xo(n:Nat)(op:Int)(h:20≤op∧op≤27):ER n op=some (spell (ii op)):=by
 obtain rfl|rfl|rfl|rfl|rfl|rfl|rfl|rfl:op=20∨op=21∨op=22∨op=23∨op=24∨op=25∨op=26∨op=27:=by omega
 all_goals rfl
def Xp(u:Nat)(h:u<18446744073709551616):hl ([(IntKind.u8.wrap (IntKind.u64.wrap (48+(Int.tmod (u:Int) 10))))]:List Int)=[UInt8.ofNat (48+u % 10)]∧lj ([(IntKind.u8.wrap (IntKind.u64.wrap (48+(Int.tmod (u:Int) 10))))]:List Int)=true:=by
 have:IntKind.u8.wrap (IntKind.u64.wrap (48+(Int.tmod (u:Int) 10)))=((48+u % 10:Nat):Int):=by
  rw [Int.tmod_eq_emod_of_nonneg (by omega),IntKind.wrap_u64,IntKind.wrap_u8];omega
 rw [this,Bk _ (by omega)]
 exact⟨Bi _,Bj _⟩
def Xq(u:Nat)(h:u<18446744073709551616):IntKind.u64.wrap (Int.tdiv (u:Int) 10)=((u / 10:Nat):Int):=by
 rw [Int.tdiv_eq_ediv_of_nonneg (by omega),IntKind.wrap_u64];omega
def ahA(n:Nat)(i:Int)(hi:0≤i):∀(m f u:Nat) (acc:al5),u<18446744073709551616→u<10 ^ m→acc.length+m≤1000000000→(0<u∨acc≠[])→oH n i (m+f+1) (u:Int) acc=some ((if u=0 then[]else Lib.decDigits u)++acc):=by
 intro m;induction m with
 |zero=>
  intro f u acc hu Z af dE;have h0:u=0:=by simp at Z;omega
  subst h0;have OB:acc≠[]:=by rcases dE with h|h;exact absurd h (by omega);exact h
  have:¬ i<0:=by omega
  simp [oH,qB,zS,OB,this]
 |succ m a7=>
  intro f u acc hu Z af dE;rw [show m+1+f+1=m+f+1+1 by omega,show oH n i (m+f+1+1)=qB n i (oH n i (m+f+1))from rfl]
  simp only [qB,zS];by_cases h0:u=0
  ·subst h0;have OB:acc≠[]:=by rcases dE with h|h;exact absurd h (by omega);exact h
   have:¬ i<0:=by omega
   simp [OB,this]
  ·have hp:(0:Int)<(u:Int):=by omega
   obtain⟨d1,d2⟩:=Xp u hu;rw [d1,d2,Xq u hu];simp only [hp,alO,alQ,a_,alZ,dq (show 1+acc.length≤9223372036854775807 by omega)]
   rw [a7 f (u / 10) _ (by omega) (by rw [Nat.pow_succ]at Z;omega) (by simp;omega) (.inr (by simp))]
   rw [if_neg h0]
   conv=>rhs;rw [Lib.decDigits]
   by_cases f':u<10
   ·rw [dif_pos f',if_pos (by omega),Nat.mod_eq_of_lt f'];rfl
   ·rw [dif_neg f',if_neg (by omega)];simp
def Xr(n:Nat)(hn:30≤n)(i:Int)(h0:0≤i)(Z:i≤9223372036854775807):tL n i=some (Lib.decDigits i.toNat):=by
 unfold tL My;obtain⟨u,rfl⟩:=Int.eq_ofNat_of_zero_le h0;have:¬ (u:Int)<0:=by omega
 simp only [this,alP,alR,aC,uq (show u<18446744073709551616 by omega),alW]
 obtain⟨k,rfl⟩:∃k,n=k+30:=⟨n-30,by omega⟩
 by_cases dE:u=0
 ·subst dE;rw [show oH (k+30) ((0:Nat):Int) (k+30)=qB (k+30) ((0:Nat):Int) (oH (k+30) ((0:Nat):Int) (k+28+1))from rfl]
  obtain⟨d1,d2⟩:=Xp 0 (by omega)
  have hs:=dq (n:=([UInt8.ofNat (48+0 % 10)]:al5).length+([]:al5).length) (by decide)
  simp only [qB,d1,d2,Xq 0 (by omega),hs,a_]
  rw [show oH (k+30) ((0:Nat):Int) (k+28+1)=qB (k+30) ((0:Nat):Int) (oH (k+30) ((0:Nat):Int) (k+28))from rfl]
  simp [qB,zS,Lib.decDigits]
 ·have:=ahA (k+30) (u:Int) h0 20 (k+9) u [] (by omega) (by omega) (by simp) (.inl (by omega))
  rw [if_neg dE,List.append_nil,show 20+(k+9)+1=k+30 by omega]at this;exact this
def ahB(n:Nat)(s:al5)(hs:s.length≤4611686018427387904):∀m i,s.length<i+m→i≤s.length→wu n s m (i:Int)=some ((s.drop i).all okB):=by
 intro m;induction m with
 |zero=>intro i h ae;omega
 |succ m a7=>
  intro i hm hi;simp only [wu,MD,MC];by_cases h:i<s.length
  ·rw [gR s i 0 h,ck (by omega),a7 (i+1) (by omega) (by omega)]
   simp only [h,b6 h,alW,alX,alO,alQ,a_,al2,List.all_cons,qF,e7,eg,F8];cases okB (s.getD i 0)<;>simp
  ·rw [iO s i h];simp [h]
def Xs{n:Nat}(s:al5)(h:s.length<n)(hs:s.length≤4611686018427387904):ME n s=some (s.all okB):=by
 have:=ahB n s hs n 0 (by omega) (by omega)
 rw [List.drop_zero]at this;exact this
def take_one(s:al5)(i:Nat)(h:i<s.length):(s.take (i+1)).drop i=[s.getD i 0]:=by
 rw [List.drop_take,gR s i 0 h];simp
def ahC(n:Nat)(s:al5)(hs:s.length≤64):∀m i,s.length<i+m→i≤s.length→zU n s m (34::gz (s.take i)) (i:Int)=some (quo s,0):=by
 intro m;induction m with
 |zero=>intro i h ae;omega
 |succ m a7=>
  intro i hm hi;simp only [zU,MH,MF,MG,EM];have hlen:=uj (s.take i);have ag0:(s.take i).length≤i:=by simp;omega
  by_cases h:i<s.length
  ·(rw [ck (by omega)];simp only [alW];rw [take_one s i h])
   have hn:=a7 (i+1) (by omega) (by omega)
   have bS:s.take (i+1)=s.take i++[s.getD i 0]:=by
    rw [List.take_add,gR s i 0 h,List.take_succ_cons,List.take_zero]
   rw [bS,W1]at hn;generalize s.getD i 0=c at hn
   simp only [h,b6 h,alX,alO,alQ,a_,al2,jq,eg,afP (show i≤i+1 by omega) (show i+1≤s.length by omega)]
   by_cases hc:c.toNat=34∨c.toNat=92
   ·have hb:(decide (c.toNat=34)||decide (c.toNat=92))=true:=by rcases hc with hc|hc<;>rw [decide_eq_true hc]<;>simp
    rw [hb];simp only [alQ];rw [dq (by simp only [alU,alV];omega),dq (by simp only [alY,alU,alV];omega)]
    simp only [a_];rw [show(34::gz (s.take i)++[92]++[c])=34::(gz (s.take i)++gz [c])by simp only [gz];rw [if_pos hc];simp]
    exact hn
   ·have hb:(decide (c.toNat=34)||decide (c.toNat=92))=false:=by rw [decide_eq_false (λe=>hc (Or.inl e)),decide_eq_false (λe=>hc (Or.inr e))];rfl
    rw [hb];simp only [alR];rw [dq (by simp only [alU,alV];omega)]
    simp only [a_];rw [show(34::gz (s.take i)++[c])=34::(gz (s.take i)++gz [c])by simp only [gz];rw [if_neg hc];simp]
    exact hn
  ·have Oa:i=s.length:=by omega
   subst Oa;simp only [alX,Nat.lt_irrefl,alP,alR,List.take_length];have af:=uj s;rw [dq (by simp only [alU,alV];omega)]
   rfl
def ahD{n:Nat}(s:al5)(h:jL s=true)(hn:100<n):EN n s=some (quo s,0):=by
 unfold jL at h;simp only [Bool.and_eq_true,decide_eq_true_eq]at h;unfold EN;simp only [e7,show¬ 64<s.length by omega,alP,alR,Xs s (show s.length<n by omega) (by omega),aC,h.1,alS]
 exact ahC n s (by omega) n 0 (by omega) (by omega)
end Go.Ab.Y

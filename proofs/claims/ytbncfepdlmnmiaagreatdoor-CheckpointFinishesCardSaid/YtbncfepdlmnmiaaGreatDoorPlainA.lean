/- The plain law: what the functions compute answers as the statement says. -/
import Derived.Lib.ItoaNum
import Derived.Lib.ItoaLen
import Derived.Test.YtbncfepdlmnmiaaGreatDoorCtrB
set_option linter.all false
namespace Go.Ab.Y
open Go Go.Ab Go.Proofs
def apJ{h:Decidable True}:@decide True h=true:=_root_.decide_true h
def apK{h:Decidable False}:@decide False h=false:=_root_.decide_false h
def apR:(∀n:Nat,(n:Int).toNat=n)∧∀(α:Type)(_:Inhabited α)(l:List α)(n:Nat),ap3 l n=l.getD n default:=⟨λ_=>rfl,λ_ _ _ _=>rfl⟩
def apL{α:Type}{a b:α}:cond true a b=a:=rfl
def apM{α:Type}{a b:α}:cond false a b=b:=rfl
def apN:(!true)=false:=rfl
def apO:(!false)=true:=rfl
def apP{α:Type}{a:α}{l:List α}:(a::l).length=l.length+1:=rfl
def apQ{α:Type}:([]:List α).length=0:=rfl
def apS{a b:Nat}:((a:Int)<b)↔a<b:=_root_.Int.ofNat_lt
def apT{α:Type}{a b:List α}:(a++b).length=a.length+b.length:=_root_.List.length_append
def apU{α:Type}{a:α}:[a].length=1:=rfl
def apV{α:Type}{b:Bool}{x y:α}:cond b x y=if b then x else y:=_root_.Bool.cond_eq_ite b x y
def apW(a:Int):¬a<a:=_root_.Int.lt_irrefl a
def apX(a:Bool):(a||true)=true:=_root_.Bool.or_true a
def apY{α:Type}{a b:α}{h:Decidable True}:@ite α True h a b=a:=_root_.if_true a b
def apZ{α:Type}{a b:α}{h:Decidable False}:@ite α False h a b=b:=_root_.if_false a b
def wr{x:Int}(Z : -9223372036854775808≤x)(af:x≤9223372036854775807):ap2 x=x:=by(try unfold ap2);rw [IntKind.wrap_i64];omega
def gr{i:Nat}(h:i≤4611686018427387904):ap2 ((i:Int)+1)=((i+1:Nat):Int):=by rw [wr]<;>omega
def dw{i:Nat}(h:i≤9223372036854775806):ap2 ((i:Int)+1)=((i+1:Nat):Int):=by rw [wr]<;>omega
def cr{i n:Nat}(h:i<n):aP (i:Int) n=true:=by simp [aP];omega
def sD{n:Nat}(h:0<n):aP 0 n=true:=by simp [aP];omega
def Zt{i n:Nat}(h:i≤n):gP (i:Int) n=true:=by simp [gP];omega
def ajC{i j n:Nat}(h:i≤j)(af:j≤n):nK (i:Int) (j:Int) n=true:=by simp [nK];omega
@[simp] def bg {α : Type} (x : Option α) : av true x = x := rfl
def gE{α:Type}(l:List α)(i:Nat)(d:α)(h:i<l.length):l.drop i=l.getD i d::l.drop (i+1):=by
 rw [List.drop_eq_getElem_cons h];simp [List.getD,h]
def iZ{α:Type}(l:List α)(i:Nat)(h:¬ i<l.length):l.drop i=[]:=List.drop_of_length_le (by omega)
def rj(a k:Nat):((a:Int)<(no_index (OfNat.ofNat k):Int))↔a<k:=Int.ofNat_lt
def lp(a k:Nat):((a:Int)≤(no_index (OfNat.ofNat k):Int))↔a≤k:=Int.ofNat_le
def fm(a k:Nat):((no_index (OfNat.ofNat k):Int)<(a:Int))↔k<a:=Int.ofNat_lt
def sE(a k:Nat):((no_index (OfNat.ofNat k):Int)≤(a:Int))↔k≤a:=Int.ofNat_le
def i7(a k:Nat):((a:Int)=(no_index (OfNat.ofNat k):Int))↔a=k:=Int.ofNat_inj
def eb(a b:Bool):(bif a then true else b)=(a||b):=by cases a<;>rfl
def e4(a b:Bool):(bif a then b else false)=(a&&b):=by cases a<;>rfl
def aD{α β:Type}(a:α)(f:α→Option β):Option.bind (some a) f=f a:=rfl
def okB(c:UInt8):Bool:=decide (32≤c.toNat)&&decide (c.toNat≤126)
def ki(s:ap0):Bool:=s.all okB&&decide (s.length≤64)
def HA(c:UInt8):(decide (c.toNat<32)||decide (126<c.toNat)) = !okB c:=by
 unfold okB;by_cases h:c.toNat<32
 ·simp [h]
 ·by_cases af:c.toNat≤126
  ·simp [af,show 32≤c.toNat by omega,h]
  ·simp [af];omega
def ajD(n:Nat)(s:ap0)(hs:s.length≤9223372036854775807):∀m i,s.length<i+m→i≤s.length→wP n s m (i:Int)=some ((s.drop i).all okB&&decide (s.length≤64)):=by
 intro m;induction m with
 |zero=>intro i h af;omega
 |succ m bc=>
  intro i hm hi;simp only [wP,Lf,Le];by_cases h:i<s.length
  ·rw [gE s i 0 h,dw (by omega),bc (i+1) (by omega) (by omega)]
   simp only [h,cr h,apR,apS,apJ,apL,bg,apX,List.all_cons,rj,fm,eb,HA];cases okB (s.getD i 0)<;>simp
  ·rw [iZ s i h];simp [h,lp]
def Zu{n:Nat}{s:ap0}(h:s.length<n)(hs:s.length≤9223372036854775807):Lg n s=some (ki s):=ajD n s hs n 0 (by omega) (by omega)
def ajE(n:Nat)(s:ap0)(hs:s.length≤9223372036854775807):∀m i,s.length<i+m→i≤s.length→A9 n s m (i:Int)=some ((s.drop i).all okB):=by
 intro m;induction m with
 |zero=>intro i h af;omega
 |succ m bc=>
  intro i hm hi;simp only [A9,O0,OZ];by_cases h:i<s.length
  ·rw [gE s i 0 h,dw (by omega),bc (i+1) (by omega) (by omega)]
   simp only [h,cr h,apR,apS,apJ,apL,bg,apX,List.all_cons,rj,fm,eb,HA];cases okB (s.getD i 0)<;>simp
  ·rw [iZ s i h];simp [h,lp]
def ajF{n:Nat}{s:ap0}(h:s.length<n)(hs:s.length≤9223372036854775807):Gn n s=some (ki s):=by
 unfold Gn;rw [show(0:Int)=((0:Nat):Int)from rfl,ajE n s hs n 0 (by omega) (by omega)]
 unfold ki;simp only [List.drop_zero,fm];by_cases h:64<s.length
 ·simp [h]
 ·simp [h];omega
def sF:List ap0:=[[112,114,111,99],[108,101,116],[112,117,116],[100,101,108,101,116,101],[105,102],[101,108,115,101],[102,111,114],[116,111],[109,97,120],[101,109,105,116],[97,98,111,114,116],[110,111,116],[97,110,100],[111,114],[105,110,116],[115,116,114],[98,111,111,108],[116,101,120,116],[108,101,110],[103,101,116,105,110,116],[103,101,116,115,116,114],[104,97,115],[110,111,119],[114,97,110,100,111,109],[110,111,100,101]]
def B6(s:ap0):Bool:=decide (s∈sF)
def ajG(n:Nat)(s:ap0):zN n s=some (B6 s):=by
 unfold B6;by_cases h:s∈sF
 ·simp only [h,apJ];simp only [sF,List.mem_cons,List.not_mem_nil,or_false]at h;rcases h with rfl|rfl|rfl|rfl|rfl|rfl|rfl|rfl|rfl|rfl|rfl|rfl|rfl|rfl|rfl|rfl|rfl|rfl|rfl|rfl|rfl|rfl|rfl|rfl|rfl<;>rfl
 ·simp only [h,apK];simp only [sF,List.mem_cons,List.not_mem_nil,or_false,not_or]at h;simp only [zN,hW,KS,h,apK,apM]
def ajH(n:Nat)(l:List ap0)(s:ap0)(hs:l.length≤4611686018427387904):∀m i,l.length<i+m→i≤l.length→A4 n l s m (i:Int)=some (decide (s∈l.drop i)):=by
 intro m;induction m with
 |zero=>intro i h af;omega
 |succ m bc=>
  intro i hm hi;simp only [A4,OG,OF];by_cases h:i<l.length
  ·rw [gE l i default h,gr (by omega),bc (i+1) (by omega) (by omega)]
   simp only [h,cr h,apR,apS,apJ,apL,bg,List.mem_cons];by_cases he:l.getD i default=s
   ·simp only [he,apJ,apL,true_or]
   ·simp only [he,apK,apM,show¬ s=l.getD i default from λx=>he x.symm,false_or]
  ·rw [iZ l i h];simp [h]
def ajI(n:Nat):OE n=some sF:=rfl
def ajJ{n:Nat}(l:List ap0)(s:ap0)(h:l.length<n)(hs:l.length≤4611686018427387904):OH n l s=some (decide (s∈l)):=ajH n l s hs n 0 (by omega) (by omega)
def ajK{n:Nat}(s:ap0)(h:25<n):Gi n s=some (B6 s):=by
 unfold Gi;simp only [ajI,aD];rw [ajJ sF s (by show 25<_;omega) (by decide)]
 rfl
def rk(c:UInt8):Bool:=decide (97≤c.toNat)&&decide (c.toNat≤122)
def Zv(n:Nat)(c:UInt8):A5 n ((c.toNat:Nat):Int)=some (rk c):=by
 simp only [A5,e4,sE,lp,rk]
def ajL{x:Nat}(h:x<256):IntKind.i32.wrap (x:Int)=x:=by rw [IntKind.wrap_i32];omega
def ajM(n:Nat)(c:UInt8):zO n (IntKind.i32.wrap ((c.toNat:Nat):Int))=some (rk c):=by
 rw [ajL c.toNat_lt];simp only [zO,e4,sE,lp,rk]
def ajN(n:Nat)(c:UInt8):Gj n ((c.toNat:Nat):Int)=some (mG c):=by
 simp only [Gj,Zv,aD,OI,e4,eb,sE,lp,i7];unfold mG rk;by_cases h:97≤c.toNat∧c.toNat≤122
 ·simp [h.1,h.2]
 ·have:(decide (97≤c.toNat)&&decide (c.toNat≤122))=false:=by simpa using h
  rw [this];simp only [apO,apL,aD,Bool.false_or,h,false_or,Bool.decide_or,Bool.decide_and]
def Zw(c:UInt8)(s:ap0):l_ (c::s)=bif mG c then l_ s+1 else 0:=by
 unfold l_;cases h:mG c<;>simp [List.takeWhile,h]
def ajO(n:Nat)(s:ap0)(hs:s.length≤4611686018427387904):∀m i,s.length<i+m→i≤s.length→A6 n s m (i:Int)=some (((i+l_ (s.drop i):Nat):Int)):=by
 intro m;induction m with
 |zero=>intro i h af;omega
 |succ m bc=>
  intro i hm hi;simp only [A6,OK,OJ];by_cases h:i<s.length
  ·rw [gE s i 0 h,gr (by omega),bc (i+1) (by omega) (by omega)]
   simp only [h,cr h,apR,apS,apJ,apL,bg,apX,ajN,aD,Zw];cases mG (s.getD i 0)
   ·rfl
   ·simp only [apL,Option.some.injEq];omega
  ·rw [iZ s i h];simp [h,l_]
def ajP{n:Nat}{s:ap0}(i:Nat)(h:s.length<n)(hi:i≤s.length)(hs:s.length≤4611686018427387904):OL n s (i:Int)=some (((i+l_ (s.drop i):Nat):Int)):=ajO n s hs n i (by omega) hi
def gF(s:ap0):Bool:=
 match s with
 |[]=>false
 |c::l=>decide (l.length≤15)&&rk c&&decide (l_ (c::l)=l.length+1) && !B6 (c::l)
def B7{n:Nat}(s:ap0)(h:s.length<n)(af:25<n)(hs:s.length≤4611686018427387904):sm n s=some (gF s):=by
 unfold sm;cases s with
 |nil=>rfl
 |cons c l=>
  simp only [ajK _ af,e4,sE,lp,apP,show 1≤l.length+1 by omega,apJ,Bool.true_and,sD (show 0<l.length+1 by omega),apX,bg,List.getD_cons_zero,Zv]
  rw [show(0:Int)=((0:Nat):Int)from rfl,ajP 0 h (by omega) hs]
  simp only [List.drop_zero,Nat.zero_add,gF,Int.ofNat_inj,show(l.length+1≤16)=(l.length≤15)by rw [eq_iff_iff];omega]
  cases decide (l.length≤15)<;>simp only [Bool.false_and,apM,aD,Bool.true_and,apL]
  cases rk c<;>simp only [Bool.false_and,apM,aD,Bool.true_and,apL,Int.ofNat_inj]
  cases decide (l_ (c::l)=l.length+1)<;>simp only [Bool.false_and,apM,aD,Bool.true_and,apL]
def ajQ(n:Nat)(s:ap0)(h:s.length≤140737488351232):wA n s=some ((l_ s:Nat):Int):=by
 unfold wA;simp only [h,apJ,bg]
def B8(n:Nat)(s:ap0)(h:s.length≤140737488351232):q6 n s=some (gF s):=by
 unfold q6;cases s with
 |nil=>rfl
 |cons c l=>
  simp only [ajG,e4,sE,lp,apP,reduceCtorEq,apK,apO,Bool.true_and,sD (show 0<l.length+1 by omega),apX,bg,List.getD_cons_zero,ajM,ajQ _ _ h]
  simp only [gF,Int.ofNat_inj,show(l.length+1≤16)=(l.length≤15)by rw [eq_iff_iff];omega]
  cases decide (l.length≤15)<;>simp only [Bool.false_and,apM,aD,Bool.true_and,apL]
  cases rk c<;>simp only [Bool.false_and,apM,aD,Bool.true_and,apL,Int.ofNat_inj]
  cases decide (l_ (c::l)=l.length+1)<;>simp only [Bool.false_and,apM,aD,Bool.true_and,apL]
def i8(op:Int):Int:=bif decide (op<1)||decide (27<op)then -1 else bif decide (op≤3)||decide (25≤op)then 0 else bif decide (op=9)||decide (op=18)||decide (20≤op)then 1 else 2
def ajR(n:Nat)(op:Int):Ey n op=some (i8 op):=by
 simp only [Ey,i8,eb];cases decide (op<1)||decide (27<op)<;>simp only [apL,apM]
 cases decide (op≤3)||decide (25≤op)<;>simp only [apL,apM]
 cases decide (op=9)||decide (op=18)||decide (20≤op)<;>rfl
def ajS(n:Nat)(op:Int):A8 n op=some (i8 op):=by
 by_cases h:1≤op∧op≤27
 ·obtain rfl|rfl|rfl|rfl|rfl|rfl|rfl|rfl|rfl|rfl|rfl|rfl|rfl|rfl|rfl|rfl|rfl|rfl|rfl|rfl|rfl|rfl|rfl|rfl|rfl|rfl|rfl:op=1∨op=2∨op=3∨op=4∨op=5∨op=6∨op=7∨op=8∨op=9∨op=10∨op=11∨op=12∨op=13∨op=14∨op=15∨op=16∨op=17∨op=18∨op=19∨op=20∨op=21∨op=22∨op=23∨op=24∨op=25∨op=26∨op=27:=by omega
  all_goals rfl
 ·have ha:i8 op = -1:=by
   unfold i8;by_cases Z:op<1
   ·simp [Z]
   ·simp [show 27<op by omega]
  have hb:(decide (4≤op)&&decide (op≤19))=false:=by
   by_cases Z:4≤op
   ·simp [Z];omega
   ·simp [Z]
  simp only [A8,sq,re,OY,e4,hb,ha,show¬ op=1 by omega,show¬ op=2 by omega,show¬ op=3 by omega,show¬ op=25 by omega,show¬ op=26 by omega,show¬ op=27 by omega,show¬ op=9 by omega,show¬ op=18 by omega,show¬ op=20 by omega,show¬ op=21 by omega,show¬ op=22 by omega,show¬ op=23 by omega,show¬ op=24 by omega,apK,apM]
def oi(e:Expr)(depth:Int):Int:=
 if i8 e.Op<0∨(e.Op≠1∧e.N≠0)∨(e.Op≠2∧e.Op≠3∧e.S≠[])then 1
 else if e.Op=3∧gF e.S=false then 7
 else if e.N<0∨(e.Op=2∧ki e.S=false)∨(e.aw.length:Int)≠i8 e.Op then 1
 else if 12<depth then 2 else 0
def ajT{n:Nat}(e:Expr)(depth:Int)(h:e.S.length<n)(hs:e.S.length≤140737488351232):Ez n e depth=some (oi e depth):=by
 obtain⟨Op,N,S,aw⟩:=e;simp only at h hs
 simp only [Ez,ajR,aD,B8 _ _ hs,Zu h (by omega),oi]
 by_cases Z:i8 Op<0
 ·simp [Z]
 by_cases af:Op=1
 ·subst af;by_cases bj:S=[]
  ·by_cases cb:N<0
   ·simp [Z,bj,cb]
   ·by_cases de:(aw.length:Int)=i8 1
    ·by_cases dR:12<depth<;>simp [Z,bj,cb,de,dR]
    ·simp [Z,bj,cb,de]
  ·simp [Z,bj]
 ·by_cases au:N=0
  ·by_cases aQ:Op=3
   ·subst aQ;cases hn:gF S
    ·simp [Z,au,hn]
    ·by_cases de:(aw.length:Int)=i8 3
     ·by_cases dR:12<depth<;>simp [Z,au,hn,de,dR]
     ·simp [Z,au,hn,de]
   ·by_cases bj:Op=2
    ·subst bj;cases hn:ki S
     ·simp [Z,au,hn]
     ·by_cases de:(aw.length:Int)=i8 2
      ·by_cases dR:12<depth<;>simp [Z,au,hn,de,dR]
      ·simp [Z,au,hn,de]
    ·by_cases cb:S=[]
     ·by_cases de:(aw.length:Int)=i8 Op
      ·by_cases dR:12<depth<;>simp [Z,af,au,aQ,bj,cb,de,dR]
      ·simp [Z,af,au,aQ,bj,cb,de]
     ·simp [Z,af,au,aQ,bj,cb]
  ·simp [Z,af,au]
def ajU{n:Nat}(e:Expr)(depth:Int)(h:e.S.length<n)(af:25<n)(hs:e.S.length≤140737488351232):Gp n e depth=some (oi e depth):=by
 obtain⟨Op,N,S,aw⟩:=e;simp only at h hs
 simp only [Gp,ajS,aD,B7 S h af (by omega),ajF h (by omega),oi]
 clear af;by_cases Z:i8 Op<0
 ·simp [Z]
 by_cases af:Op=1
 ·subst af;by_cases bj:S=[]
  ·by_cases cb:N<0
   ·simp [Z,bj,cb]
   ·by_cases de:(aw.length:Int)=i8 1
    ·by_cases dR:12<depth<;>simp [Z,bj,cb,de,dR]
    ·simp [Z,bj,cb,de]
  ·simp [Z,bj]
 ·by_cases au:N=0
  ·by_cases aQ:Op=3
   ·subst aQ;cases hn:gF S
    ·simp [Z,au,hn]
    ·by_cases de:(aw.length:Int)=i8 3
     ·by_cases dR:12<depth<;>simp [Z,au,hn,de,dR]
     ·simp [Z,au,hn,de]
   ·by_cases bj:Op=2
    ·subst bj;cases hn:ki S
     ·simp [Z,au,hn]
     ·by_cases de:(aw.length:Int)=i8 2
      ·by_cases dR:12<depth<;>simp [Z,au,hn,de,dR]
      ·simp [Z,au,hn,de]
    ·by_cases cb:S=[]
     ·by_cases de:(aw.length:Int)=i8 Op
      ·by_cases dR:12<depth<;>simp [Z,af,au,aQ,bj,cb,de,dR]
      ·simp [Z,af,au,aQ,bj,cb,de]
     ·simp [Z,af,au,aQ,bj,cb]
  ·simp [Z,af,au]
mutual
def dr:Expr→Nat
 |⟨_,_,S,aw⟩=>30+S.length+lM aw
def lM:List Expr→Nat
 |[]=>0
 |x::l=>dr x+1+lM l
end
def rl(e:Expr):dr e=30+e.S.length+lM e.aw:=by cases e;rfl
def HB:∀l:List Expr,l.length≤lM l
 |[]=>Nat.le_refl _
 |x::l=>by have:=HB l;simp only [lM,apP];omega
def HC:∀(l:List Expr) (i:Nat),i<l.length→dr (l.getD i default)<lM l
 |[],i,h=>by simp at h
 |x::l,0,h=>by simp only [lM,List.getD_cons_zero];omega
 |x::l,i+1,h=>by have:=HC l i (by simpa using h);simp only [lM,List.getD_cons_succ];omega
open Go Go.Ab Go.Proofs
def val(u:Nat)(l:ap0):Nat:=l.foldl (λu c=>u*10+(c.toNat-48)) u
open Go Go.Ab Go.Proofs
open Go Go.Ab Go.Proofs
def up(k:Nat):Int ⊕ (ap0×Nat)→Int ⊕ (ap0×Nat)
 |.inl e=>.inl e
 |.inr p=>.inr (p.1,p.2+k)
def fR(l:ap0):List Int:=l.map λc=>((c.toNat:Nat):Int)
def Zx(l:ap0):hL (fR l)=l:=by
 unfold hL fR;rw [List.map_map]
 conv=>rhs;rw [←List.map_id l]
 refine List.map_congr_left λc _=>?_
 simp
def Zy(l:ap0):lH (fR l)=true:=by
 unfold lH fR;rw [List.all_eq_true];intro x hx;obtain⟨c,_,rfl⟩:=List.mem_map.1 hx;have:=c.toNat_lt
 simp only [Bool.and_eq_true,decide_eq_true_eq];omega
def Zz(l:ap0):(fR l).length=l.length:=by simp [fR]
def ajV(l:ap0)(c:UInt8):fR l++[((c.toNat:Nat):Int)]=fR (l++[c]):=by simp [fR]
def ajW{k:Nat}(h:k≤9223372036854775807):bE k=true:=by simp [bE];omega
open Go Go.Ab Go.Proofs
def two:List ap0:=[[61,61],[33,61],[60,61],[62,61],[43,43]]
def ajX:ap0:=[40,41,123,125,44,59,58,61,60,62,43,45,42,47,37]
def marks:List ap0:=two++ajX.map λc=>[c]
open Go Go.Ab Go.Proofs
open Go Go.Ab Go.Proofs
def fd(s:ap0)(i:Nat):Nat:=(s.take i).count 10
open Go Go.Ab Go.Proofs
def clone{n:Nat}{s:ap0}(h:s.length≤281474976710656):Fl n s=some s:=by
 unfold Fl Ea;simp only [h,apJ,bg,aD]
open Go Go.Ab Go.Proofs
def i'(l:List Token)(i:Nat)(w:ap0):Bool:=
 decide (i<l.length)&&((decide ((l.getD i default).Kind=2)||decide ((l.getD i default).Kind=5))&&decide ((l.getD i default).Text=w))
def ZA{l:List Token}{i:Nat}{w:ap0}(h:i' l i w=true):i<l.length:=by
 unfold i' at h;simp only [Bool.and_eq_true,decide_eq_true_eq]at h;exact h.1
def Ql(n:Nat)(l:List Token)(i:Nat)(w:ap0):si n w ⟨l,(i:Int)⟩=some (i' l i w):=by
 unfold si i';simp only [apR,Int.ofNat_le,eb,e4];by_cases h:i<l.length
 ·simp only [show¬ l.length≤i by omega,apK,apM,cr h,bg,h,apJ,Bool.true_and]
 ·simp only [show l.length≤i by omega,apJ,apL,h,apK,Bool.false_and]
def ZB(l:List Token)(i:Nat):Int:=
 if i<l.length then(l.getD i default).ma else if l.length=0 then 1 else(l.getD (l.length-1) default).ma
def vS(l:List Token)(i:Nat)(c:Int):V:=.iface 379 (.agg [.int .i64 (ZB l i),.int .i64 c])
def HD(l:List Token)(i:Nat)(c:Int):Int:=if i<l.length then c else 6
def ZC(n:Nat)(l:List Token)(i:Nat)(c:Int)(ag:l.length≤4611686018427387904):q9 n c ⟨l,(i:Int)⟩=some (.bl (vS l i (HD l i c)) ()):=by
 unfold q9 MH MG vS ZB HD;simp only [apR,apS];by_cases h:i<l.length
 ·simp only [h,cr h,apJ,apL,bg,apY]
 ·simp only [h,apK,apM,apZ];by_cases h0:l.length=0
  ·simp only [h0,apY];rfl
  ·have:ap2 (((l.length:Nat):Int)-1)=((l.length-1:Nat):Int):=by rw [wr]<;>omega
   rw [this];simp only [i7,h0,apK,apM,cr (show l.length-1<l.length by omega),bg,apR,apZ]
def ajY(n:Nat)(l:List Token)(i:Nat)(w:ap0)(hi:i≤4611686018427387904):k2 n w ⟨l,(i:Int)⟩=some (i' l i w,(((bif i' l i w then i+1 else i):Nat):Int)):=by
 unfold k2;rw [Ql,aD,gr hi];cases i' l i w<;>rfl
def ZD(n:Nat)(l:List Token)(i:Nat)(w:ap0)(hi:i≤4611686018427387904)(ag:l.length≤4611686018427387904):
 kF n w ⟨l,(i:Int)⟩=some (bif i' l i w then .ret () ((i+1:Nat):Int)else .bl (vS l i (HD l i 5)) (i:Int)):=by
 unfold kF;rw [ajY n l i w hi,aD];cases i' l i w
 ·simp only [apO,apL,apM];rw [ZC n l i 5 ag,aD];rfl
 ·rfl
def sG:List (ap0×Int×Int):=[([111,114],1,17),([97,110,100],2,16),([61,61],4,10),([33,61],4,11),([60],4,12),([60,61],4,13),([62],4,14),([62,61],4,15),([43,43],5,19),([43],6,4),([45],6,5),([42],7,6),([47],7,7),([37],7,8)]
def ZE:Option (ap0×Int×Int)→Int×Int
 |none=>(0,0)
 |some r=>r.2
def Qm(l:List Token)(i:Nat):Int×Int:=ZE (sG.find? λr=>i' l i r.1)
def Qn{l:List Token}{i:Nat}(h:i<l.length)(hk:(l.getD i default).Kind=2∨(l.getD i default).Kind=5)(w:ap0):i' l i w=decide ((l.getD i default).Text=w):=by
 unfold i';have:(decide ((l.getD i default).Kind=2)||decide ((l.getD i default).Kind=5))=true:=by rcases hk with hk|hk<;>rw [decide_eq_true hk]<;>simp
 rw [this,decide_eq_true h];rfl
def HE{l:List Token}{i:Nat}(h:¬ (i<l.length∧((l.getD i default).Kind=2∨(l.getD i default).Kind=5)))(w:ap0):i' l i w=false:=by
 unfold i';by_cases Z:i<l.length
 ·by_cases af:(l.getD i default).Kind=2
  ·exact absurd ⟨Z,Or.inl af⟩ h
  ·by_cases au:(l.getD i default).Kind=5
   ·exact absurd ⟨Z,Or.inr au⟩ h
   ·rw [decide_eq_false af,decide_eq_false au];simp
 ·rw [decide_eq_false Z];rfl
def ajZ(n:Nat)(l:List Token)(i:Nat):Fn n ⟨l,(i:Int)⟩=some (Qm l i):=by
 unfold Fn Qm
 (simp only [apR])
 simp only [Int.ofNat_le,e4];by_cases h:i<l.length
 ·simp only [show¬ l.length≤i by omega,apK,apM,cr h,bg]
  by_cases hk:(l.getD i default).Kind=2∨(l.getD i default).Kind=5
  ·have hI:((!decide ((l.getD i default).Kind=2)) && !decide ((l.getD i default).Kind=5))=false:=by
    rcases hk with hk|hk<;>rw [decide_eq_true hk]<;>simp
   rw [hI];simp only [apM,Qn h hk];generalize (l.getD i default).Text=w
   by_cases hw:w∈sG.map (·.1)
   ·simp only [sG,List.map_cons,List.map_nil,List.mem_cons,List.not_mem_nil,or_false]at hw;rcases hw with rfl|rfl|rfl|rfl|rfl|rfl|rfl|rfl|rfl|rfl|rfl|rfl|rfl|rfl<;>rfl
   ·simp only [sG,List.map_cons,List.map_nil,List.mem_cons,List.not_mem_nil,or_false,not_or]at hw;simp only [hw,apK,apM,sG,List.find?_cons,List.find?_nil];rfl
  ·have hI:((!decide ((l.getD i default).Kind=2)) && !decide ((l.getD i default).Kind=5))=true:=by
    simp only [not_or]at hk;rw [decide_eq_false hk.1,decide_eq_false hk.2];rfl
   rw [hI];simp only [apL,HE (λx=>hk x.2),sG,List.find?_cons,List.find?_nil]
   rfl
 ·simp only [show l.length≤i by omega,apJ,apL,HE (λx=>h x.1),sG,List.find?_cons,List.find?_nil]
  rfl
open Go Go.Ab Go.Proofs
def ql:List (ap0×Int):=[([116,101,120,116],20),([108,101,110],21),([103,101,116,105,110,116],22),([103,101,116,115,116,114],23),([104,97,115],24),([110,111,119],25),([114,97,110,100,111,109],26),([110,111,100,101],27)]
def call2:Option (ap0×Int)→Int
 |none=>0
 |some r=>r.2
def HF(l:List Token)(i:Nat):Int:=call2 (ql.find? λr=>i' l i r.1)
def ZF(l:List Token):Prop:=∀t,t∈l→t.Kind=5→t.Text∈marks
def aj0(n:Nat)(l:List Token)(i:Nat)(hg:ZF l):Fp n ⟨l,(i:Int)⟩=some (HF l i):=by
 unfold Fp HF
 (simp only [apR])
 simp only [Int.ofNat_le,eb];by_cases h:i<l.length
 ·simp only [show¬ l.length≤i by omega,apK,Bool.false_or,cr h,bg]
  by_cases hk:(l.getD i default).Kind=2
  ·simp only [hk,apJ,apN,apM,Qn h (Or.inl hk)];generalize (l.getD i default).Text=w
   by_cases hw:w∈ql.map (·.1)
   ·simp only [ql,List.map_cons,List.map_nil,List.mem_cons,List.not_mem_nil,or_false]at hw;rcases hw with rfl|rfl|rfl|rfl|rfl|rfl|rfl|rfl<;>rfl
   ·simp only [ql,List.map_cons,List.map_nil,List.mem_cons,List.not_mem_nil,or_false,not_or]at hw;simp only [hw,apK,apM,ql,List.find?_cons,List.find?_nil];rfl
  ·simp only [hk,apK,apO,apL];by_cases bj:(l.getD i default).Kind=5
   ·have hm:(l.getD i default).Text∈marks:=hg _ (by simp [List.getD,h]) bj
    simp only [Qn h (Or.inr bj)];generalize (l.getD i default).Text=w at hm
    have:∀w,w∈marks→ql.find? (λr=>decide (w=r.1))=none:=by decide
    rw [this w hm];rfl
   ·have:∀w,i' l i w=false:=HE (λx=>by rcases x.2 with e|e;exact hk e;exact bj e)
    simp only [this,ql,List.find?_cons,List.find?_nil];rfl
 ·simp only [show l.length≤i by omega,apJ,Bool.true_or,bg,apL,HE (λx=>h x.1),ql,List.find?_cons,List.find?_nil]
  rfl
def aj1(n:Nat)(l:List Token)(i d:Nat)(ag:l.length≤4611686018427387904)(hd:d≤24):xb n (d:Int) ⟨l,(i:Int)⟩=some (if d=24 then .bl (vS l i (HD l i 2)) ()else .ret ((d+1:Nat):Int) ()):=by
 unfold xb Fo;simp only [sE];by_cases h:d=24
 ·simp only [show 24≤d by omega,apJ,apL,ZC n l i 2 ag,aD,h,apY];rfl
 ·simp only [show¬ 24≤d by omega,apK,apM,h,apZ]
  rw [gr (by omega)]
open Go Go.Ab Go.Proofs
def ZG(n:Nat):kG (n+1)=Ax n (kG n) (AB n) (sj n) (uz n):=rfl
def aj2(n:Nat):sj (n+1)=Fr n (kG n) (AB n) (sj n) (uz n):=rfl
def aj3(n:Nat):uz (n+1)=Fs n (kG n) (AB n) (sj n) (uz n):=rfl
section
variable {l:List Token}
theorem aj4{i:Nat}(h:i≤1000000000):ap2 (((i+1:Nat):Int)-1)=(i:Int):=by rw [wr]<;>omega
end
open Go Go.Ab Go.Proofs
def lN(e:Expr):(⟨e.Op,e.N,e.S,e.aw⟩:Expr)=e:=by cases e;rfl
section
variable {l:List Token}
end
open Go Go.Ab Go.Proofs
open Go Go.Ab Go.Proofs
section
variable {α:Type} {wt:α→Nat} {l:List Token}
end
mutual
def fst:Stmt→Nat
 |⟨_,Name,_,A,B,Body,bX⟩=>80+Name.length+dr A+dr B+ep Body+ep bX
def ep:List Stmt→Nat
 |[]=>0
 |x::l=>fst x+1+ep l
end
def u9(s:Stmt):(⟨s.Op,s.Name,s.Max,s.A,s.B,s.Body,s.bX⟩:Stmt)=s:=by cases s;rfl
def fst_eq(s:Stmt):fst s=80+s.Name.length+dr s.A+dr s.B+ep s.Body+ep s.bX:=by cases s;rfl
def Qo:∀l m:List Stmt,ep (l++m)=ep l+ep m
 |[],m=>by simp [ep]
 |x::l,m=>by rw [List.cons_append,ep,ep,Qo l m];omega
def B9:∀l:List Stmt,80*l.length≤ep l
 |[]=>Nat.le_refl _
 |x::l=>by have:=B9 l;have:=fst_eq x;simp only [ep,apP];omega
open Go Go.Ab Go.Proofs
section
variable {l:List Token}
end
open Go Go.Ab Go.Proofs
section
variable {l:List Token}
end
open Go Go.Ab Go.Proofs
section
variable {l:List Token}
end
open Go Go.Ab Go.Proofs
section
variable {l:List Token}
end
open Go Go.Ab Go.Proofs
section
variable {l:List Token}
end
open Go Go.Ab Go.Proofs
def hP:List Param→Nat
 |[]=>0
 |p::l=>60+p.Name.length+hP l
def B':∀l:List Param,60*l.length≤hP l
 |[]=>Nat.le_refl _
 |t::l=>by have:=B' l;simp only [hP,apP];omega
section
variable {l:List Token}
def aj5(p:bi):Nat:=p.Name.length+hP p.Params+ep p.Body
end
open Go Go.Ab Go.Proofs
mutual
def gz:Expr→Int→Int
 |⟨Op,N,S,aw⟩,d=>if oi ⟨Op,N,S,aw⟩ d=0 then rm aw (ap2 (d+1))else oi ⟨Op,N,S,aw⟩ d
def rm:List Expr→Int→Int
 |[],d=>0
 |x::l,d=>if gz x d=0 then rm l d else gz x d
end
def ZH(e:Expr)(d:Int):gz e d=if oi e d=0 then rm e.aw (ap2 (d+1))else oi e d:=by cases e;rfl
def ZI:∀(n:Nat) (e:Expr) (d:Int),dr e≤n→dr e≤140737488351232→wQ n e d=some (gz e d)∧xE n e d=some (gz e d):=by
 intro n;induction n with
 |zero=>intro e d h;rw [rl]at h;omega
 |succ n bc=>
  intro e d h ag;have u':=rl e;have HG:=HB e.aw;simp only [wQ,xE,Lj,O3];rw [ajT e d (by omega) (by omega),ajU e d (by omega) (by omega) (by omega),ZH]
  simp only [aD];by_cases h0:oi e d=0
  ·rw [if_pos h0];simp only [h0,apJ,apN,apM]
   have iy:∀m i,e.aw.length<i+m→i≤e.aw.length→zZ n (wQ n) d e m (i:Int)=some (rm (e.aw.drop i) (ap2 (d+1)))∧A' n (xE n) d e m (i:Int)=some (rm (e.aw.drop i) (ap2 (d+1))):=by
    intro m;induction m with
    |zero=>intro i Z af;omega
    |succ m ny=>
     intro i Z af;simp only [zZ,Li,Lh,A',O2,O1];by_cases hi:i<e.aw.length
     ·have hg:=HC e.aw i hi;obtain⟨hr,im⟩:=bc (e.aw.getD i default) (ap2 (d+1)) (by omega) (by omega)
      obtain⟨aj6,Qp⟩:=ny (i+1) (by omega) (by omega)
      (rw [gE e.aw i default hi,gr (by omega)];simp only [apR];rw [hr,im,aj6,Qp])
      simp only [hi,cr hi,apS,apJ,apL,bg,aD,rm];by_cases ak:gz (e.aw.getD i default) (ap2 (d+1))=0
      ·simp only [ak,apJ,apN,apM,apY,and_self]
      ·simp only [ak,apK,apO,apL,apZ,and_self]
     ·rw [iZ e.aw i hi];simp only [hi,apS,apK,apM,rm,and_self]
   exact iy n 0 (by omega) (by omega)
  ·rw [if_neg h0];simp only [h0,apK,apO,apL,and_self]
def ZJ{n:Nat}(e:Expr)(h:dr e≤n)(ag:dr e≤140737488351232):z1 n e=some (gz e 1):=by
 simp only [z1,(ZI n e 1 h ag).1,aD]
def ZK{n:Nat}(e:Expr)(h:dr e≤n)(ag:dr e≤140737488351232):A_ n e=some (gz e 1):=by
 simp only [A_,(ZI n e 1 h ag).2,aD]
def mi(e:Expr):Bool:=decide (e.Op=0)&&decide (e.N=0)&&decide (e.S=[])&&decide (e.aw.length=0)
def ZL(n:Nat)(e:Expr):wR n e=some (mi e):=by
 simp only [wR,mi,e4,i7]
def ZM(n:Nat)(e:Expr):rb n e=some (mi e):=by
 simp only [rb,mi,e4,i7]
def jq(op:Int):kB×Bool:=
 if op=1∨op=2 then(⟨true,true,false,false,false,false⟩,true)
 else if op=3 then(⟨false,true,true,false,false,false⟩,true)
 else if op=4∨op=7 then(⟨false,true,false,false,false,false⟩,true)
 else if op=5 then(⟨false,true,false,false,true,true⟩,true)
 else if op=6 then(⟨true,true,true,true,true,false⟩,true)
 else if op=8 then(⟨false,false,false,true,false,false⟩,true)
 else(⟨false,false,false,false,false,false⟩,false)
def aj7(n:Nat)(op:Int):ED n op=some (jq op):=by
 by_cases h:1≤op∧op≤8
 ·obtain rfl|rfl|rfl|rfl|rfl|rfl|rfl|rfl:op=1∨op=2∨op=3∨op=4∨op=5∨op=6∨op=7∨op=8:=by omega
  all_goals rfl
 ·have e:jq op=(⟨false,false,false,false,false,false⟩,false):=by
   unfold jq;rw [if_neg (by omega),if_neg (by omega),if_neg (by omega),if_neg (by omega),if_neg (by omega),if_neg (by omega)]
  rw [e];simp only [ED,EC,EB,Lk,show¬ op=1 by omega,show¬ op=2 by omega,show¬ op=3 by omega,show¬ op=4 by omega,show¬ op=5 by omega,show¬ op=6 by omega,show¬ op=7 by omega,show¬ op=8 by omega,apK,apM]
def aj8(n:Nat)(op:Int)(h:1≤op∧op≤8):Ba n op=some ((jq op).1.name,(jq op).1.max,(jq op).1.a,(jq op).1.b,(jq op).1.body,(jq op).1.other):=by
 obtain rfl|rfl|rfl|rfl|rfl|rfl|rfl|rfl:op=1∨op=2∨op=3∨op=4∨op=5∨op=6∨op=7∨op=8:=by omega
 all_goals rfl
def aj9(n:Nat)(op:Int)(h:¬ (1≤op∧op≤8)):Ba n op=some (false,true,false,false,false,false):=by
 simp only [Ba,Gr,Gq,O4,show¬ op=1 by omega,show¬ op=2 by omega,show¬ op=3 by omega,show¬ op=4 by omega,show¬ op=5 by omega,show¬ op=6 by omega,show¬ op=7 by omega,apK,apM]
def ye(s:Stmt)(u:kB):Bool:=
 (!u.name && !decide (s.Name=[]))||(!u.a && !mi s.A)||(!u.b && !mi s.B)||(!u.max && !decide (s.Max=0))||(!u.body&&decide (0<s.Body.length))||(!u.other&&decide (0<s.bX.length))
def qm(s:Stmt):Bool:=if s.Op=6 then decide (1≤s.Max)&&decide (s.Max≤16)else if s.Op=8 then decide (0≤s.Max)&&decide (s.Max≤999)else true
def jK(s:Stmt)(d:Int):Int:=
 if(jq s.Op).2=false∨ye s (jq s.Op).1=true∨qm s=false then 1
 else if(jq s.Op).1.name=true∧gF s.Name=false then 7
 else if(jq s.Op).1.a=true∧gz s.A 1≠0 then gz s.A 1
 else if(jq s.Op).1.b=true∧gz s.B 1≠0 then gz s.B 1
 else if 12<d then 2 else 0
open Go Go.Ab Go.Proofs
def aj'(n:Nat)(s:Stmt)(u:kB):EA n s u=some (!ye s u&&qm s):=by
 have hm:(bif decide (s.Op=6)then some (bif decide (1≤s.Max)then decide (s.Max≤16)else false)else bif decide (s.Op=8)then some (bif decide (0≤s.Max)then decide (s.Max≤999)else false)else some true)=some (qm s):=by
  unfold qm;by_cases cb:s.Op=6
  ·simp only [cb,apJ,apL,apY,e4]
  ·by_cases dR:s.Op=8
   ·simp only [dR,show¬ (8:Int)=6 by omega,apJ,apK,apL,apM,apY,apZ,e4]
   ·simp only [cb,dR,apK,apM,apZ]
 unfold EA ye;rw [hm];simp only [ZL,lN,e4,eb,fm];generalize decide (s.Name=[])=x
 generalize mi s.A=y
 generalize mi s.B=z
 generalize decide (s.Max=0)=w
 generalize decide (0<s.Body.length)=p
 generalize decide (0<s.bX.length)=q
 generalize qm s=r
 obtain⟨oj,a,b,jw,l5,u_⟩:=u;cases oj<;>cases x<;>cases a<;>cases y<;>cases b<;>cases z<;>simp only [apN,apO,Bool.and_true,Bool.and_false,Bool.true_and,Bool.false_and,apX,Bool.or_false,Bool.true_or,Bool.false_or,apL,apM,aD]<;>(cases ((!jw && !w)||(!l5&&p)||(!u_&&q))<;>simp_all)
def aj_{n:Nat}(s:Stmt)(d:Int)(d9:dr s.A≤n)(cB:dr s.B≤n)(Qq:dr s.A≤140737488351232)(kJ:dr s.B≤140737488351232)(bB:s.Name.length≤140737488351232):EG n s d=some (jK s d):=by
 unfold EG EF EE jK;simp only [aj7,aD,lN,u9,aj',B8 n s.Name bB,ZJ s.A d9 Qq,ZJ s.B cB kJ];generalize (jq s.Op)=U
 obtain⟨u,aka⟩:=U;obtain⟨oj,a,b,jw,l5,u_⟩:=u;simp only
 generalize ye s ⟨oj,a,b,jw,l5,u_⟩=m
 generalize qm s=r
 cases aka
 ·simp
 ·cases m
  ·cases r
   ·simp
   ·generalize gF s.Name=x
    simp only [apN,apO,apL,apM,aD,Bool.true_and,Bool.and_true,Bool.true_eq_false,Bool.false_eq_true,or_self,apZ];cases oj
    ·simp only [apM,aD,Bool.false_eq_true,false_and,apZ];cases a
     ·simp only [apM,Bool.false_eq_true,false_and,apZ];cases b
      ·by_cases gn:12<d<;>simp [gn]
      ·by_cases hb:gz s.B 1=0<;>by_cases gn:12<d<;>simp [hb,gn]
     ·by_cases ha:gz s.A 1=0
      ·cases b
       ·by_cases gn:12<d<;>simp [ha,gn]
       ·by_cases hb:gz s.B 1=0<;>by_cases gn:12<d<;>simp [ha,hb,gn]
      ·simp [ha]
    ·cases x
     ·simp
     ·simp only [apL,aD,apN,apM,Bool.true_eq_false,and_false,apZ];cases a
      ·simp only [apM,Bool.false_eq_true,false_and,apZ];cases b
       ·by_cases gn:12<d<;>simp [gn]
       ·by_cases hb:gz s.B 1=0<;>by_cases gn:12<d<;>simp [hb,gn]
      ·by_cases ha:gz s.A 1=0
       ·cases b
        ·by_cases gn:12<d<;>simp [ha,gn]
        ·by_cases hb:gz s.B 1=0<;>by_cases gn:12<d<;>simp [ha,hb,gn]
       ·simp [ha]
  ·simp
def akb(s:Stmt):((decide (s.Op=6)&&(decide (s.Max<1)||decide (16<s.Max)))||(decide (s.Op=8)&&(decide (s.Max<0)||decide (999<s.Max)))) = !qm s:=by
 unfold qm;by_cases cb:s.Op=6
 ·simp only [cb,apY,apJ,Bool.true_and,show¬ (6:Int)=8 by omega,apK,Bool.false_and,Bool.or_false]
  by_cases Z:s.Max<1
  ·simp only [Z,show¬ 1≤s.Max by omega,apJ,apK,Bool.true_or,Bool.false_and,apO]
  ·by_cases af:16<s.Max
   ·simp only [Z,af,show¬ s.Max≤16 by omega,apJ,apK,apX,Bool.and_false,apO]
   ·simp only [Z,af,show s.Max≤16 by omega,show 1≤s.Max by omega,apJ,apK,Bool.or_self,Bool.and_self,apN]
 ·by_cases dR:s.Op=8
  ·simp only [dR,show¬ (8:Int)=6 by omega,apY,apZ,apJ,apK,Bool.true_and,Bool.false_and,Bool.false_or]
   by_cases Z:s.Max<0
   ·simp only [Z,show¬ 0≤s.Max by omega,apJ,apK,Bool.true_or,Bool.false_and,apO]
   ·by_cases af:999<s.Max
    ·simp only [Z,af,show¬ s.Max≤999 by omega,apJ,apK,apX,Bool.and_false,apO]
    ·simp only [Z,af,show s.Max≤999 by omega,show 0≤s.Max by omega,apJ,apK,Bool.or_self,Bool.and_self,apN]
  ·simp only [cb,dR,apZ,apK,Bool.false_and,Bool.or_self,apN]
def akc(a y b z pre P Q:Bool)(G:Bool→ap5):
 (Option.bind (bif (!pre && !a)then some y else some default) λao=>Option.bind (bif (!(pre||(!a && !ao)) && !b)then some z else some default) λaB=>G ((((pre||(!a && !ao))||(!b && !aB))||P)||Q))=G ((((pre||(!a && !y))||(!b && !z))||P)||Q):=by
 cases pre<;>cases a<;>cases y<;>cases b<;>cases z<;>rfl
def akd{n:Nat}(s:Stmt)(d:Int)(hn:25<n)(d9:dr s.A≤n)(cB:dr s.B≤n)(Qq:dr s.A≤140737488351232)(kJ:dr s.B≤140737488351232)(bB:s.Name.length<n)(ake:s.Name.length≤140737488351232):Gu n s d=some (jK s d):=by
 unfold Gu Gt Gs jK;by_cases gX:1≤s.Op∧s.Op≤8
 ·have Qr:(
   jq s.Op).2=true:=by
   have:s.Op=1∨s.Op=2∨s.Op=3∨s.Op=4∨s.Op=5∨s.Op=6∨s.Op=7∨s.Op=8:=by omega
   rcases this with e|e|e|e|e|e|e|e<;>rw [e]<;>rfl
  simp only [aj8 n s.Op gX,aD,lN,u9,ZM,B7 s.Name bB hn (by omega),ZK s.A d9 Qq,ZK s.B cB kJ,Qr,show¬ s.Op<1 by omega,show¬ 8<s.Op by omega,apK,apM,e4,eb,Bool.or_self,Bool.false_or,akb,fm]
  generalize qm s=r
  unfold ye;generalize (jq s.Op).1=u
  generalize decide (s.Name=[])=fq
  generalize mi s.A=y
  generalize mi s.B=z
  generalize decide (s.Max=0)=w
  generalize decide (0<s.Body.length)=p
  generalize decide (0<s.bX.length)=q
  generalize gF s.Name=x
  obtain⟨oj,a,b,jw,l5,u_⟩:=u;simp only
  have hm:((!oj && !fq)||(!a && !y)||(!b && !z)||(!jw && !w)||(!l5&&p)||(!u_&&q))=((((((!oj && !fq)||(!jw && !w))||(!a && !y))||(!b && !z))||(!l5&&p))||(!u_&&q)):=by
   generalize (!oj && !fq)=c1
   generalize (!jw && !w)=c2
   generalize (!a && !y)=c3
   generalize (!b && !z)=c4
   cases c1<;>cases c2<;>cases c3<;>cases c4<;>rfl
  rw [hm];clear hm;generalize ((!oj && !fq)||(!jw && !w))=pre
  generalize (!l5&&p)=c1
  generalize (!u_&&q)=c2
  refine(akc a y b z pre c1 c2 (λc=>bif c then some 1 else bif !r then some 1 else Option.bind (bif oj then some x else some default) λbh=>bif (oj && !bh)then some 7 else
   bif a then(bif !decide (gz s.A 1=0)then some (gz s.A 1)else bif b then(bif !decide (gz s.B 1=0)then some (gz s.B 1)else bif decide (12<d)then some 2 else some 0)else bif decide (12<d)then some 2 else some 0)
   else bif b then(bif !decide (gz s.B 1=0)then some (gz s.B 1)else bif decide (12<d)then some 2 else some 0)else bif decide (12<d)then some 2 else some 0)).trans ?_
  generalize ((((pre||(!a && !y))||(!b && !z))||c1)||c2)=m
  cases m
  ·cases r
   ·simp
   ·simp only [apN,apO,apL,apM,aD,Bool.true_and,Bool.and_true,Bool.true_eq_false,Bool.false_eq_true,or_self,apZ];cases oj
    ·simp only [apM,aD,Bool.false_eq_true,false_and,apZ,Bool.false_and];cases a
     ·simp only [apM,Bool.false_eq_true,false_and,apZ];cases b
      ·by_cases gn:12<d<;>simp [gn]
      ·by_cases hb:gz s.B 1=0<;>by_cases gn:12<d<;>simp [hb,gn]
     ·by_cases ha:gz s.A 1=0
      ·cases b
       ·by_cases gn:12<d<;>simp [ha,gn]
       ·by_cases hb:gz s.B 1=0<;>by_cases gn:12<d<;>simp [ha,hb,gn]
      ·simp [ha]
    ·cases x
     ·simp
     ·simp only [apL,aD,apN,apM,Bool.true_eq_false,and_false,apZ,Bool.and_false];cases a
      ·simp only [apM,Bool.false_eq_true,false_and,apZ];cases b
       ·by_cases gn:12<d<;>simp [gn]
       ·by_cases hb:gz s.B 1=0<;>by_cases gn:12<d<;>simp [hb,gn]
      ·by_cases ha:gz s.A 1=0
       ·cases b
        ·by_cases gn:12<d<;>simp [ha,gn]
        ·by_cases hb:gz s.B 1=0<;>by_cases gn:12<d<;>simp [ha,hb,gn]
       ·simp [ha]
  ·simp
 ·have Qr:(jq s.Op).2=false:=by
   unfold jq;rw [if_neg (by omega),if_neg (by omega),if_neg (by omega),if_neg (by omega),if_neg (by omega),if_neg (by omega)]
  have hb:(decide (s.Op<1)||decide (8<s.Op))=true:=by
   by_cases Z:s.Op<1
   ·rw [decide_eq_true Z];rfl
   ·rw [decide_eq_true (show 8<s.Op by omega)];simp
  simp only [aj9 n s.Op gX,aD,Qr,hb,eb,e4,Bool.true_or,apN,Bool.false_and,apM,apL,true_or,apY]
open Go Go.Ab Go.Proofs
def sH(before:List Param):List Param→Int
 |[]=>0
 |x::l=>if gF x.Name=false then 7 else if x.fP<1∨3<x.fP then 10 else if(before.any λy=>decide (y.Name=x.Name))=true then 8 else sH (before++[x]) l
def akf(n:Nat)(s:List Param)(b:Param)(hs:s.length≤4611686018427387904):∀m i,s.length<i+m→i≤s.length→
 ∃r,wN n s b m (i:Int)=some r∧(decide (0≤r)=(s.drop i).any λy=>decide (y.Name=b.Name)):=by
 intro m;induction m with
 |zero=>intro i h af;omega
 |succ m bc=>
  intro i hm hi;simp only [wN,La,K_,K'];by_cases h:i<s.length
  ·obtain⟨r,Z,af⟩:=bc (i+1) (by omega) (by omega)
   (rw [gE s i default h,gr (by omega)];simp only [apR];rw [Z])
   generalize s.getD i default=c
   simp only [h,cr h,apS,apJ,apL,bg,aD,List.any_cons];by_cases hc:c.Name=b.Name
   ·simp only [hc,apJ,apL,Bool.true_or];exact⟨_,rfl,decide_eq_true (by omega)⟩
   ·simp only [hc,apK,apM,Bool.false_or];exact⟨r,rfl,af⟩
  ·rw [iZ s i h];simp only [h,apS,apK,apM];exact⟨-1,rfl,rfl⟩
def akg{n:Nat}(s:List Param)(b:Param)(hs:s.length≤4611686018427387904)(hn:s.length<n):Ew n s b=some (s.any λy=>decide (y.Name=b.Name)):=by
 unfold Ew Lb;obtain⟨r,Z,af⟩:=akf n s b hs n 0 (by omega) (by omega)
 rw [show wN n s b n 0=_ from Z,aD,af,List.drop_zero]
def va{α:Type}[Inhabited α](l:List α)(i:Nat)(h:i<l.length):l.take (i+1)=l.take i++[l.getD i default]:=by
 rw [List.take_add,gE l i default h,List.take_succ_cons,List.take_zero]
def Qs:∀(l:List Param) (i:Nat),i<l.length→(l.getD i default).Name.length<hP l
 |[],i,h=>by simp at h
 |x::l,0,h=>by simp only [hP,List.getD_cons_zero];omega
 |x::l,i+1,h=>by have:=Qs l i (by simpa using h);simp only [hP,List.getD_cons_succ];omega
def akh(n:Nat)(l:List Param)(a':hP l<n)(rP:hP l≤140737488351232):∀m i,l.length<i+m→i≤l.length→wO n l m (i:Int)=some (sH (l.take i) (l.drop i)):=by
 have hlen:=B' l;intro m;induction m with
 |zero=>intro i h af;omega
 |succ m bc=>
  intro i hm hi;simp only [wO,Ld,Lc];by_cases h:i<l.length
  ·have hg:=Qs l i h
   (rw [gE l i default h,gr (by omega)];simp only [apR];rw [bc (i+1) (by omega) (by omega),va l i h])
   generalize l.getD i default=c at hg
   rw [B8 n c.Name (by omega),akg (l.take i) c (by simp;omega) (by simp;omega)]
   simp only [h,cr h,apS,apJ,apL,bg,aD,Zt hi,eb,sH];cases gF c.Name
   ·simp
   ·by_cases bU:c.fP<1∨3<c.fP
    ·have:(decide (c.fP<1)||decide (3<c.fP))=true:=by rcases bU with bU|bU<;>rw [decide_eq_true bU]<;>simp
     simp [this,bU]
    ·have:(decide (c.fP<1)||decide (3<c.fP))=false:=by rw [decide_eq_false (λe=>bU (Or.inl e)),decide_eq_false (λe=>bU (Or.inr e))];rfl
     rw [this];simp only [apN,apM,Bool.true_eq_false,apZ,bU];cases ((l.take i).any λy=>decide (y.Name=c.Name))<;>rfl
  ·rw [iZ l i h];simp only [h,apS,apK,apM];rfl
def aki(n:Nat)(al:Int→ap5)(l:List Param)(i:Nat)(h:i<l.length)(hs:l.length≤4611686018427387904):∀m k,i<k+m→k≤i→
 xD n al l (i:Int) m (k:Int)=if(((l.take i).drop k).any λy=>decide (y.Name=(l.getD i default).Name))=true then some 8 else al ((i+1:Nat):Int):=by
 intro m;induction m with
 |zero=>intro k Z af;omega
 |succ m bc=>
  intro k hm hk;simp only [xD,OW,OV];by_cases DD:k<i
  ·have e:(l.take i).drop k=l.getD k default::(l.take i).drop (k+1):=by
    rw [gE (l.take i) k default (by simp;omega)]
    congr 1
    simp [List.getD,DD]
   (rw [e,gr (by omega),bc (k+1) (by omega) (by omega)];simp only [apR])
   generalize l.getD k default=c
   simp only [DD,cr h,cr (show k<l.length by omega),apS,apJ,apL,bg,List.any_cons]
   by_cases hc:c.Name=(l.getD i default).Name
   ·simp only [hc,apJ,apL,Bool.true_or,apY]
   ·simp only [hc,apK,apM,Bool.false_or]
  ·obtain rfl:k=i:=by omega
   rw [iZ (l.take k) k (by simp;omega),gr (by omega)]
   simp only [apS,Nat.lt_irrefl,apK,apM,List.any_nil,Bool.false_eq_true,apZ]
def akj(n:Nat)(l:List Param)(hn:25<n)(a':hP l<n)(rP:hP l≤140737488351232):∀m i,l.length<i+m→i≤l.length→so n l m (i:Int)=some (sH (l.take i) (l.drop i)):=by
 have hlen:=B' l;intro m;induction m with
 |zero=>intro i h af;omega
 |succ m bc=>
  intro i hm hi;simp only [so,OX,OU];by_cases h:i<l.length
  ·have hg:=Qs l i h;have aQ:=aki n (so n l m) l i h (by omega) n 0 (by omega) (by omega)
   rw [show xD n (so n l m) l (i:Int) n 0=_ from aQ,List.drop_zero]
   (rw [gE l i default h];simp only [apR];rw [bc (i+1) (by omega) (by omega),va l i h])
   generalize l.getD i default=c at hg
   rw [B7 c.Name (by omega) hn (by omega)]
   simp only [h,cr h,apS,apJ,apL,bg,aD,apX,eb,sH];cases gF c.Name
   ·simp
   ·by_cases bU:c.fP<1∨3<c.fP
    ·have:(decide (c.fP<1)||decide (3<c.fP))=true:=by rcases bU with bU|bU<;>rw [decide_eq_true bU]<;>simp
     simp [this,bU]
    ·have:(decide (c.fP<1)||decide (3<c.fP))=false:=by rw [decide_eq_false (λe=>bU (Or.inl e)),decide_eq_false (λe=>bU (Or.inr e))];rfl
     rw [this];simp only [apN,apM,Bool.true_eq_false,apZ,bU];cases ((l.take i).any λy=>decide (y.Name=c.Name))<;>rfl
  ·rw [iZ l i h];simp only [h,apS,apK,apM];rfl
def pg(l:List Param):Int:=if 6<l.length then 2 else sH [] l
def akk{n:Nat}(l:List Param)(a':hP l<n)(rP:hP l≤140737488351232):Ex n l=some (pg l):=by
 have hlen:=B' l;unfold Ex pg;have:=akh n l a' rP n 0 (by omega) (by omega)
 rw [show wO n l n 0=_ from this]
 simp only [fm];by_cases h:6<l.length
 ·simp only [h,apJ,apL,apY]
 ·simp only [h,apK,apM,apZ,List.take_zero,List.drop_zero]
def akl{n:Nat}(l:List Param)(hn:25<n)(a':hP l<n)(rP:hP l≤140737488351232):Gm n l=some (pg l):=by
 have hlen:=B' l;unfold Gm pg;have:=akj n l hn a' rP n 0 (by omega) (by omega)
 rw [show so n l n 0=_ from this]
 simp only [fm];by_cases h:6<l.length
 ·simp only [h,apJ,apL,apY]
 ·simp only [h,apK,apM,apZ,List.take_zero,List.drop_zero]
open Go Go.Ab Go.Proofs
mutual
def rn:Expr→Nat→Nat
 |⟨_,_,_,aw⟩,k=>if k=0 then 0 else ph aw (k-1)
def ph:List Expr→Nat→Nat
 |[],k=>k
 |x::l,k=>ph l (rn x k)
end
def ZN(e:Expr)(k:Nat):rn e k=if k=0 then 0 else ph e.aw (k-1):=by cases e;rfl
mutual
def B_:∀(e:Expr) (k:Nat),rn e k≤k
 |⟨_,_,_,aw⟩,k=>by
  have:=Qt aw (k-1)
  simp only [rn];split<;>omega
def Qt:∀(l:List Expr) (k:Nat),ph l k≤k
 |[],k=>Nat.le_refl _
 |x::l,k=>by
  have Z:=B_ x k;have af:=Qt l (rn x k);simp only [ph];omega
end
def jr(e:Expr)(k:Nat):Nat:=if k=0∨mi e=true then k else rn e k
def HH(e:Expr)(k:Nat):jr e k≤k:=by unfold jr;split;exact Nat.le_refl _;exact B_ e k
mutual
def pi:Stmt→Int→Nat×Int→Nat×Int
 |⟨Op,Name,Max,A,B,Body,bX⟩,d,r=>
  hD bX (ap2 (d+1)) (hD Body (ap2 (d+1)) (jr B (jr A (r.1-1)),if r.2=0 then jK ⟨Op,Name,Max,A,B,Body,bX⟩ d else r.2))
def hD:List Stmt→Int→Nat×Int→Nat×Int
 |[],d,r=>r
 |s::l,d,r=>if r.1=0 then r else hD l d (pi s d r)
end
def ZO(s:Stmt)(d:Int)(r:Nat×Int):pi s d r=hD s.bX (ap2 (d+1)) (hD s.Body (ap2 (d+1)) (jr s.B (jr s.A (r.1-1)),if r.2=0 then jK s d else r.2)):=by cases s;rfl
mutual
def akm:∀(s:Stmt) (d:Int) (r:Nat×Int),(pi s d r).1≤r.1
 |⟨Op,Name,Max,A,B,Body,bX⟩,d,r=>by
  have Z:=HH A (r.1-1);have af:=HH B (jr A (r.1-1));have au:=sI Body (ap2 (d+1)) (jr B (jr A (r.1-1)),if r.2=0 then jK ⟨Op,Name,Max,A,B,Body,bX⟩ d else r.2)
  have aQ:=sI bX (ap2 (d+1)) (hD Body (ap2 (d+1)) (jr B (jr A (r.1-1)),if r.2=0 then jK ⟨Op,Name,Max,A,B,Body,bX⟩ d else r.2))
  simp only [pi]at *;omega
def sI:∀(l:List Stmt) (d:Int) (r:Nat×Int),(hD l d r).1≤r.1
 |[],d,r=>Nat.le_refl _
 |s::l,d,r=>by
  have Z:=akm s d r;have af:=sI l d (pi s d r);simp only [hD];split
  ·exact Nat.le_refl _
  ·omega
end
def akn:∀(n:Nat) (e:Expr) (k:Nat) (b:Int),dr e≤n→dr e≤140737488351232→k≤1000→wS n e (k:Int) b=some ((rn e k:Nat):Int):=by
 intro n;induction n with
 |zero=>intro e k b h;rw [rl]at h;omega
 |succ n bc=>
  intro e k b h ag hk;have u':=rl e;have HG:=HB e.aw;simp only [wS,Ln,i7];rw [ZN];by_cases h0:k=0
  ·rw [if_pos h0];simp only [h0,apJ,apL]
  ·rw [if_neg h0];simp only [h0,apK,apM]
   have iy:∀m i k,e.aw.length<i+m→i≤e.aw.length→k≤1000→z6 n (wS n) e b m ((k:Nat):Int) (i:Int)=some ((ph (e.aw.drop i) k:Nat):Int):=by
    intro m;induction m with
    |zero=>intro i k Z af;omega
    |succ m ny=>
     intro i k Z af hk;simp only [z6,Lm];by_cases hi:i<e.aw.length
     ·have hg:=HC e.aw i hi;have hle:=B_ (e.aw.getD i default) k
      (rw [gE e.aw i default hi,gr (by omega)];simp only [apR];rw [bc _ k b (by omega) (by omega) hk])
      simp only [hi,cr hi,apS,apJ,apL,bg,aD,ph];exact ny (i+1) _ (by omega) (by omega) (by omega)
     ·rw [iZ e.aw i hi];simp only [hi,apS,apK,apM,ph]
   rw [show ap2 ((k:Int)-1)=((k-1:Nat):Int)by rw [wr]<;>omega]
   exact iy n 0 (k-1) (by omega) (by omega) (by omega)
def ZP{n:Nat}(e:Expr)(k:Nat)(b:Int)(h:dr e≤n)(ag:dr e≤140737488351232)(hk:k≤1000):z7 n e (k:Int) b=some ((jr e k:Nat):Int):=by
 unfold z7 jr Ll;simp only [ZL,i7,akn n e k b h ag hk,aD];by_cases h0:k=0
 ·simp [h0]
 ·cases mi e<;>simp [h0]
open Go Go.Ab Go.Proofs
def Qu:∀(l:List Stmt) (i:Nat),i<l.length→fst (l.getD i default)<ep l
 |[],i,h=>by simp at h
 |x::l,0,h=>by simp only [ep,List.getD_cons_zero];omega
 |x::l,i+1,h=>by have:=Qu l i (by simpa using h);simp only [ep,List.getD_cons_succ];omega
def ZQ{α β:Type}(x:α×β):(x.1,x.2)=x:=rfl
def ako:∀(n:Nat) (l:List Stmt) (d:Int) (k:Nat) (e:Int),ep l+2≤n→ep l≤140737488351232→k≤1000→
 ue n l d (k:Int) e=some ((((hD l d (k,e)).1:Nat):Int),(hD l d (k,e)).2):=by
 intro n;induction n with
 |zero=>intro l d k e h;omega
 |succ n bc=>
  intro l d k e h ag hk;have HG:=B9 l;simp only [ue,Lp]
  have iy:∀m i k e,l.length<i+m→i≤l.length→k≤1000→z8 n (ue n) d l m ((k:Nat):Int) e (i:Int)=some ((((hD (l.drop i) d (k,e)).1:Nat):Int),(hD (l.drop i) d (k,e)).2):=by
   intro m;induction m with
   |zero=>intro i k e Z af;omega
   |succ m ny=>
    intro i k e Z af hk;simp only [z8,Lo,lN,u9];by_cases hi:i<l.length
    ·have hg:=Qu l i hi
     (rw [gE l i default hi];simp only [apR])
     generalize l.getD i default=s at hg
     have nb:=fst_eq s;rw [gr (by omega)]
     simp only [hi,cr hi,apS,apJ,apL,bg,i7,hD];by_cases h0:k=0
     ·simp only [h0,apJ,apL,apY]
     ·simp only [h0,apK,apM,apZ]
      have ay:EH n s d e=some (if e=0 then jK s d else e):=by
       unfold EH;simp only [lN,u9,aj_ s d (show dr s.A≤n by omega) (show dr s.B≤n by omega) (by omega) (by omega) (by omega),aD]
       by_cases he:e=0
       ·simp only [he,apJ,apL,apY]
       ·simp only [he,apK,apM,apZ]
      rw [ay,aD,show ap2 ((k:Int)-1)=((k-1:Nat):Int)by rw [wr]<;>omega]
      have fr:=HH s.A (k-1);have eG:=HH s.B (jr s.A (k-1));rw [ZP s.A (k-1) _ (by omega) (by omega) (by omega),aD,ZP s.B _ _ (by omega) (by omega) (by omega),aD]
      have JF:=sI s.Body (ap2 (d+1)) (jr s.B (jr s.A (k-1)),if e=0 then jK s d else e)
      rw [bc s.Body _ _ _ (by omega) (by omega) (by omega),aD]
      simp only [ZQ]at JF ⊢;have apd:=sI s.bX (ap2 (d+1)) (hD s.Body (ap2 (d+1)) (jr s.B (jr s.A (k-1)),if e=0 then jK s d else e))
      rw [bc s.bX _ _ _ (by omega) (by omega) (by omega),aD]
      simp only [ZQ];rw [ny (i+1) _ _ (by omega) (by omega) (by omega),ZO]
    ·rw [iZ l i hi];simp only [hi,apS,apK,apM,hD]
  exact iy n 0 k e (by omega) (by omega) hk
open Go Go.Ab Go.Proofs
abbrev kK:=cE
def hY:Int→List kK→Int
 |e,[]=>e
 |e,v::l=>hY (if e=0∧v.oY=true then jK v.Stmt v.zJ else e) l
def ZR:∀(l m:List kK) (e:Int),hY e (l++m)=hY (hY e l) m
 |[],m,e=>rfl
 |v::l,m,e=>by rw [List.cons_append,hY,hY,ZR l m]
def Qv:∀(l:List kK) (e:Int),(∀v,v∈l→v.oY=false)→hY e l=e
 |[],e,h=>rfl
 |v::l,e,h=>by
  rw [hY,h v (List.mem_cons_self),Qv l _ λw hw=>h w (List.mem_cons_of_mem _ hw)]
  simp
def ZS{k:Nat}(h:k≤100000):room k 272=true:=by simp [room];omega
def akp:∀(n:Nat) (e:Expr) (out:List kK) (root:Bool),dr e≤n→dr e≤140737488351232→out.length≤401→
 ∃ext,rc n out e root=some (out++ext)∧(out++ext).length≤401∧401-(out++ext).length=rn e (401-out.length)∧∀v,v∈ext→v.oY=false:=by
 intro n;induction n with
 |zero=>intro e out root h;rw [rl]at h;omega
 |succ n bc=>
  intro e out root h ag aA;have u':=rl e;have HG:=HB e.aw;simp only [rc,OO,fm];rw [ZN];by_cases h0:400<out.length
  ·simp only [h0,apJ,apL];rw [if_pos (by omega)]
   exact⟨[],by simp,by simpa using aA,by simp;omega,λv ay=>by cases ay⟩
  ·simp only [h0,apK,apM,apP,apQ,ZS (show out.length+(0+1)≤100000 by omega),bg]
   rw [if_neg (by omega)]
   have iy:∀m i (out:List kK),e.aw.length<i+m→i≤e.aw.length→out.length≤401→
    ∃ext,A7 n (rc n) e m out (i:Int)=some (out++ext)∧(out++ext).length≤401∧401-(out++ext).length=ph (e.aw.drop i) (401-out.length)∧∀v,v∈ext→v.oY=false:=by
    intro m;induction m with
    |zero=>intro i out Z af;omega
    |succ m ny=>
     intro i out Z af aA;simp only [A7,ON,OM];by_cases hi:i<e.aw.length
     ·have hg:=HC e.aw i hi
      (rw [gE e.aw i default hi];simp only [apR])
      generalize e.aw.getD i default=a at hg
      rw [gr (by omega)]
      simp only [hi,cr hi,apS,apJ,apL,bg,lp,ph];by_cases Ca:out.length≤400
      ·simp only [Ca,apJ,apL];obtain⟨fh,e1,e2,e3,h3⟩:=bc a out false (by omega) (by omega) aA
       obtain⟨gw,f1,f2,f3,f4⟩:=ny (i+1) (out++fh) (by omega) (by omega) e2
       rw [e1,aD,f1];refine⟨fh++gw,by rw [List.append_assoc],by rw [←List.append_assoc];exact f2,by rw [←List.append_assoc,f3,e3],λv ay=>?_⟩
       rcases List.mem_append.1 ay with ay|ay
       ·exact h3 v ay
       ·exact f4 v ay
      ·simp only [Ca,apK,apM];have dQ:401-out.length=0:=by omega
       have ape:=B_ a 0;have wn:=Qt (e.aw.drop (i+1)) (rn a 0);exact⟨[],by simp,by simpa using aA,by rw [dQ];simp;omega,λv ay=>by cases ay⟩
     ·rw [iZ e.aw i hi];simp only [hi,apS,apK,apM,ph];exact⟨[],by simp,by simpa using aA,by simp,λv ay=>by cases ay⟩
   obtain⟨x,e1,e2,e3,h3⟩:=iy n 0 (out++[⟨false,⟨0,[],0,⟨0,0,[],[]⟩,⟨0,0,[],[]⟩,[],[]⟩,0,e,root⟩]) (by omega) (by omega) (by simp;omega)
   refine⟨⟨false,⟨0,[],0,⟨0,0,[],[]⟩,⟨0,0,[],[]⟩,[],[]⟩,0,e,root⟩::x,?_,?_,?_,?_⟩
   ·exact e1.trans (by simp)
   ·simpa using e2
   ·have:401-(out++[(⟨false,⟨0,[],0,⟨0,0,[],[]⟩,⟨0,0,[],[]⟩,[],[]⟩,0,e,root⟩:kK)]).length=401-out.length-1:=by simp;omega
    rw [this,List.drop_zero]at e3;simpa using e3
   ·intro v ay;rcases List.mem_cons.1 ay with rfl|ay
    ·rfl
    ·exact h3 v ay
open Go Go.Ab Go.Proofs
def ZT{α:Type}{n:Nat}(e:Expr)(out:List kK)(G:List kK→Option α)(h:dr e≤n)(ag:dr e≤140737488351232)(aA:out.length≤401):
 ∃ext,(Option.bind (rb n e) λr=>bif !r then Option.bind (rc n out e true) G else G out)=G (out++ext)∧(out++ext).length≤401∧401-(out++ext).length=jr e (401-out.length)∧∀v,v∈ext→v.oY=false:=by
 rw [ZM,aD];unfold jr;cases l7:mi e
 ·obtain⟨x,e1,e2,e3,h3⟩:=akp n e out true h ag aA;refine⟨x,?_,e2,?_,h3⟩
  ·rw [e1];rfl
  ·rw [e3];by_cases h0:401-out.length=0
   ·rw [if_pos (Or.inl h0),h0];have:=B_ e 0
    omega
   ·rw [if_neg (by simp [h0])]
 ·refine⟨[],by simp,by simpa using aA,?_,λv ay=>by cases ay⟩
  rw [if_pos (Or.inr rfl)];simp
def akq:∀(n:Nat) (l:List Stmt) (d:Int) (out:List kK) (e:Int),ep l+2≤n→ep l≤140737488351232→out.length≤401→
 ∃ext,mg n out l d=some (out++ext)∧(out++ext).length≤401∧(401-(out++ext).length,hY e ext)=hD l d (401-out.length,e)∧∀v,v∈ext→v.oY=true→fst v.Stmt<ep l:=by
 intro n;induction n with
 |zero=>intro l d out e h;omega
 |succ n bc=>
  intro l d out e h ag aA;have HG:=B9 l;simp only [mg,OS]
  have iy:∀m i (out:List kK) (e:Int),l.length<i+m→i≤l.length→out.length≤401→
   ∃ext,sn n (mg n) l d m out (i:Int)=some (out++ext)∧(out++ext).length≤401∧(401-(out++ext).length,hY e ext)=hD (l.drop i) d (401-out.length,e)∧∀v,v∈ext→v.oY=true→fst v.Stmt<ep l:=by
   intro m;induction m with
   |zero=>intro i out e Z af;omega
   |succ m ny=>
    intro i out e Z af aA;simp only [sn,OR,OP,Gl,Gk,OQ,lN,u9];by_cases hi:i<l.length
    ·have hg:=Qu l i hi
     (rw [gE l i default hi];simp only [apR])
     generalize l.getD i default=s at hg
     have nb:=fst_eq s;rw [gr (by omega)]
     simp only [hi,cr hi,apS,apJ,apL,bg,lp,hD];by_cases Ca:out.length≤400
     ·rw [if_neg (by omega)]
      simp only [Ca,apJ,apL,apP,apQ,ZS (show out.length+(0+1)≤100000 by omega),bg]
      obtain⟨fh,a7,a2,a3,a4⟩:=ZT (n:=n) s.A (out++[(⟨true,s,d,⟨0,0,[],[]⟩,false⟩:kK)]) (λv28=>Option.bind (rb n s.B) λhX=>bif !hX then Option.bind (rc n v28 s.B true) λjG=>
       Option.bind (mg n jG s.Body (ap2 (d+1))) λiY=>Option.bind (mg n iY s.bX (ap2 (d+1))) λnr=>sn n (mg n) l d m nr ((i+1:Nat):Int)
       else Option.bind (mg n v28 s.Body (ap2 (d+1))) λiY=>Option.bind (mg n iY s.bX (ap2 (d+1))) λnr=>sn n (mg n) l d m nr ((i+1:Nat):Int)) (by omega) (by omega) (by simp;omega)
      rw [a7];obtain⟨gw,b4,hR,Cb,HI⟩:=ZT (n:=n) s.B (out++[(⟨true,s,d,⟨0,0,[],[]⟩,false⟩:kK)]++fh) (λv=>Option.bind (mg n v s.Body (ap2 (d+1))) λiY=>Option.bind (mg n iY s.bX (ap2 (d+1))) λnr=>sn n (mg n) l d m nr ((i+1:Nat):Int)) (by omega) (by omega) a2
      rw [b4];obtain⟨kL,c1,c2,c3,c4⟩:=bc s.Body (ap2 (d+1)) _ (if e=0 then jK s d else e) (by omega) (by omega) hR
      rw [c1,aD];obtain⟨fk,d1,d2,d3,d4⟩:=bc s.bX (ap2 (d+1)) _ (hY (if e=0 then jK s d else e) kL) (by omega) (by omega) c2
      rw [d1,aD];obtain⟨jH,f1,f2,f3,f4⟩:=ny (i+1) _ (hY (hY (if e=0 then jK s d else e) kL) fk) (by omega) (by omega) d2
      rw [f1];have Up:401-(out++[(⟨true,s,d,⟨0,0,[],[]⟩,false⟩:kK)]).length=401-out.length-1:=by simp;omega
      refine⟨(⟨true,s,d,⟨0,0,[],[]⟩,false⟩:kK)::(fh++(gw++(kL++(fk++jH)))),?_,?_,?_,?_⟩
      ·simp
      ·simpa using f2
      ·have e1:hY e ((⟨true,s,d,⟨0,0,[],[]⟩,false⟩:kK)::(fh++(gw++(kL++(fk++jH)))))=hY (hY (hY (if e=0 then jK s d else e) kL) fk) jH:=by
        simp only [hY,and_true,ZR];rw [Qv fh _ a4,Qv gw _ HI]
       have e2:(out++(⟨true,s,d,⟨0,0,[],[]⟩,false⟩:kK)::(fh++(gw++(kL++(fk++jH))))).length=(out++[(⟨true,s,d,⟨0,0,[],[]⟩,false⟩:kK)]++fh++gw++kL++fk++jH).length:=by simp
       rw [e1,e2,f3]
       congr 1
       rw [ZO];simp only
       rw [d3,c3,Cb,a3,Up]
      ·intro v ay dS;simp only [List.mem_cons,List.mem_append]at ay;rcases ay with rfl|ay|ay|ay|ay|ay
       ·exact hg
       ·rw [a4 v ay]at dS;cases dS
       ·rw [HI v ay]at dS;cases dS
       ·have:=c4 v ay dS;omega
       ·have:=d4 v ay dS;omega
       ·exact f4 v ay dS
     ·rw [if_pos (by omega)]
      simp only [Ca,apK,apM];exact⟨[],by simp,by simpa using aA,by simp [hY],λv ay=>by cases ay⟩
    ·rw [iZ l i hi];simp only [hi,apS,apK,apM,hD];exact⟨[],by simp,by simpa using aA,by simp [hY],λv ay=>by cases ay⟩
  exact iy n 0 out e (by omega) (by omega) aA
open Go Go.Ab Go.Proofs
def nz(p:bi):Int:=
 if gF p.Name=false then 7 else if pg p.Params≠0 then pg p.Params
 else if(hD p.Body 1 (401,0)).2=0∧(hD p.Body 1 (401,0)).1=0 then 2 else(hD p.Body 1 (401,0)).2
def ZU{n:Nat}(p:bi)(bB:p.Name.length≤140737488351232)(kx:hP p.Params<n)(Qw:hP p.Params≤140737488351232)(cB:ep p.Body+2≤n)(kJ:ep p.Body≤140737488351232):z' n p=some (nz p):=by
 unfold z' Lq nz;rw [B8 n p.Name bB,akk p.Params kx Qw];simp only [aD];cases gF p.Name
 ·rfl
 ·simp only [apN,apM,Bool.true_eq_false,apZ];by_cases h:pg p.Params=0
  ·simp only [h,apJ,apN,apM,ne_eq,not_true,apZ];have:=ako n p.Body 1 401 0 cB kJ (by omega)
   rw [show ue n p.Body 1 401 0=_ from this]
   have hle:=sI p.Body 1 (401,0);simp only at hle
   generalize hD p.Body 1 (401,0)=r at hle
   obtain⟨k,e⟩:=r;simp only [aD];simp only at hle
   rw [show ap2 (401-((k:Nat):Int))=401-((k:Nat):Int)by rw [wr]<;>omega]
   by_cases he:e=0
   ·by_cases hk:k=0
    ·subst hk;subst he;rfl
    ·simp only [he,hk,apJ,apL,and_false,apZ,show¬ (400:Int)<401-((k:Nat):Int)by omega,apK,apM]
   ·simp only [he,apK,apM,false_and,apZ]
  ·simp only [h,apK,apO,apL,ne_eq,not_false_iff,apY]
def ZV:∀(l:List kK) (e:Int),e≠0→hY e l=e
 |[],e,h=>rfl
 |v::l,e,h=>by rw [hY,if_neg (λx=>h x.1),ZV l e h]
def akr(n:Nat)(l:List kK)(hn:25<n)(B:Nat)(cB:B≤n)(kJ:B≤140737488351232)(ag:l.length≤401)(hs:∀v,v∈l→v.oY=true→fst v.Stmt<B):∀m i,l.length<i+m→i≤l.length→
 xF n l m (i:Int)=some (if hY 0 (l.drop i)≠0 then hY 0 (l.drop i)else if 400<l.length then 2 else 0):=by
 intro m;induction m with
 |zero=>intro i h af;omega
 |succ m bc=>
  intro i hm hi;simp only [xF,O6,O5,Gv];by_cases h:i<l.length
  ·have ay:l.getD i default∈l:=by
    have e:l.getD i default=l[i]:=by simp [List.getD,h]
    rw [e];exact List.getElem_mem h
   have dS:=hs _ ay
   (rw [gE l i default h,gr (by omega)];simp only [apR];rw [bc (i+1) (by omega) (by omega)])
   generalize l.getD i default=v at dS
   simp only [h,cr h,apS,apJ,apL,bg,hY];cases aE:v.oY
   ·simp only [apM,Bool.false_eq_true,and_false,apZ]
   ·have a':=dS aE;have u':=fst_eq v.Stmt;rw [akd v.Stmt v.zJ hn (by omega) (by omega) (by omega) (by omega) (by omega) (by omega)]
    simp only [apL,aD,and_self,apY];by_cases he:jK v.Stmt v.zJ=0
    ·simp only [he,apJ,apN,apM]
    ·simp only [he,apK,apO,apL];rw [ZV _ _ he,if_pos he]
  ·rw [iZ l i h];simp only [h,apS,apK,apM,hY,fm,ne_eq,not_true,apZ];by_cases aQ:400<l.length
   ·simp only [aQ,apJ,apL,apY]
   ·simp only [aQ,apK,apM,apZ]
def ZW{n:Nat}(p:bi)(hn:500<n)(bB:p.Name.length<n)(ake:p.Name.length≤140737488351232)(kx:hP p.Params<n)(Qw:hP p.Params≤140737488351232)(cB:ep p.Body+2≤n)(kJ:ep p.Body≤140737488351232):Gw n p=some (nz p):=by
 unfold Gw OT nz;rw [B7 p.Name bB (by omega) (by omega),akl p.Params (by omega) kx Qw]
 simp only [aD];cases gF p.Name
 ·rfl
 ·simp only [apN,apM,Bool.true_eq_false,apZ];by_cases h:pg p.Params=0
  ·simp only [h,apJ,apN,apM,ne_eq,not_true,apZ];obtain⟨ext,e1,e2,e3,h3⟩:=akq n p.Body 1 [] 0 cB kJ (by simp)
   rw [List.nil_append]at e1 e2 e3;rw [e1];simp only [aD];have:=akr n ext (by omega) (ep p.Body) (by omega) kJ e2 h3 n 0 (by omega) (by omega)
   rw [show xF n ext n 0=_ from this,List.drop_zero,apQ]at *
   rw [show 401-0=401 from rfl]at e3
   rw [←e3];simp only
   by_cases he:hY 0 ext=0
   ·simp only [he,ne_eq,not_true,apZ,true_and];by_cases aQ:400<ext.length
    ·rw [if_pos aQ,if_pos (by omega)]
    ·rw [if_neg aQ,if_neg (by omega)]
   ·rw [if_pos he,if_neg (λx=>he x.1)]
  ·simp only [h,apK,apO,apL,ne_eq,not_false_iff,apY]
open Go Go.Ab Go.Proofs
open Go Go.Ab Go.Proofs
def iP(t:Token):Token:=⟨t.Kind,t.Text,t.N,0⟩
open Go Go.Ab Go.Proofs
def aks{w:ap0}:l_ w=w.length→w.all mG=true:=by
 induction w with
 |nil=>intro;rfl
 |cons c w bc=>
  intro h;rw [Zw]at h;cases hc:mG c
  ·rw [hc]at h;simp at h
  ·rw [hc]at h;simp only [apL,apP]at h;rw [List.all_cons,hc,bc (by omega)];rfl
def Qx{w:ap0}(h:gF w=true):∃c l,w=c::l∧rk c=true∧w.all mG=true∧B6 w=false∧w.length≤16:=by
 cases w with
 |nil=>cases h
 |cons c l=>
  simp only [gF,Bool.and_eq_true,decide_eq_true_eq,Bool.not_eq_true']at h;obtain⟨⟨⟨Z,af⟩,au⟩,aQ⟩:=h;exact⟨c,l,rfl,af,aks (by simpa using au),aQ,by simp;omega⟩
def gM:ap0→ap0
 |[]=>[]
 |c::l=>if c.toNat=34∨c.toNat=92 then 92::c::gM l else c::gM l
def quo(s:ap0):ap0:=34::(gM s++[34])
def spell(t:Token):ap0:=if t.Kind=3 then Lib.decDigits t.N.toNat else if t.Kind=4 then quo t.Text else t.Text
def Cc(t:Token):Prop:=
 t.ma=0∧((t.Kind=1∧gF t.Text=true∧t.N=0)∨(t.Kind=2∧t.Text∈sF∧t.N=0)∨(t.Kind=3∧t.Text=[]∧0≤t.N∧t.N≤9223372036854775807)∨
  (t.Kind=4∧ki t.Text=true∧t.N=0)∨(t.Kind=5∧t.Text∈marks∧t.N=0))
open Go Go.Ab Go.Proofs
abbrev pj:=List (Option Token)
def flat:pj→ap0
 |[]=>[]
 |some t::l=>spell t++flat l
 |none::l=>32::flat l
def lO:pj→List Token
 |[]=>[]
 |some t::l=>t::lO l
 |none::l=>lO l
def nA:∀l m:pj,flat (l++m)=flat l++flat m
 |[],m=>rfl
 |some t::l,m=>by simp only [List.cons_append,flat,nA l m,List.append_assoc]
 |none::l,m=>by simp only [List.cons_append,flat,nA l m]
def Qy:∀l m:pj,lO (l++m)=lO l++lO m
 |[],m=>rfl
 |some t::l,m=>by simp only [List.cons_append,lO,Qy l m]
 |none::l,m=>by simp only [List.cons_append,lO,Qy l m]
def lP(w:ap0):Token:=⟨2,w,0,0⟩
def fW(w:ap0):Token:=⟨5,w,0,0⟩
def akt(w:ap0):Token:=⟨1,w,0,0⟩
def aku(n:Int):Token:=⟨3,[],n,0⟩
def akv(w:ap0):Token:=⟨4,w,0,0⟩
def ev(op:Int):Nat:=if op=17 then 1 else if op=16 then 2 else if op=18 then 3 else if 10≤op∧op≤15 then 4 else if op=19 then 5 else if op=4∨op=5 then 6 else if 6≤op∧op≤8 then 7 else if op=9 then 8 else 9
def ro(op:Int):Token:=
 if op=17 then lP [111,114]else if op=16 then lP [97,110,100]else if op=10 then fW [61,61]else if op=11 then fW [33,61]else if op=12 then fW [60]else if op=13 then fW [60,61]
 else if op=14 then fW [62]else if op=15 then fW [62,61]else if op=19 then fW [43,43]else if op=4 then fW [43]else if op=5 then fW [45]else if op=6 then fW [42]else if op=7 then fW [47]else fW [37]
def iz(op:Int):Token:=
 if op=20 then lP [116,101,120,116]else if op=21 then lP [108,101,110]else if op=22 then lP [103,101,116,105,110,116]else if op=23 then lP [103,101,116,115,116,114]else if op=24 then lP [104,97,115]
 else if op=25 then lP [110,111,119]else if op=26 then lP [114,97,110,100,111,109]else lP [110,111,100,101]
def ih(op:Int)(p:pj)(least:Nat):pj:=if ev op<least then some (fW [40])::(p++[some (fW [41])])else p
def sJ(Op N:Int)(S:ap0)(L:List (Int×pj)):pj:=
 if Op=1 then[some (aku N)]else if Op=2 then[some (akv S)]else if Op=3 then[some (akt S)]
 else match L with
  |[]=>[some (iz Op),some (fW [40]),some (fW [41])]
  |[a]=>if Op=18 then some (lP [110,111,116])::none::ih a.1 a.2 3 else if Op=9 then some (fW [45])::ih a.1 a.2 8 else some (iz Op)::some (fW [40])::(a.2++[some (fW [41])])
  |a::b::_=>ih a.1 a.2 (if ev Op=4 then 5 else ev Op)++none::some (ro Op)::none::ih b.1 b.2 (ev Op+1)
mutual
def dk:Expr→pj
 |⟨Op,N,S,aw⟩=>sJ Op N S (rp aw)
def rp:List Expr→List (Int×pj)
 |[]=>[]
 |x::l=>(x.Op,dk x)::rp l
end
def pY(op:Int)(n:Nat):Prop:=(1≤op∧op≤27)∧(n:Int)=i8 op
mutual
def h4:Expr→Prop
 |⟨Op,N,S,aw⟩=>pY Op aw.length∧(Op=1→0≤N∧N≤9223372036854775807)∧(Op≠1→N=0)∧(Op≠2∧Op≠3→S=[])∧(Op=2→ki S=true)∧(Op=3→gF S=true)∧HJ aw
def HJ:List Expr→Prop
 |[]=>True
 |x::l=>h4 x∧HJ l
end
mutual
def ii:Expr→Nat
 |⟨_,_,_,aw⟩=>1+pk aw
def pk:List Expr→Nat
 |[]=>0
 |x::l=>max (ii x) (pk l)
end
def HK(e:Expr):h4 e↔pY e.Op e.aw.length∧(e.Op=1→0≤e.N∧e.N≤9223372036854775807)∧(e.Op≠1→e.N=0)∧(e.Op≠2∧e.Op≠3→e.S=[])∧(e.Op=2→ki e.S=true)∧(e.Op=3→gF e.S=true)∧HJ e.aw:=by cases e;rfl
def Cd(e:Expr):ii e=1+pk e.aw:=by cases e;rfl
def ZX{w:ap0}(h:w∈sF):Cc (lP w):=⟨rfl,Or.inr (Or.inl ⟨rfl,h,rfl⟩)⟩
def akw{c:Prop}[Decidable c]{a b:Token}(ha:Cc a)(hb:Cc b):Cc (if c then a else b):=by
 by_cases h:c
 ·rw [if_pos h];exact ha
 ·rw [if_neg h];exact hb
def akx{c:Prop}[Decidable c]{a b:Token}{k:Int}(ha:a.Kind=k)(hb:b.Kind=k):(if c then a else b).Kind=k:=by
 by_cases h:c
 ·rw [if_pos h];exact ha
 ·rw [if_neg h];exact hb
def aky(op:Int):Cc (iz op)∧(iz op).Kind=2:=by
 unfold iz;constructor
 ·repeat refine akw (ZX (by decide)) ?_
  exact ZX (by decide)
 ·repeat refine akx rfl ?_
  rfl
def akz{op:Int}(h:1≤op∧op≤27):i8 op=0∧(op≤3∨25≤op)∨i8 op=1∧(op=9∨op=18∨20≤op∧op≤24)∨i8 op=2∧(4≤op∧op≤8∨10≤op∧op≤17∨op=19):=by
 obtain rfl|rfl|rfl|rfl|rfl|rfl|rfl|rfl|rfl|rfl|rfl|rfl|rfl|rfl|rfl|rfl|rfl|rfl|rfl|rfl|rfl|rfl|rfl|rfl|rfl|rfl|rfl:op=1∨op=2∨op=3∨op=4∨op=5∨op=6∨op=7∨op=8∨op=9∨op=10∨op=11∨op=12∨op=13∨op=14∨op=15∨op=16∨op=17∨op=18∨op=19∨op=20∨op=21∨op=22∨op=23∨op=24∨op=25∨op=26∨op=27:=by omega
 all_goals first|exact Or.inl ⟨rfl,by omega⟩|exact Or.inr (Or.inl ⟨rfl,by omega⟩)|exact Or.inr (Or.inr ⟨rfl,by omega⟩)
open Go Go.Ab Go.Proofs
def cd(l:List Token)(i:Nat)(T R:List Token):Prop:=(l.map iP).drop i=T++R
def vb(R:List Token)(w:ap0):Bool:=
 match R with
 |[]=>false
 |t::_=>(decide (t.Kind=2)||decide (t.Kind=5))&&decide (t.Text=w)
def akA(l:List Token)(i:Nat)(w:ap0):i' l i w=vb ((l.map iP).drop i) w:=by
 unfold i';by_cases h:i<l.length
 ·rw [gE (l.map iP) i default (by simpa using h)]
  have:(l.map iP).getD i default=iP (l.getD i default):=by simp [List.getD,h]
  rw [this];generalize l.getD i default=t
  simp only [vb,h,iP,apJ,Bool.true_and]
  congr
 ·rw [iZ (l.map iP) i (by simpa using h)]
  simp [vb,h]
def cd.is{l T R:List Token}{i:Nat}(h:cd l i T R)(w:ap0):i' l i w=vb (T++R) w:=by rw [akA,h]
def cd.call{l T R:List Token}{i:Nat}(h:cd l i T R):HF l i=call2 (ql.find? λr=>vb (T++R) r.1):=by
 unfold HF
 congr 2
 funext r
 exact h.is r.1
def cd.lt{l T R:List Token}{t:Token}{i:Nat}(h:cd l i (t::T) R):i<l.length:=by
 by_cases hi:i<l.length
 ·exact hi
 ·unfold cd at h;rw [iZ (l.map iP) i (by simpa using hi)]at h
  cases h
def cd.hd{l T R:List Token}{t:Token}{i:Nat}(h:cd l i (t::T) R):iP (l.getD i default)=t:=by
 have hi:=h.lt;unfold cd at h;rw [gE (l.map iP) i default (by simpa using hi),List.cons_append]at h
 injection h with Z af;rw [←Z];simp [List.getD,hi]
def cd.sK{l T U R:List Token}{i:Nat}(h:cd l i (T++U) R):cd l (i+T.length) U R:=by
 unfold cd at *;rw [←List.drop_drop,h,List.append_assoc,List.drop_left]
def cd.le{l T R:List Token}{i:Nat}(h:cd l i T R)(aS:T≠[]):i+T.length≤l.length:=by
 have:=congrArg List.length h
 simp only [List.length_drop,List.length_map,apT]at this;have:0<T.length:=List.length_pos_iff.2 aS
 omega
def akB(R:List Token):Int:=(ZE (sG.find? λr=>vb R r.1)).1
def akC(op:Int)(R:List Token)(h:20≤op∧op≤27):call2 (ql.find? λr=>vb (iz op::R) r.1)=op:=by
 have:op=20∨op=21∨op=22∨op=23∨op=24∨op=25∨op=26∨op=27:=by omega
 rcases this with rfl|rfl|rfl|rfl|rfl|rfl|rfl|rfl<;>rfl
section
variable {l:List Token}
def gY(l:List Token)(i d kj:Nat)(e:Expr)(k B:Nat):Prop:=∀n,B≤n→kG n (kj:Int) (d:Int) ⟨l,(i:Int)⟩=some (.ret e (k:Int))
def Ce(l:List Token)(i d:Nat)(e:Expr)(k B:Nat):Prop:=∀n,B≤n→sj n (d:Int) ⟨l,(i:Int)⟩=some (.ret e (k:Int))
def Qz(l:List Token)(i d:Nat)(e:Expr)(k B:Nat):Prop:=∀n,B≤n→uz n (d:Int) ⟨l,(i:Int)⟩=some (.ret e (k:Int))
theorem gY.mono{i d kj:Nat}{e:Expr}{k B ZY:Nat}(h:gY l i d kj e k B)(cB:B≤ZY):gY l i d kj e k ZY:=λn hn=>h n (by omega)
theorem akD(e:Expr):(⟨e.Op,e.N,e.S,e.aw⟩:Expr)=e:=by cases e;rfl
theorem gY.down{i d kj:Nat}{e:Expr}{k B:Nat}(h:gY l i d (kj+1) e k B)(jW:1≤kj)(apf:kj≤7)(hs:(Qm l k).1≠(kj:Int))(au:kj=3→i' l i [110,111,116]=false):gY l i d kj e k (B+2):=by
 intro n hn;obtain⟨n,rfl⟩:∃j,n=j+1:=⟨n-1,by omega⟩
 have he:=h n (by omega)
 rw [ZG];unfold Ax;simp only [i7,Ql,aD];by_cases e3:kj=3
 ·subst e3;rw [au rfl];simp only [apJ,apL,apM];rw [show kG n 4 (d:Int) ⟨l,(i:Int)⟩=_ from he]
  rfl
 ·simp only [e3,show¬ kj=8 by omega,apK,apM]
  rw [gr (by omega),he]
  obtain⟨m,hm⟩:∃j,n=j+1:=⟨n-1,by omega⟩
  simp only [aD,aV.on]
  conv=>lhs;arg 9;rw [hm]
  simp only [Fq,MI,ajZ,aD,hs,apK,apO,apL,akD]
theorem Ce.down{i d:Nat}{e:Expr}{k B:Nat}(h:Ce l i d e k B)(dR:i' l i [45]=false):gY l i d 8 e k (B+1):=by
 intro n hn;obtain⟨n,rfl⟩:∃j,n=j+1:=⟨n-1,by omega⟩
 rw [ZG];unfold Ax;simp only [i7,Ql,aD,show¬ 8=3 by omega,apJ,apK,apL,apM,dR]
 rw [h n (by omega)]
 rfl
theorem Qz.of{i d:Nat}{e:Expr}{k B:Nat}(ag:l.length≤1000000000)(hi:i' l i [40]=true)(h:gY l (i+1) d 1 e k B)(hk:i' l k [41]=true):Qz l i d e (k+1) (B+1):=by
 intro n hn;obtain⟨n,rfl⟩:∃j,n=j+1:=⟨n-1,by omega⟩
 have Z:=ZA hi;have af:=ZA hk;rw [aj3];unfold Fs;rw [ZD n l i _ (by omega) (by omega),hi]
 simp only [aD,apL,aV.on];rw [show kG n 1 (d:Int) ⟨l,((i+1:Nat):Int)⟩=_ from h n (by omega)]
 simp only [aD,aV.on];rw [ZD n l k _ (by omega) (by omega),hk]
 rfl
theorem akE{n i d:Nat}(ag:l.length≤1000000000)(h:i<l.length):sj (n+1) (d:Int) ⟨l,(i:Int)⟩ =
 if(l.getD i default).Kind=3 then some (.ret ⟨1,(l.getD i default).N,[],[]⟩ ((i+1:Nat):Int))else if(l.getD i default).Kind=4 then some (.ret ⟨2,0,(l.getD i default).Text,[]⟩ ((i+1:Nat):Int))
 else if(l.getD i default).Kind=1 then some (.ret ⟨3,0,(l.getD i default).Text,[]⟩ ((i+1:Nat):Int))else AA n (kG n) (AB n) (sj n) (uz n) (d:Int) ⟨l,(i:Int)⟩ (i:Int):=by
 rw [aj2];unfold Fr
 (rw [gr (by omega)];simp only [apR];rw [aj4 (by omega)])
 simp only [apS,h,apJ,apL,cr h,bg];by_cases au:(l.getD i default).Kind=3
 ·simp only [au,apJ,apL,apY]
 ·by_cases aQ:(l.getD i default).Kind=4
  ·simp only [aQ,show¬ (4:Int)=3 by omega,apJ,apK,apL,apM,apY,apZ]
  ·by_cases bj:(l.getD i default).Kind=1
   ·simp only [bj,show¬ (1:Int)=3 by omega,show¬ (1:Int)=4 by omega,apJ,apK,apL,apM,apY,apZ]
   ·simp only [au,aQ,bj,apK,apM,apZ]
theorem Ce.word{i d:Nat}{e:Expr}{k B:Nat}{op:Int}(gX:20≤op∧op≤24)(ag:l.length≤1000000000)(hg:ZF l){T R:List Token}(d9:cd l i (iz op::T) R)(hd:d≤23)(h:Qz l (i+1) (d+1) e k B):Ce l i d ⟨op,0,[],[e]⟩ k (B+1):=by
 intro n hn;obtain⟨n,rfl⟩:∃j,n=j+1:=⟨n-1,by omega⟩
 have c':=d9.lt;have bz:=d9.hd;have hk:(l.getD i default).Kind=2:=by have:=congrArg Token.Kind bz;exact this.trans (aky op).2
 rw [akE ag c',hk,if_neg (by decide),if_neg (by decide),if_neg (by decide)]
 unfold AA Az MM;rw [aj0 n l i hg,d9.call,List.cons_append,akC op _ (by omega),aj1 n l i d (by omega) (by omega),if_neg (by omega)]
 simp only [aD,show¬ op=0 by omega,show¬ op=25 by omega,show¬ op=26 by omega,show¬ op=27 by omega,apK,apM,aV.on]
 rw [gr (by omega),h n (by omega)]
 rfl
end
open Go Go.Ab Go.Proofs
def akF{l:List Expr}{n:Int}(h:(l.length:Int)=n)(af:n=2):∃a b,l=[a,b]:=by
 match l,h with
 |[a,b],_=>exact⟨a,b,rfl⟩
 |[],h=>simp at h;omega
 |[a],h=>simp at h;omega
 |a::b::c::l,h=>simp at h;omega
def akG{l:List Expr}{n:Int}(h:(l.length:Int)=n)(af:n=1):∃a,l=[a]:=by
 match l,h with
 |[a],_=>exact⟨a,rfl⟩
 |[],h=>simp at h;omega
 |a::b::l,h=>simp at h;omega
def akH{l:List Expr}{n:Int}(h:(l.length:Int)=n)(af:n=0):l=[]:=by
 match l,h with
 |[],_=>rfl
 |a::l,h=>simp at h;omega
def QA(e:Expr)(h:h4 e):
 (e.Op=1∧e=⟨1,e.N,[],[]⟩)∨(e.Op=2∧e=⟨2,0,e.S,[]⟩)∨(e.Op=3∧e=⟨3,0,e.S,[]⟩)∨((25≤e.Op∧e.Op≤27)∧e=⟨e.Op,0,[],[]⟩)∨
 (∃a,e=⟨e.Op,0,[],[a]⟩∧h4 a∧ii e=1+ii a∧(e.Op=9∨e.Op=18∨20≤e.Op∧e.Op≤24))∨
 (∃a b,e=⟨e.Op,0,[],[a,b]⟩∧h4 a∧h4 b∧ii e=1+max (ii a) (ii b)∧(4≤e.Op∧e.Op≤8∨10≤e.Op∧e.Op≤17∨e.Op=19)):=by
 obtain⟨Op,N,S,aw⟩:=e;obtain⟨⟨Z,af⟩,au,aQ,bj,cb,de,dR⟩:=h;rcases akz Z with⟨ha,hb⟩|⟨ha,hb⟩|⟨ha,hb⟩
 ·obtain rfl:=akH af ha;by_cases e1:Op=1
  ·subst e1;obtain rfl:=bj (by omega);exact Or.inl ⟨rfl,rfl⟩
  ·obtain rfl:=aQ e1;by_cases e2:Op=2
   ·subst e2;exact Or.inr (Or.inl ⟨rfl,rfl⟩)
   ·by_cases e3:Op=3
    ·subst e3;exact Or.inr (Or.inr (Or.inl ⟨rfl,rfl⟩))
    ·obtain rfl:=bj ⟨e2,e3⟩;exact Or.inr (Or.inr (Or.inr (Or.inl ⟨⟨by simp only;omega,by simp only;omega⟩,rfl⟩)))
 ·obtain⟨a,rfl⟩:=akG af ha;obtain rfl:=aQ (by omega)
  obtain rfl:=bj (by omega)
  exact Or.inr (Or.inr (Or.inr (Or.inr (Or.inl ⟨a,rfl,dR.1,by simp [ii,pk],hb⟩))))
 ·obtain⟨a,b,rfl⟩:=akF af ha;obtain rfl:=aQ (by omega)
  obtain rfl:=bj (by omega)
  exact Or.inr (Or.inr (Or.inr (Or.inr (Or.inr ⟨a,b,rfl,dR.1,dR.2.1,by simp [ii,pk],hb⟩))))
def QB{op:Int}{a b:Expr}(h:4≤op∧op≤8∨10≤op∧op≤17∨op=19):dk ⟨op,0,[],[a,b]⟩=ih a.Op (dk a) (if ev op=4 then 5 else ev op)++none::some (ro op)::none::ih b.Op (dk b) (ev op+1):=by
 simp only [dk,rp,sJ];rw [if_neg (by omega),if_neg (by omega),if_neg (by omega)]
def ZZ{op:Int}(h:4≤op∧op≤8∨10≤op∧op≤17∨op=19):ev op=1∨ev op=2∨ev op=4∨ev op=5∨ev op=6∨ev op=7:=by
 have:op=4∨op=5∨op=6∨op=7∨op=8∨op=10∨op=11∨op=12∨op=13∨op=14∨op=15∨op=16∨op=17∨op=19:=by omega
 rcases this with rfl|rfl|rfl|rfl|rfl|rfl|rfl|rfl|rfl|rfl|rfl|rfl|rfl|rfl<;>decide
section
variable {l:List Token}
abbrev Cf(e:Expr)(kj:Nat):List Token:=lO (ih e.Op (dk e) kj)
end
open Go Go.Ab Go.Proofs
section
variable {l:List Token}
def fG(l:List Token)(e:Expr):Prop:=∀(i d:Nat) (R:List Token),cd l i (lO (dk e)) R→akB R<(ev e.Op:Int)→d+2*ii e≤26→
 if ev e.Op=9 then Ce l i d e (i+(lO (dk e)).length) (24*(lO (dk e)).length+20)else gY l i d (ev e.Op) e (i+(lO (dk e)).length) (24*(lO (dk e)).length+40-2*ev e.Op)
end
open Go Go.Ab Go.Proofs
def gA{k:Nat}(h:k≤1000000000000):bE k=true:=ajW (by omega)
def QC{k:Nat}(h:k≤1000000000000):room k 1=true:=by simp [room];omega
def QD(n:Nat)(op:Int):Ag n op=some ((ev op:Nat):Int):=by
 by_cases h:1≤op∧op≤27
 ·obtain rfl|rfl|rfl|rfl|rfl|rfl|rfl|rfl|rfl|rfl|rfl|rfl|rfl|rfl|rfl|rfl|rfl|rfl|rfl|rfl|rfl|rfl|rfl|rfl|rfl|rfl|rfl:op=1∨op=2∨op=3∨op=4∨op=5∨op=6∨op=7∨op=8∨op=9∨op=10∨op=11∨op=12∨op=13∨op=14∨op=15∨op=16∨op=17∨op=18∨op=19∨op=20∨op=21∨op=22∨op=23∨op=24∨op=25∨op=26∨op=27:=by omega
  all_goals rfl
 ·have e:ev op=9:=by
   unfold ev;rw [if_neg (by omega),if_neg (by omega),if_neg (by omega),if_neg (by omega),if_neg (by omega),if_neg (by omega),if_neg (by omega),if_neg (by omega)]
  rw [e];simp only [Ag,sd,EM,Af,LC,show¬ op=17 by omega,show¬ op=16 by omega,show¬ op=18 by omega,show¬ op=10 by omega,show¬ op=11 by omega,show¬ op=12 by omega,show¬ op=13 by omega,show¬ op=14 by omega,show¬ op=15 by omega,show¬ op=19 by omega,show¬ op=4 by omega,show¬ op=5 by omega,show¬ op=6 by omega,show¬ op=7 by omega,show¬ op=8 by omega,show¬ op=9 by omega,apK,apM]
  rfl
def Z0(n:Nat)(op:Int)(h:20≤op∧op≤27):EO n op=some (spell (iz op)):=by
 obtain rfl|rfl|rfl|rfl|rfl|rfl|rfl|rfl:op=20∨op=21∨op=22∨op=23∨op=24∨op=25∨op=26∨op=27:=by omega
 all_goals rfl
def Z1(n:Nat)(op:Int)(h:4≤op∧op≤8∨10≤op∧op≤17∨op=19):EN n op=some (spell (ro op)):=by
 have:op=4∨op=5∨op=6∨op=7∨op=8∨op=10∨op=11∨op=12∨op=13∨op=14∨op=15∨op=16∨op=17∨op=19:=by omega
 rcases this with rfl|rfl|rfl|rfl|rfl|rfl|rfl|rfl|rfl|rfl|rfl|rfl|rfl|rfl<;>rfl
def Z2(n:Nat)(i:Int)(h0:0≤i)(Z:i≤9223372036854775807):uf n i=some (Lib.decDigits i.toNat):=by
 unfold uf Ec;rw [decide_eq_true (show(10:Int)=10 ∧ -9223372036854775808≤i∧i≤9223372036854775807 from⟨rfl,by omega,Z⟩)]
 simp only [bg,aD];unfold Lib.itoa;rw [if_neg (by omega)]
def yf(i:Int)(h0:0≤i)(Z:i≤9223372036854775807):(Lib.decDigits i.toNat).length≤21:=by
 have:=Lib.itoa_length_le i (by omega) Z
 unfold Lib.itoa at this
 rwa [if_neg (by omega)]at this
def Cg(n:Nat)(c:UInt8)(b:ap0)(h:b.length≤100000000):p' n ((c.toNat:Nat):Int) (fR b)=some (fR (b++[c])):=by
 unfold p' wU;simp only [aD,Zz,apP,apQ,QC (show b.length+(0+1)≤1000000000000 by omega),bg,ajV]
def akI(n:Nat)(s:ap0)(hs:s.length≤4611686018427387904):∀m i,s.length<i+m→i≤s.length→Ad n s m (i:Int)=some ((s.drop i).all okB):=by
 intro m;induction m with
 |zero=>intro i h af;omega
 |succ m bc=>
  intro i hm hi;simp only [Ad,Lx,Lw];by_cases h:i<s.length
  ·rw [gE s i 0 h,gr (by omega),bc (i+1) (by omega) (by omega)]
   simp only [h,cr h,apR,apS,apJ,apL,bg,apX,List.all_cons,rj,fm,eb,HA];cases okB (s.getD i 0)<;>simp
  ·rw [iZ s i h];simp [h]
def akJ{n:Nat}(s:ap0)(h:s.length<n)(hs:s.length≤4611686018427387904):Ly n s=some (s.all okB):=by
 have:=akI n s hs n 0 (by omega) (by omega)
 rw [List.drop_zero]at this;exact this
def vc:∀s:ap0,(gM s).length≤2*s.length
 |[]=>Nat.le_refl _
 |c::s=>by
  have:=vc s
  simp only [gM];split<;>simp only [apP]<;>omega
def Z3(s:ap0)(c:UInt8):gM (s++[c])=gM s++gM [c]:=by
 induction s with
 |nil=>rfl
 |cons d s bc=>simp only [List.cons_append,gM,bc];split<;>rfl
def akK(n:Nat)(s:ap0)(hs:s.length≤64):∀m i,s.length<i+m→i≤s.length→Ae n s m (fR (34::gM (s.take i))) (i:Int)=some (quo s,0):=by
 intro m;induction m with
 |zero=>intro i h af;omega
 |succ m bc=>
  intro i hm hi;simp only [Ae,LB,Lz,LA,EK];have hlen:=vc (s.take i);have qX:(s.take i).length≤i:=by simp;omega
  by_cases h:i<s.length
  ·(rw [gr (by omega)];simp only [apR])
   have hn:=bc (i+1) (by omega) (by omega)
   have bU:s.take (i+1)=s.take i++[s.getD i 0]:=by
    rw [List.take_add,gE s i 0 h,List.take_succ_cons,List.take_zero]
   rw [bU,Z3]at hn;generalize s.getD i 0=c at hn
   simp only [h,cr h,apS,apJ,apL,bg,apX,i7,eb];by_cases hc:c.toNat=34∨c.toNat=92
   ·have hb:(decide (c.toNat=34)||decide (c.toNat=92))=true:=by rcases hc with hc|hc<;>rw [decide_eq_true hc]<;>simp
    have e1:=Cg n 92 (34::gM (s.take i)) (by simp only [apP];omega)
    have e2:=Cg n c (34::gM (s.take i)++[92]) (by simp only [apT,apP,apQ];omega)
    rw [hb];simp only [apL];rw [show p' n 92 _=_ from e1]
    simp only [aD];rw [e2];simp only [aD];rw [show(34::gM (s.take i)++[92]++[c])=34::(gM (s.take i)++gM [c])by simp only [gM];rw [if_pos hc];simp]
    exact hn
   ·have hb:(decide (c.toNat=34)||decide (c.toNat=92))=false:=by rw [decide_eq_false (λe=>hc (Or.inl e)),decide_eq_false (λe=>hc (Or.inr e))];rfl
    have e2:=Cg n c (34::gM (s.take i)) (by simp only [apP];omega)
    rw [hb];simp only [apM];rw [e2];simp only [aD];rw [show(34::gM (s.take i)++[c])=34::(gM (s.take i)++gM [c])by simp only [gM];rw [if_neg hc];simp]
    exact hn
  ·have QE:i=s.length:=by omega
   subst QE;simp only [apS,Nat.lt_irrefl,apK,apM,List.take_length];have e1:=Cg n 34 (34::gM s) (by have:=vc s;simp only [apP];omega)
   rw [show p' n 34 _=_ from e1]
   have ag:=vc s;have eG:(fR (34::gM s++[34])).length≤9223372036854775807:=by rw [Zz];simp only [apT,apP,apQ];omega
   simp only [aD,p9,Zy,Zx,eG,apJ,Bool.and_self,bg];rfl
def akL{n:Nat}(s:ap0)(h:ki s=true)(hn:100<n):EL n s=some (quo s,0):=by
 unfold ki at h;simp only [Bool.and_eq_true,decide_eq_true_eq]at h;unfold EL;simp only [fm,show¬ 64<s.length by omega,apK,apM,akJ s (show s.length<n by omega) (by omega),aD,h.1,apN]
 have e1:=Cg n 34 [] (by simp)
 rw [show p' n 34 []=_ from e1]
 exact akK n s (by omega) n 0 (by omega) (by omega)
def akM(s:ap0):(quo s).length≤2*s.length+2:=by
 have:=vc s
 simp only [quo,apP,apT,apQ];omega
def Z4{c:Prop}[Decidable c]{a b:Token}{k:Nat}(ha:(spell a).length≤k)(hb:(spell b).length≤k):(spell (if c then a else b)).length≤k:=by
 by_cases h:c
 ·rw [if_pos h];exact ha
 ·rw [if_neg h];exact hb
def QF(op:Int):(spell (ro op)).length≤3:=by
 unfold ro
 repeat refine Z4 (by decide) ?_
 decide
def yg(op:Int):(spell (iz op)).length≤6:=by
 unfold iz
 repeat refine Z4 (by decide) ?_
 decide
def ol(op:Int)(p:pj)(k:Nat):(flat (ih op p k)).length≤(flat p).length+2:=by
 unfold ih;split
 ·simp only [flat,nA,spell,fW,apT,apP];simp;omega
 ·omega
def pm{w:ap0}(h:gF w=true):w.length≤16:=by
 obtain⟨c,l,_,_,_,_,bj⟩:=Qx h;exact bj
def pN:∀(h:Nat) (e:Expr),ii e≤h→h4 e→(flat (dk e)).length≤4*dr e:=by
 intro h;induction h with
 |zero=>intro e he;rw [Cd]at he;omega
 |succ h bc=>
  intro e he e0;have mX:=(HK e).1 e0;have u':=rl e;rcases QA e e0 with⟨Z,aE⟩|⟨Z,aE⟩|⟨Z,aE⟩|⟨ak,aE⟩|⟨a,aE,ha,bz,gX⟩|⟨a,b,aE,ha,hb,bz,gX⟩
  ·have:=yf e.N (mX.2.1 Z).1 (mX.2.1 Z).2
   have e2:flat (dk e)=Lib.decDigits e.N.toNat++[]:=by rw [aE];rfl
   rw [e2,List.append_nil];omega
  ·have:=akM e.S
   have e2:flat (dk e)=quo e.S++[]:=by rw [aE];rfl
   rw [e2,List.append_nil];omega
  ·have:=pm (mX.2.2.2.2.2.1 Z)
   have e2:flat (dk e)=e.S++[]:=by rw [aE];rfl
   rw [e2,List.append_nil];omega
  ·have:=yg e.Op
   generalize e.Op=op at ak aE this
   have e2:flat (dk e)=spell (iz op)++([40]++([41]++[])):=by
    rw [aE];simp only [dk,rp,sJ];rw [if_neg (by omega),if_neg (by omega),if_neg (by omega)];rfl
   rw [e2];simp only [apT,apP,apQ];omega
  ·have Ch:=bc a (by omega) ha
   have Ci:dr e=30+(dr a+1):=by rw [aE];simp [dr,lM]
   have:=yg e.Op
   have au:=ol a.Op (dk a) 3;have dR:=ol a.Op (dk a) 8;generalize e.Op=op at gX aE this
   have e2:dk e=if op=18 then some (lP [110,111,116])::none::ih a.Op (dk a) 3 else if op=9 then some (fW [45])::ih a.Op (dk a) 8 else some (iz op)::some (fW [40])::(dk a++[some (fW [41])]):=by
    rw [aE];simp only [dk,rp,sJ];rw [if_neg (by omega),if_neg (by omega),if_neg (by omega)]
   rw [e2];split
   ·simp only [flat,spell,lP,apT,apP];simp;omega
   ·split
    ·simp only [flat,spell,fW,apT,apP];simp;omega
    ·simp only [flat,nA,apT];have e3:(spell (fW [40])).length=1:=rfl;have h3:(spell (fW [41])).length=1:=rfl;simp only [apQ];omega
  ·have Ch:=bc a (by omega) ha
   have Z5:=bc b (by omega) hb
   have Ci:dr e=30+(dr a+1+(dr b+1)):=by rw [aE];simp [dr,lM]
   have:=QF e.Op
   have au:=ol a.Op (dk a) (if ev e.Op=4 then 5 else ev e.Op)
   have dR:=ol b.Op (dk b) (ev e.Op+1);generalize e.Op=op at gX aE this au dR
   have e2:dk e=ih a.Op (dk a) (if ev op=4 then 5 else ev op)++none::some (ro op)::none::ih b.Op (dk b) (ev op+1):=by rw [aE,QB gX]
   rw [e2];simp only [nA,flat,apT,apP];omega
open Go Go.Ab Go.Proofs
def akN(n:Nat):lm (n+1)=EP n (lm n) (ug n):=rfl
def akO(n:Nat):ug (n+1)=EQ n (lm n) (ug n):=rfl
def Cj{n:Nat}{e:Expr}{k:Nat}(h:lm n e=some (flat (dk e)))(ag:(flat (dk e)).length≤100000000):ug (n+1) e (k:Int)=some (flat (ih e.Op (dk e) k)):=by
 rw [akO];unfold EQ ih;rw [QD,h];simp only [aD,apS];by_cases hk:ev e.Op<k
 ·simp only [hk,apJ,apL,apY];rw [gA (by simp;omega),gA (by simp;omega)]
  simp only [bg,flat,nA,spell,fW];simp
 ·simp only [hk,apK,apM,apZ]
def akP:∀(h:Nat) (e:Expr) (n:Nat),ii e≤h→h4 e→2*h+200≤n→dr e≤1000000→lm n e=some (flat (dk e)):=by
 intro h;induction h with
 |zero=>intro e n he;rw [Cd]at he;omega
 |succ h bc=>
  intro e n he e0 hn akQ;obtain⟨n,rfl⟩:∃j,n=j+1:=⟨n-1,by omega⟩
  obtain⟨n,rfl⟩:∃j,n=j+1:=⟨n-1,by omega⟩
  have mX:=(HK e).1 e0;have u':=rl e;rw [akN];unfold EP;rw [QD];simp only [aD];rcases QA e e0 with⟨Z,aE⟩|⟨Z,aE⟩|⟨Z,aE⟩|⟨ak,aE⟩|⟨a,aE,ha,bz,gX⟩|⟨a,b,aE,ha,hb,bz,gX⟩
  ·have e2:flat (dk e)=Lib.decDigits e.N.toNat++[]:=by rw [aE];rfl
   rw [Z2 _ e.N (mX.2.1 Z).1 (mX.2.1 Z).2,e2,List.append_nil];simp only [Z,apJ,apL,aD]
  ·have e2:flat (dk e)=quo e.S++[]:=by rw [aE];rfl
   rw [akL e.S (mX.2.2.2.2.1 Z) (by omega),e2,List.append_nil]
   simp only [Z,show¬ (2:Int)=1 by omega,apJ,apK,apL,apM,aD]
  ·have e2:flat (dk e)=e.S++[]:=by rw [aE];rfl
   rw [e2,List.append_nil];simp only [Z,show¬ (3:Int)=1 by omega,show¬ (3:Int)=2 by omega,apJ,apK,apL,apM]
  ·have hw:=yg e.Op;have QG:=Z0 (n+1) e.Op (by omega)
   have jW:ev e.Op=9:=by
    have:e.Op=25∨e.Op=26∨e.Op=27:=by omega
    rcases this with h|h|h<;>rw [h]<;>decide
   have eZ:e.aw=[]:=by rw [aE]
   have e2:flat (dk e)=spell (iz e.Op)++([40]++([41]++[])):=by
    generalize e.Op=op at ak aE
    rw [aE];simp only [dk,rp,sJ];rw [if_neg (by omega),if_neg (by omega),if_neg (by omega)];rfl
   rw [QG,e2];simp only [aD];rw [gA (show(spell (iz e.Op)).length+([40,41]:ap0).length≤1000000000000 by simp;omega)]
   simp only [jW,eZ,show¬ e.Op=1 by omega,show¬ e.Op=2 by omega,show¬ e.Op=3 by omega,show¬ e.Op=18 by omega,show¬ e.Op=9 by omega,apK,apM,apQ,i7,apJ,apL,bg]
   simp
  ·have Ci:dr e=30+(dr a+1):=by rw [aE];simp [dr,lM]
   have pn:=bc a n (by omega) ha (by omega) (by omega)
   have QH:=bc a (n+1) (by omega) ha (by omega) (by omega)
   have Ch:=pN (ii a) a (Nat.le_refl _) ha;have eZ:e.aw=[a]:=by rw [aE]
   have au:=ol a.Op (dk a) 3;have dR:=ol a.Op (dk a) 8
   have e2:dk e=if e.Op=18 then some (lP [110,111,116])::none::ih a.Op (dk a) 3 else if e.Op=9 then some (fW [45])::ih a.Op (dk a) 8 else some (iz e.Op)::some (fW [40])::(dk a++[some (fW [41])]):=by
    generalize e.Op=op at gX aE
    rw [aE];simp only [dk,rp,sJ];rw [if_neg (by omega),if_neg (by omega),if_neg (by omega)]
   rw [e2,eZ];simp only [apP,apQ,sD (show 0<0+1 by omega),bg,List.getD_cons_zero,show¬ e.Op=1 by omega,show¬ e.Op=2 by omega,show¬ e.Op=3 by omega,apK,apM]
   by_cases vd:e.Op=18
   ·have:=Cj (k:=3) pn (by omega)
    rw [vd];simp only [apJ,apL,apY,show ev 18=3 from rfl]
    rw [this];simp only [aD];rw [gA (by simp;omega)]
    rfl
   ·by_cases gS:e.Op=9
    ·have:=Cj (k:=8) pn (by omega)
     rw [gS];simp only [show¬ (9:Int)=18 by omega,apJ,apK,apL,apM,apY,apZ,show ev 9=8 from rfl]
     rw [this];simp only [aD];rw [gA (by simp;omega)]
     rfl
    ·have akR:20≤e.Op∧e.Op≤24:=by omega
     have jW:ev e.Op=9:=by
      have:e.Op=20∨e.Op=21∨e.Op=22∨e.Op=23∨e.Op=24:=by omega
      rcases this with h|h|h|h|h<;>rw [h]<;>decide
     have hw:=yg e.Op;rw [Z0 (n+1) e.Op (by omega),QH,if_neg vd,if_neg gS]
     have e3:flat (some (iz e.Op)::some (fW [40])::(dk a++[some (fW [41])]))=spell (iz e.Op)++([40]++(flat (dk a)++([41]++[]))):=by
      simp only [flat,nA];rfl
     rw [e3];generalize spell (iz e.Op)=W at hw
     simp only [vd,gS,jW,apK,apJ,apM,apL,aD];rw [gA (show W.length+(0+1)≤1000000000000 by omega),gA (show(W++([40]:ap0)).length+(flat (dk a)).length≤1000000000000 by simp;omega),gA (show((W++([40]:ap0))++flat (dk a)).length+(0+1)≤1000000000000 by simp;omega)]
     simp only [show((0+1:Nat):Int)=1 from rfl,show¬ (1:Int)=0 by omega,show((9:Nat):Int)=9 from rfl,apJ,apK,apL,apM,bg]
     simp
  ·have Ci:dr e=30+(dr a+1+(dr b+1)):=by rw [aE];simp [dr,lM]
   have pn:=bc a n (by omega) ha (by omega) (by omega)
   have QI:=bc b n (by omega) hb (by omega) (by omega)
   have Ch:=pN (ii a) a (Nat.le_refl _) ha;have Z5:=pN (ii b) b (Nat.le_refl _) hb;have eZ:e.aw=[a,b]:=by rw [aE]
   have jW:=ZZ gX;have akS:=QF e.Op
   have e2:dk e=ih a.Op (dk a) (if ev e.Op=4 then 5 else ev e.Op)++none::some (ro e.Op)::none::ih b.Op (dk b) (ev e.Op+1):=by
    generalize e.Op=op at gX aE
    rw [aE,QB gX]
   have au:=ol a.Op (dk a) (if ev e.Op=4 then 5 else ev e.Op)
   have dR:=ol b.Op (dk b) (ev e.Op+1);have ve:=Cj (k:=ev e.Op+1) QI (by omega)
   rw [e2,eZ,Z1 (n+1) e.Op gX];simp only [apP,apQ,sD (show 0<0+1+1 by omega),bg,List.getD_cons_zero,List.getD_cons_succ,show¬ e.Op=1 by omega,show¬ e.Op=2 by omega,show¬ e.Op=3 by omega,show¬ e.Op=18 by omega,show¬ e.Op=9 by omega,apK,apM,i7,show¬ ev e.Op=9 by omega,show aP 1 (0+1+1)=true from rfl]
   by_cases aQ:ev e.Op=4
   ·have qO:=Cj (k:=5) pn (by omega)
    rw [aQ]at ve ⊢;rw [if_pos rfl];rw [if_pos aQ]at au;simp only [apJ,apL];rw [show ug (n+1) a 5=_ from qO,show ug (n+1) b 5=_ from ve]
    simp only [aD];rw [aQ]at dR;rw [gA (by simp;omega),gA (by simp;omega),gA (by simp;omega),gA (by simp only [apT,apP,apQ];omega)]
    simp only [bg,nA,flat];simp
   ·have qO:=Cj (k:=ev e.Op) pn (by omega)
    rw [if_neg aQ]at au ⊢;simp only [aQ,apK,apM];rw [qO,gr (by omega),ve]
    simp only [aD];rw [gA (by simp;omega),gA (by simp;omega),gA (by simp;omega),gA (by simp only [apT,apP,apQ];omega)]
    simp only [bg,nA,flat];simp
open Go Go.Ab Go.Proofs
mutual
def lQ:Expr→Prop
 |⟨Op,N,S,aw⟩=>N≤9223372036854775807∧S.length≤9223372036854775807∧aw.length≤9223372036854775807∧yh aw
def yh:List Expr→Prop
 |[]=>True
 |x::l=>lQ x∧yh l
end
def HL(e:Expr):lQ e↔e.N≤9223372036854775807∧e.S.length≤9223372036854775807∧e.aw.length≤9223372036854775807∧yh e.aw:=by cases e;rfl
def Z6:∀(l:List Expr) (i:Nat),i<l.length→yh l→lQ (l.getD i default)
 |[],i,h,_=>by simp at h
 |x::l,0,h,ag=>ag.1
 |x::l,i+1,h,ag=>by simp only [List.getD_cons_succ];exact Z6 l i (by simpa using h) ag.2
mutual
def qn:Expr→Nat
 |⟨_,_,S,aw⟩=>1+S.length / 64+vf aw
def vf:List Expr→Nat
 |[]=>0
 |x::l=>qn x+vf l
end
def akT(e:Expr):qn e=1+e.S.length / 64+vf e.aw:=by cases e;rfl
mutual
def QJ:∀e:Expr,dr e+1≤95*qn e
 |⟨Op,N,S,aw⟩=>by
  have:=Z7 aw
  simp only [dr,qn];omega
def Z7:∀l:List Expr,lM l≤95*vf l
 |[]=>Nat.le_refl _
 |x::l=>by
  have Z:=QJ x;have af:=Z7 l;simp only [lM,vf];omega
end
def QK(k:Nat):Int.tdiv ((k:Nat):Int) 64=((k / 64:Nat):Int):=by
 rw [Int.tdiv_eq_ediv_of_nonneg (by omega)];rfl
def akU:∀(n:Nat) (e:Expr) (m:Nat),m≤1000→m+3≤n→lQ e→
 ∃r:Nat,qe n e (m:Int)=some (r:Int)∧1≤r∧r≤m+144115188075855873∧(r≤m→r=qn e):=by
 intro n;induction n with
 |zero=>intro e m h af;omega
 |succ n bc=>
  intro e m hm hn he;obtain⟨Z,af,au,aQ⟩:=(HL e).1 he;simp only [qe,FJ];rw [QK];rw [show ap2 ((e.S.length / 64:Nat):Int)=((e.S.length / 64:Nat):Int)by rw [wr]<;>omega]
  rw [show ap2 (1+((e.S.length / 64:Nat):Int))=((1+e.S.length / 64:Nat):Int)by rw [wr]<;>omega]
  have iy:∀k i v,m+2≤v+k→i≤e.aw.length→i≤v→1≤v→v≤m+144115188075855873→1≤k→
   ∃r:Nat,xh n (qe n) (m:Int) e k (v:Int) (i:Int)=some (r:Int)∧v≤r∧r≤m+144115188075855873∧(r≤m→r=v+vf (e.aw.drop i)):=by
   intro k;induction k with
   |zero=>intro i v Z af h0 au aQ bj;omega
   |succ k yi=>
    intro i v g1 g2 g0 g3 g4 g5;simp only [xh,FI,FH,e4,apS,Int.ofNat_le];by_cases hi:i<e.aw.length
    ·by_cases ay:v≤m
     ·obtain⟨ah,e1,e2,e3,h3⟩:=bc (e.aw.getD i default) (m-v) (by omega) (by omega) (Z6 _ _ hi aQ)
      (rw [show ap2 ((m:Int)-(v:Int))=((m-v:Nat):Int)by rw [wr]<;>omega,gr (by omega)];simp only [apR];rw [e1])
      simp only [hi,ay,apJ,Bool.and_self,apL,cr hi,bg,aD];rw [show ap2 ((v:Int)+(ah:Int))=((v+ah:Nat):Int)by rw [wr]<;>omega]
      obtain⟨r,f1,f2,f3,f4⟩:=yi (i+1) (v+ah) (by omega) (by omega) (by omega) (by omega) (by omega) (by omega)
      refine⟨r,f1,by omega,f3,λak=>?_⟩
      have:=f4 ak
      have hr:=h3 (by omega)
      rw [gE e.aw i default hi];simp only [vf];omega
     ·simp only [hi,ay,apJ,apK,Bool.and_false,apM];exact⟨v,rfl,Nat.le_refl _,g4,λh=>absurd h ay⟩
    ·rw [iZ e.aw i hi];simp only [hi,apK,Bool.false_and,apM];exact⟨v,rfl,Nat.le_refl _,g4,λh=>rfl⟩
  obtain⟨r,f1,f2,f3,f4⟩:=iy n 0 (1+e.S.length / 64) (by omega) (by omega) (by omega) (by omega) (by omega) (by omega)
  exact⟨r,f1,by omega,f3,λak=>by rw [f4 ak,akT,List.drop_zero]⟩
def akV:∀(h:Nat) (e:Expr) (d:Nat),ii e≤h→lQ e→gz e (d:Int)=0→d≤1000→h4 e∧d+ii e≤13:=by
 intro h;induction h with
 |zero=>intro e d he;rw [Cd]at he;omega
 |succ h bc=>
  intro e d he hi ay hd;obtain⟨i1,i2,i3,i4⟩:=(HL e).1 hi;rw [ZH]at ay
  have nd:oi e (d:Int)=0:=by
   by_cases h0:oi e (d:Int)=0
   ·exact h0
   ·rw [if_neg h0]at ay;exact absurd ay h0
  rw [if_pos nd]at ay;unfold oi at nd;split at nd
  ·omega
  rename_i g1;split at nd
  ·omega
  rename_i g2;split at nd
  ·omega
  rename_i g3;split at nd
  ·omega
  rename_i g4;simp only [not_or,not_and,Bool.not_eq_false]at g1 g2 g3;obtain⟨a7,a2,a3⟩:=g1;obtain⟨b4,hR,Cb⟩:=g3
  have gX:1≤e.Op∧e.Op≤27:=by
   unfold i8 at a7;by_cases Z:e.Op<1
   ·simp [Z]at a7
   ·by_cases af:27<e.Op
    ·simp [af]at a7
    ·omega
  rw [show ap2 ((d:Int)+1)=((d+1:Nat):Int)by rw [wr]<;>omega]at ay
  have ag:∀l:List Expr,pk l≤h→yh l→rm l ((d+1:Nat):Int)=0→HJ l∧(d+1+pk l≤13∨l=[]):=by
   intro l;induction l with
   |nil=>intro _ _ _;exact⟨trivial,Or.inr rfl⟩
   |cons x l akW=>
    intro bz hin tC;simp only [pk]at bz;simp only [rm]at tC
    have hx:gz x ((d+1:Nat):Int)=0:=by
     by_cases h0:gz x ((d+1:Nat):Int)=0
     ·exact h0
     ·rw [if_neg h0]at tC;exact absurd tC h0
    rw [if_pos hx]at tC;obtain⟨fv,eJ⟩:=bc x (d+1) (by omega) hin.1 hx (by omega)
    obtain⟨aH,bn⟩:=akW (by omega) hin.2 tC
    refine⟨⟨fv,aH⟩,Or.inl ?_⟩
    simp only [pk];rcases bn with bn|rfl
    ·omega
    ·simp only [pk];omega
  have Z8:=Cd e;obtain⟨cS,al⟩:=ag e.aw (by omega) i4 ay
  refine⟨(HK e).2 ⟨⟨gX,?_⟩,λZ=>⟨by omega,i1⟩,λZ=>?_,λZ=>?_,λZ=>?_,λZ=>?_,cS⟩,?_⟩
  ·by_cases hc:(e.aw.length:Int)=i8 e.Op
   ·exact hc
   ·exact absurd hc Cb
  ·by_cases hc:e.N=0
   ·exact hc
   ·exact absurd hc (a2 Z)
  ·by_cases hc:e.S=[]
   ·exact hc
   ·exact absurd hc (a3 Z.1 Z.2)
  ·exact hR Z
  ·exact g2 Z
  ·rcases al with al|al
   ·omega
   ·rw [al]at Z8;simp only [pk]at Z8;omega
open Go Go.Ab Go.Proofs
mutual
def qo:Stmt→Prop
 |⟨_,Name,Max,A,B,Body,bX⟩=>(-9223372036854775808≤Max∧Max≤9223372036854775807)∧Name.length≤9223372036854775807∧lQ A∧lQ B∧qp Body∧qp bX
def qp:List Stmt→Prop
 |[]=>True
 |x::l=>qo x∧qp l
end
def QL(s:Stmt):qo s↔(-9223372036854775808≤s.Max∧s.Max≤9223372036854775807)∧s.Name.length≤9223372036854775807∧lQ s.A∧lQ s.B∧qp s.Body∧qp s.bX:=by cases s;rfl
def Z9:∀(l:List Stmt) (i:Nat),i<l.length→qp l→qo (l.getD i default)
 |[],i,h,_=>by simp at h
 |x::l,0,h,ag=>ag.1
 |x::l,i+1,h,ag=>by simp only [List.getD_cons_succ];exact Z9 l i (by simpa using h) ag.2
mutual
def HM:Stmt→Nat
 |⟨_,Name,_,A,B,Body,bX⟩=>1+Name.length / 64+qn A+qn B+po Body+po bX
def po:List Stmt→Nat
 |[]=>0
 |x::l=>HM x+po l
end
def akX(s:Stmt):HM s=1+s.Name.length / 64+qn s.A+qn s.B+po s.Body+po s.bX:=by cases s;rfl
mutual
def akY:∀s:Stmt,fst s+1≤150*HM s
 |⟨Op,Name,Max,A,B,Body,bX⟩=>by
  have Z:=QJ A;have af:=QJ B;have au:=HN Body;have aQ:=HN bX;simp only [fst,HM];omega
def HN:∀l:List Stmt,ep l≤150*po l
 |[]=>Nat.zero_le _
 |x::l=>by
  have Z:=akY x;have af:=HN l;simp only [ep,po];omega
end
def akZ(n:Nat)(e:Expr)(m:Int)(hm:m<0)(hn:2≤n)(he:lQ e):qe n e m=some ((1+e.S.length / 64:Nat):Int):=by
 obtain⟨n,rfl⟩:∃k,n=k+2:=⟨n-2,by omega⟩
 obtain⟨Z,af,au,aQ⟩:=(HL e).1 he;simp only [qe,FJ];rw [QK];rw [show ap2 ((e.S.length / 64:Nat):Int)=((e.S.length / 64:Nat):Int)by rw [wr]<;>omega]
 rw [show ap2 (1+((e.S.length / 64:Nat):Int))=((1+e.S.length / 64:Nat):Int)by rw [wr]<;>omega]
 simp only [xh,FI,FH,e4];rw [show decide (((1+e.S.length / 64:Nat):Int)≤m)=false from decide_eq_false (by omega)]
 simp
def Z'(n:Nat)(e:Expr)(m:Int)(hm:m≤1000)(hn:m+3≤n)(Qp:3≤n)(he:lQ e):
 ∃r:Nat,qe n e m=some (r:Int)∧1≤r∧(r:Int)≤(if m<0 then 0 else m)+144115188075855873∧((r:Int)≤m→r=qn e):=by
 by_cases h:m<0
 ·have af:=((HL e).1 he).2.1;exact⟨_,akZ n e m h (by omega) he,by omega,by rw [if_pos h];omega,λak=>by omega⟩
 ·obtain⟨k,rfl⟩:=Int.eq_ofNat_of_zero_le (show 0≤m by omega)
  obtain⟨r,Z,af,au,aQ⟩:=akU n e k (by omega) (by omega) he
  exact⟨r,Z,af,by rw [if_neg h];omega,λak=>aQ (by omega)⟩
def ak0:∀(n:Nat) (l:List Stmt) (m:Int),-4611686018427387904≤m→m≤1000→m+6≤n→5≤n→qp l→
 ∃r:Nat,xi n l m=some (r:Int)∧(r:Int)≤(if m<0 then 0 else m+576460752303423500)∧((r:Int)≤m→r=po l):=by
 intro n;induction n with
 |zero=>intro l m _ _ _ h;omega
 |succ n bc=>
  intro l m apg hm hn Qp ag;simp only [xi,Nx]
  have iy:∀(k i v:Nat),m+2≤v+k→1≤k→i≤v→(v:Int)≤(if m<0 then 0 else m+576460752303423500)→
   ∃r:Nat,AO n (xi n) l m k (v:Int) (i:Int)=some (r:Int)∧v≤r∧(r:Int)≤(if m<0 then 0 else m+576460752303423500)∧((r:Int)≤m→r=v+po (l.drop i)):=by
   intro k;induction k with
   |zero=>intro i v _ h;omega
   |succ k yi=>
    intro i v g1 g2 g3 g4;simp only [AO,Nw,Nv,e4,apS];by_cases hi:i<l.length
    ·by_cases ay:(v:Int)≤m
     ·have Z_:¬ m<0:=by omega
      rw [if_neg Z_];simp only [if_neg Z_]at yi g4;obtain⟨a7,a2,a3,a4,a5,mj⟩:=(QL _).1 (Z9 l i hi ag)
      (simp only [apR])
      generalize hs:l.getD i default=s at a7 a2 a3 a4 a5 mj
      simp only [hi,ay,apJ,Bool.and_self,apL,cr hi,bg];rw [QK];rw [show ap2 ((s.Name.length / 64:Nat):Int)=((s.Name.length / 64:Nat):Int)by rw [wr]<;>omega]
      rw [show ap2 ((v:Int)+1)=((v+1:Nat):Int)by rw [wr]<;>omega]
      rw [show ap2 (((v+1:Nat):Int)+((s.Name.length / 64:Nat):Int))=((v+1+s.Name.length / 64:Nat):Int)by rw [wr]<;>omega]
      rw [show ap2 (m-((v+1+s.Name.length / 64:Nat):Int))=m-((v+1+s.Name.length / 64:Nat):Int)by rw [wr]<;>omega]
      obtain⟨ah,e1,b4,c1,d1⟩:=Z' n s.A (m-((v+1+s.Name.length / 64:Nat):Int)) (by omega) (by omega) (by omega) a3
      rw [e1];simp only [aD];have R4:(v+1+s.Name.length / 64+ah:Nat)≤m+288230376151711750:=by split at c1<;>omega
      rw [show ap2 (((v+1+s.Name.length / 64:Nat):Int)+(ah:Int))=((v+1+s.Name.length / 64+ah:Nat):Int)by rw [wr]<;>omega]
      rw [show ap2 (m-((v+1+s.Name.length / 64+ah:Nat):Int))=m-((v+1+s.Name.length / 64+ah:Nat):Int)by rw [wr]<;>omega]
      obtain⟨ao,e2,hR,c2,d2⟩:=Z' n s.B (m-((v+1+s.Name.length / 64+ah:Nat):Int)) (by omega) (by omega) (by omega) a4
      rw [e2];simp only [aD];have R5:(v+1+s.Name.length / 64+ah+ao:Nat)≤m+432345564227567625:=by split at c2<;>omega
      rw [show ap2 (((v+1+s.Name.length / 64+ah:Nat):Int)+(ao:Int))=((v+1+s.Name.length / 64+ah+ao:Nat):Int)by rw [wr]<;>omega]
      rw [show ap2 (m-((v+1+s.Name.length / 64+ah+ao:Nat):Int))=m-((v+1+s.Name.length / 64+ah+ao:Nat):Int)by rw [wr]<;>omega]
      obtain⟨aB,e3,c3,d3⟩:=bc s.Body (m-((v+1+s.Name.length / 64+ah+ao:Nat):Int)) (by omega) (by omega) (by omega) (by omega) a5
      rw [e3];simp only [aD];have aph:(v+1+s.Name.length / 64+ah+ao+aB:Nat)≤m+576460752303423500:=by split at c3<;>omega
      rw [show ap2 (((v+1+s.Name.length / 64+ah+ao:Nat):Int)+(aB:Int))=((v+1+s.Name.length / 64+ah+ao+aB:Nat):Int)by rw [wr]<;>omega]
      rw [show ap2 (m-((v+1+s.Name.length / 64+ah+ao+aB:Nat):Int))=m-((v+1+s.Name.length / 64+ah+ao+aB:Nat):Int)by rw [wr]<;>omega]
      obtain⟨aR,h3,c4,d4⟩:=bc s.bX (m-((v+1+s.Name.length / 64+ah+ao+aB:Nat):Int)) (by omega) (by omega) (by omega) (by omega) mj
      rw [h3];simp only [aD];have api:(v+1+s.Name.length / 64+ah+ao+aB+aR:Nat)≤m+576460752303423500:=by split at c4<;>omega
      rw [show ap2 (((v+1+s.Name.length / 64+ah+ao+aB:Nat):Int)+(aR:Int))=((v+1+s.Name.length / 64+ah+ao+aB+aR:Nat):Int)by rw [wr]<;>omega]
      rw [gr (by omega)]
      obtain⟨r,f1,f2,f3,f4⟩:=yi (i+1) (v+1+s.Name.length / 64+ah+ao+aB+aR) (by omega) (by omega) (by omega) (by omega)
      refine⟨r,f1,by omega,f3,λak=>?_⟩
      have h0:=f4 ak;have Z:=d1 (by omega)
      have af:=d2 (by omega)
      have au:=d3 (by omega)
      have aQ:=d4 (by omega)
      rw [gE l i default hi,hs];have:=akX s
      simp only [po];omega
     ·simp only [hi,ay,apJ,apK,Bool.and_false,apM];exact⟨v,rfl,Nat.le_refl _,g4,λh=>absurd h ay⟩
    ·rw [iZ l i hi];simp only [hi,apK,Bool.false_and,apM];exact⟨v,rfl,Nat.le_refl _,g4,λh=>rfl⟩
  obtain⟨r,f1,f2,f3,f4⟩:=iy n 0 0 (by omega) (by omega) (by omega) (by split<;>omega)
  exact⟨r,f1,f3,λak=>by rw [f4 ak,List.drop_zero];omega⟩
def pp(p:bi):Prop:=p.Name.length≤9223372036854775807∧p.Params.length≤9223372036854775807∧(∀i,i<p.Params.length→(p.Params.getD i default).Name.length≤9223372036854775807)∧qp p.Body
def aaa:∀l:List Param,(∀i,i<l.length→(l.getD i default).Name.length≤200)→hP l≤400*l.length
 |[],_=>Nat.le_refl _
 |x::l,h=>by
  have h0:=h 0 (by simp)
  have Z:=aaa l λi hi=>by have:=h (i+1) (by simpa using hi);simpa using this
  simp only [List.getD_cons_zero]at h0;simp only [hP,apP];omega
def HO(p:bi)(m:Nat):Prop:=p.Name.length≤200∧p.Params.length≤40∧hP p.Params≤16000∧po p.Body≤m
def ak1{n:Nat}(p:bi)(m:Nat)(hm:m≤1000)(hn:1100≤n)(hp:pp p):∃b,AQ n p (m:Int)=some b∧(b=true→HO p m):=by
 obtain⟨Z,af,au,aQ⟩:=hp;simp only [AQ,eb];by_cases hc:40<p.Params.length∨200<p.Name.length
 ·rw [show(decide (40<((p.Params.length:Nat):Int))||decide (200<((p.Name.length:Nat):Int)))=true by
   rcases hc with h|h
   ·rw [decide_eq_true (show 40<((p.Params.length:Nat):Int)by omega)];rfl
   ·rw [decide_eq_true (show 200<((p.Name.length:Nat):Int)by omega),apX]]
  exact⟨false,rfl,λh=>by cases h⟩
 ·rw [show(
   decide (40<((p.Params.length:Nat):Int))||decide (200<((p.Name.length:Nat):Int)))=false by
   rw [decide_eq_false (show¬ 40<((p.Params.length:Nat):Int)by omega),decide_eq_false (show¬ 200<((p.Name.length:Nat):Int)by omega)];rfl]
  simp only [apM]
  have iy:∀k i,p.Params.length<i+k→i≤p.Params.length→(∀j,j<i→(p.Params.getD j default).Name.length≤200)→∃b,AP n (m:Int) p k (i:Int)=some b∧(b=true→HO p m):=by
   intro k;induction k with
   |zero=>intro i g1 g2;omega
   |succ k yi=>
    intro i g1 g2 g3;simp only [AP,Nz,Ny,apS,apR];by_cases hi:i<p.Params.length
    ·simp only [hi,apJ,apL,cr hi,bg];by_cases hx:200<(p.Params.getD i default).Name.length
     ·rw [decide_eq_true (show 200<(((p.Params.getD i default).Name.length:Nat):Int)by omega)]
      exact⟨false,rfl,λh=>by cases h⟩
     ·rw [decide_eq_false (show¬ 200<(((p.Params.getD i default).Name.length:Nat):Int)by omega),gr (by omega)]
      exact yi (i+1) (by omega) (by omega) λj hj=>by
       by_cases h:j<i
       ·exact g3 j h
       ·obtain rfl:j=i:=by omega
        omega
    ·simp only [hi,apK,apM];obtain⟨r,f1,f2,f3⟩:=ak0 n p.Body (m:Int) (by omega) (by omega) (by omega) (by omega) aQ
     rw [f1];refine⟨_,rfl,λhb=>?_⟩
     have hb:=of_decide_eq_true hb;have:=f3 hb
     have a':=aaa p.Params λj hj=>g3 j (by omega)
     exact⟨by omega,by omega,by omega,by omega⟩
  exact iy n 0 (by omega) (by omega) λj hj=>by omega
open Go Go.Ab Go.Proofs
abbrev i_:Expr:=⟨0,0,[],[]⟩
def lR(e:Expr):Prop:=h4 e∧ii e≤12
def Ck(s:Stmt):Prop:=
 ((s.Op=1∨s.Op=2)∧s=⟨s.Op,s.Name,0,s.A,i_,[],[]⟩∧gF s.Name=true∧lR s.A)∨
 (s=⟨3,[],0,s.A,s.B,[],[]⟩∧lR s.A∧lR s.B)∨
 ((s.Op=4∨s.Op=7)∧s=⟨s.Op,[],0,s.A,i_,[],[]⟩∧lR s.A)∨
 (s=⟨5,[],0,s.A,i_,s.Body,s.bX⟩∧lR s.A)∨
 (s=⟨6,s.Name,s.Max,s.A,s.B,s.Body,[]⟩∧gF s.Name=true∧(1≤s.Max∧s.Max≤16)∧lR s.A∧lR s.B)∨
 (s=⟨8,[],s.Max,i_,i_,[],[]⟩∧0≤s.Max∧s.Max≤999)
mutual
def yj:Stmt→Nat→Prop
 |⟨Op,Name,Max,A,B,Body,bX⟩,d=>d≤12∧Ck ⟨Op,Name,Max,A,B,Body,bX⟩∧k7 Body (d+1)∧k7 bX (d+1)
def k7:List Stmt→Nat→Prop
 |[],_=>True
 |s::l,d=>yj s d∧k7 l d
end
def HP(s:Stmt)(d:Nat):yj s d↔d≤12∧Ck s∧k7 s.Body (d+1)∧k7 s.bX (d+1):=by cases s;rfl
def vg{e:Expr}(h:mi e=true):e=i_:=by
 obtain⟨a,b,c,l⟩:=e;unfold mi at h;simp only [Bool.and_eq_true,decide_eq_true_eq]at h;obtain⟨⟨⟨rfl,rfl⟩,rfl⟩,h⟩:=h;rw [List.length_eq_zero_iff]at h;subst h;rfl
def rq{e:Expr}(hi:lQ e)(h:gz e 1=0):lR e:=by
 obtain⟨Z,af⟩:=akV (ii e) e 1 (Nat.le_refl _) hi h (by omega)
 exact⟨Z,by omega⟩
def ak2{s:Stmt}{d:Int}(hi:qo s)(h:jK s d=0):d≤12∧Ck s:=by
 obtain⟨i1,i2,i3,i4,i5,i6⟩:=(QL s).1 hi;unfold jK at h;split at h
 ·omega
 rename_i g1;split at h
 ·omega
 rename_i g2;split at h
 ·rename_i g;exact absurd h g.2
 rename_i g3;split at h
 ·rename_i g;exact absurd h g.2
 rename_i g4;split at h
 ·omega
 rename_i g5;refine⟨by omega,?_⟩
 simp only [not_or,not_and,Bool.not_eq_false,Bool.not_eq_true,Decidable.not_not]at g1 g2 g3 g4;obtain⟨a7,a2,a3⟩:=g1
 have gX:1≤s.Op∧s.Op≤8:=by
  by_cases bz:1≤s.Op∧s.Op≤8
  ·exact bz
  ·rw [show jq s.Op=(⟨false,false,false,false,false,false⟩,false) by
    unfold jq;rw [if_neg (by omega),if_neg (by omega),if_neg (by omega),if_neg (by omega),if_neg (by omega),if_neg (by omega)]]at a7
   cases a7
 obtain⟨Op,Name,Max,A,B,Body,bX⟩:=s;simp only at *
 obtain rfl|rfl|rfl|rfl|rfl|rfl|rfl|rfl:Op=1∨Op=2∨Op=3∨Op=4∨Op=5∨Op=6∨Op=7∨Op=8:=by omega
 all_goals
  simp only [ye,qm,jq]at a2 a3 g2 g3 g4;simp [-List.length_eq_zero_iff]at a2 a3 g2 g3 g4
 all_goals unfold Ck;simp only []
 ·obtain⟨⟨⟨cB,rfl⟩,Z⟩,af⟩:=a2;obtain rfl:=vg cB;obtain rfl:=List.eq_nil_of_length_eq_zero Z;obtain rfl:=List.eq_nil_of_length_eq_zero af;exact Or.inl ⟨Or.inl trivial,rfl,g2,rq i3 g3⟩
 ·obtain⟨⟨⟨cB,rfl⟩,Z⟩,af⟩:=a2;obtain rfl:=vg cB;obtain rfl:=List.eq_nil_of_length_eq_zero Z;obtain rfl:=List.eq_nil_of_length_eq_zero af;exact Or.inl ⟨Or.inr trivial,rfl,g2,rq i3 g3⟩
 ·obtain⟨⟨⟨rfl,rfl⟩,Z⟩,af⟩:=a2;obtain rfl:=List.eq_nil_of_length_eq_zero Z;obtain rfl:=List.eq_nil_of_length_eq_zero af;exact Or.inr (Or.inl ⟨rfl,rq i3 g3,rq i4 g4⟩)
 ·obtain⟨⟨⟨⟨rfl,cB⟩,rfl⟩,Z⟩,af⟩:=a2;obtain rfl:=vg cB;obtain rfl:=List.eq_nil_of_length_eq_zero Z;obtain rfl:=List.eq_nil_of_length_eq_zero af;exact Or.inr (Or.inr (Or.inl ⟨Or.inl trivial,rfl,rq i3 g3⟩))
 ·obtain⟨⟨rfl,cB⟩,rfl⟩:=a2;obtain rfl:=vg cB;exact Or.inr (Or.inr (Or.inr (Or.inl ⟨rfl,rq i3 g3⟩)))
 ·obtain rfl:=List.eq_nil_of_length_eq_zero a2;exact Or.inr (Or.inr (Or.inr (Or.inr (Or.inl ⟨rfl,g2,a3,rq i3 g3,rq i4 g4⟩))))
 ·obtain⟨⟨⟨⟨rfl,cB⟩,rfl⟩,Z⟩,af⟩:=a2;obtain rfl:=vg cB;obtain rfl:=List.eq_nil_of_length_eq_zero Z;obtain rfl:=List.eq_nil_of_length_eq_zero af;exact Or.inr (Or.inr (Or.inl ⟨Or.inr trivial,rfl,rq i3 g3⟩))
 ·obtain⟨⟨⟨⟨rfl,d9⟩,cB⟩,Z⟩,af⟩:=a2;obtain rfl:=vg d9;obtain rfl:=vg cB;obtain rfl:=List.eq_nil_of_length_eq_zero Z;obtain rfl:=List.eq_nil_of_length_eq_zero af;exact Or.inr (Or.inr (Or.inr (Or.inr (Or.inr ⟨rfl,a3⟩))))
mutual
def aab:∀(s:Stmt) (d:Int) (r:Nat×Int),(pi s d r).2=0→r.2=0∧jK s d=0
 |⟨Op,Name,Max,A,B,Body,bX⟩,d,r,h=>by
  simp only [pi]at h;have Z:=Cl Body _ _ (Cl bX _ _ h);simp only at Z
  by_cases h0:r.2=0
  ·rw [if_pos h0]at Z;exact⟨h0,Z⟩
  ·rw [if_neg h0]at Z;exact absurd Z h0
def Cl:∀(l:List Stmt) (d:Int) (r:Nat×Int),(hD l d r).2=0→r.2=0
 |[],d,r,h=>h
 |s::l,d,r,h=>by
  simp only [hD]at h;split at h
  ·exact h
  ·exact(aab s d r (Cl l d _ h)).1
end
mutual
def ak3:∀(s:Stmt) (d:Nat) (r:Nat×Int),qo s→(pi s (d:Int) r).1≠0→(pi s (d:Int) r).2=0→yj s d
 |⟨Op,Name,Max,A,B,Body,bX⟩,d,r,hi,Z,af=>by
  have hs:=ak2 hi (aab _ _ _ af).2;obtain⟨i1,i2,i3,i4,i5,i6⟩:=(QL _).1 hi;have hd:ap2 ((d:Int)+1)=((d+1:Nat):Int):=by rw [wr]<;>omega
  simp only [pi,hd]at Z af;have cS:=Cl _ _ _ af;have al:=sI bX ((d+1:Nat):Int) (hD Body ((d+1:Nat):Int) (jr B (jr A (r.1-1)),if r.2=0 then jK ⟨Op,Name,Max,A,B,Body,bX⟩ d else r.2))
  exact⟨by omega,hs.2,HQ Body (d+1) _ i5 (by omega) cS,HQ bX (d+1) _ i6 Z af⟩
def HQ:∀(l:List Stmt) (d:Nat) (r:Nat×Int),qp l→(hD l (d:Int) r).1≠0→(hD l (d:Int) r).2=0→k7 l d
 |[],d,r,_,_,_=>trivial
 |s::l,d,r,hi,Z,af=>by
  simp only [hD]at Z af;split at Z
  ·rename_i h;exact absurd h Z
  ·rename_i h;rw [if_neg h]at af;have k:=sI l (d:Int) (pi s (d:Int) r);exact⟨ak3 s d r hi.1 (by omega) (Cl _ _ _ af),HQ l d _ hi.2 Z af⟩
end
def aac(p:bi):Prop:=gF p.Name=true∧pg p.Params=0∧k7 p.Body 1
def QM{p:bi}(hi:pp p)(h:nz p=0):aac p:=by
 unfold nz at h;split at h
 ·omega
 rename_i g1;split at h
 ·rename_i g;exact absurd h g
 rename_i g2;split at h
 ·omega
 rename_i g3;simp only [Bool.not_eq_false,Decidable.not_not]at g1 g2;exact⟨g1,g2,HQ p.Body 1 (401,0) hi.2.2.2 (λe=>g3 ⟨h,e⟩) h⟩
open Go Go.Ab Go.Proofs
def ind:Nat→ap0
 | 0=>[]
 |d+1=>32::32::32::32::ind d
def cat:List ap0→ap0
 |[]=>[]
 |x::l=>x++cat l
def er(d:Nat)(l:List ap0):ap0:=ind d++(cat l++[10])
abbrev f8(e:Expr):ap0:=flat (dk e)
abbrev aad(e:Expr):List Token:=lO (dk e)
mutual
def fS:Stmt→Nat→ap0
 |⟨Op,Name,Max,A,B,Body,bX⟩,d=>
  if Op=1 then er d [[108,101,116,32],Name,[32,61,32],f8 A,[59]]
  else if Op=2 then er d [Name,[32,61,32],f8 A,[59]]
  else if Op=3 then er d [[112,117,116,32],f8 A,[32,61,32],f8 B,[59]]
  else if Op=4 then er d [[100,101,108,101,116,101,32],f8 A,[59]]
  else if Op=5 then er d [[105,102,32],f8 A,[32,123]]++(ga Body (d+1)++((if bX.length=0 then[]else er d [[125,32,101,108,115,101,32,123]]++ga bX (d+1))++er d [[125]]))
  else if Op=6 then er d [[102,111,114,32],Name,[32,61,32],f8 A,[32,116,111,32],f8 B,[32,109,97,120,32],Lib.decDigits Max.toNat,[32,123]]++(ga Body (d+1)++er d [[125]])
  else if Op=7 then er d [[101,109,105,116,32],f8 A,[59]]
  else er d [[97,98,111,114,116,32],Lib.decDigits Max.toNat,[59]]
def ga:List Stmt→Nat→ap0
 |[],_=>[]
 |s::l,d=>fS s d++ga l d
end
open Go Go.Ab Go.Proofs
def aae(n:Nat)(s b:ap0)(x:Int)(h:b.length+s.length≤1000000000):z_ n s (fR b) x=some (((s.length:Nat):Int),fR (b++s)):=by
 unfold z_ wT;rw [show(fR b).length+s.length=b.length+s.length by simp [fR],QC (by omega)]
 simp [fR,aD,bg]
def ak4(n:Nat)(b:ap0)(x:Int)(h:b.length≤1000000000):EJ n 10 (fR b) x=some (fR (b++[10])):=by
 unfold EJ wT;rw [show(fR b).length+([10]:List Int).length=b.length+1 by simp [fR],QC (by omega)]
 simp [fR,aD,bg]
def QN:∀l m:List ap0,cat (l++m)=cat l++cat m
 |[],m=>rfl
 |x::l,m=>by simp only [List.cons_append,cat,QN l m,List.append_assoc]
def QO:∀d,ind (d+1)=ind d++[32,32,32,32]
 | 0=>rfl
 |d+1=>by
  show 32::32::32::32::ind (d+1)=(32::32::32::32::ind d)++[32,32,32,32]
  rw [QO d];rfl
def Cm:∀d,(ind d).length=4*d
 | 0=>rfl
 |d+1=>by simp only [ind,apP,Cm d];omega
def ak5(n:Nat)(parts:List ap0)(d:Nat)(b:ap0)(ag:b.length+(cat parts).length≤1000000000)(hp:parts.length≤1000):∀m i,parts.length<i+m→i≤parts.length→
 Aa n parts (d:Int) m (fR (b++cat (parts.take i))) (i:Int)=some (fR (b++(cat parts++[10]))):=by
 intro m;induction m with
 |zero=>intro i Z af;omega
 |succ m bc=>
  intro i Z af;have hc:cat parts=cat (parts.take i)++cat (parts.drop i):=by rw [←QN,List.take_append_drop]
  have hJ:(cat parts).length=(cat (parts.take i)).length+(cat (parts.drop i)).length:=by rw [hc,apT]
  simp only [Aa,Ls,Lr,apS,apR];by_cases hi:i<parts.length
  ·rw [gE parts i default hi]at hJ;simp only [cat,apT]at hJ;simp only [hi,apJ,apL,cr hi,bg];rw [aae n _ _ _ (by rw [apT];omega),gr (by omega)]
   simp only [aD];have:=bc (i+1) (by omega) (by omega)
   rw [va parts i hi,QN]at this;simp only [cat,List.append_nil]at this;rw [List.append_assoc];exact this
  ·simp only [hi,apK,apM];obtain rfl:i=parts.length:=by omega
   rw [List.take_length,ak4 n _ _ (by rw [apT];omega)]
   simp only [aD,List.append_assoc]
def mY{n:Nat}(parts:List ap0)(d:Nat)(b:ap0)(ag:b.length+(cat parts).length≤900000000)(hp:parts.length≤10)(hd:d≤100)(hn:200≤n):
 lI n parts (fR b) (d:Int)=some (fR (b++er d parts)):=by
 have iy:∀m i,d<i+m→i≤d→Ac n parts (d:Int) m (fR (b++ind i)) (i:Int)=some (fR (b++er d parts)):=by
  intro m;induction m with
  |zero=>intro i Z af;omega
  |succ m bc=>
   intro i Z af;have vR:=Cm i;simp only [Ac,Lu,Lt,apS];by_cases hi:i<d
   ·simp only [hi,apJ,apL];rw [aae n _ _ _ (by simp only [apT,apP,apQ];omega),gr (by omega)]
    simp only [aD];have:=bc (i+1) (by omega) (by omega)
    rw [QO]at this;rw [List.append_assoc];exact this
   ·simp only [hi,apK,apM];obtain rfl:i=d:=by omega
    have:=ak5 n parts i (b++ind i) (by rw [apT];omega) (by omega) n 0 (by omega) (by omega)
    simp only [List.take_zero,cat,List.append_nil]at this;rw [show((0:Nat):Int)=0 from rfl]at this
    rw [this,er,List.append_assoc]
 have:=iy n 0 (by omega) (by omega)
 simp only [ind,List.append_nil]at this;exact this
def k8(d:Nat)(l:List ap0):(er d l).length=4*d+(cat l).length+1:=by
 unfold er;simp only [apT,Cm,apP,apQ];omega
def lS{e:Expr}(h:lR e):(f8 e).length≤4*dr e:=pN (ii e) e (Nat.le_refl _) h.1
mutual
def aaf:∀(s:Stmt) (d:Nat),yj s d→(fS s d).length≤4*fst s
 |⟨Op,Name,Max,A,B,Body,bX⟩,d,h=>by
  obtain⟨hd,hs,cN,fp⟩:=(HP _ _).1 h;have apj:=nB Body (d+1) cN;have apk:=nB bX (d+1) fp;rcases hs with⟨aA,aE,hn,d9⟩|⟨aE,d9,cB⟩|⟨aA,aE,d9⟩|⟨aE,d9⟩|⟨aE,hn,hm,d9,cB⟩|⟨aE,hm⟩
  ·simp only [Stmt.mk.injEq,true_and,and_true]at aE aA;obtain⟨rfl,rfl,rfl,rfl⟩:=aE;have Z:=lS d9;have af:=pm hn;simp only at Z af
   rcases aA with rfl|rfl
   ·rw [show fS ⟨1,Name,0,A,i_,[],[]⟩ d=er d [[108,101,116,32],Name,[32,61,32],f8 A,[59]]by simp [fS],k8]
    simp only [cat,fst,apT,apP,apQ];omega
   ·rw [show fS ⟨2,Name,0,A,i_,[],[]⟩ d=er d [Name,[32,61,32],f8 A,[59]]by simp [fS],k8]
    simp only [cat,fst,apT,apP,apQ];omega
  ·simp only [Stmt.mk.injEq,true_and,and_true]at aE;obtain⟨rfl,rfl,rfl,rfl,rfl⟩:=aE;have Z:=lS d9;have af:=lS cB;simp only at Z af
   rw [show fS ⟨3,[],0,A,B,[],[]⟩ d=er d [[112,117,116,32],f8 A,[32,61,32],f8 B,[59]]by simp [fS],k8]
   simp only [cat,fst,apT,apP,apQ];omega
  ·simp only [Stmt.mk.injEq,true_and,and_true]at aE aA;obtain⟨rfl,rfl,rfl,rfl,rfl⟩:=aE;have Z:=lS d9;simp only at Z
   rcases aA with rfl|rfl
   ·rw [show fS ⟨4,[],0,A,i_,[],[]⟩ d=er d [[100,101,108,101,116,101,32],f8 A,[59]]by simp [fS],k8]
    simp only [cat,fst,apT,apP,apQ];omega
   ·rw [show fS ⟨7,[],0,A,i_,[],[]⟩ d=er d [[101,109,105,116,32],f8 A,[59]]by simp [fS],k8]
    simp only [cat,fst,apT,apP,apQ];omega
  ·simp only [Stmt.mk.injEq,true_and,and_true]at aE;obtain⟨rfl,rfl,rfl,rfl⟩:=aE;have Z:=lS d9;simp only at Z
   have af:(fS ⟨5,[],0,A,i_,Body,bX⟩ d).length≤(er d [[105,102,32],f8 A,[32,123]]).length+((ga Body (d+1)).length+(((er d [[125,32,101,108,115,101,32,123]]).length+(ga bX (d+1)).length)+(er d [[125]]).length)):=by
    by_cases ag:bX.length=0
    ·simp [fS,ag]
    ·simp [fS,ag];omega
   simp only [k8,cat,apT,apP,apQ]at af;simp only [fst];omega
  ·simp only [Stmt.mk.injEq,true_and,and_true]at aE;obtain⟨rfl,rfl⟩:=aE;have hm:1≤Max∧Max≤16:=hm;have Z:=lS d9;have af:=lS cB;have au:=pm hn;have aQ:=yf Max (by omega) (by omega)
   simp only at Z af au
   have bj:fS ⟨6,Name,Max,A,B,Body,[]⟩ d=er d [[102,111,114,32],Name,[32,61,32],f8 A,[32,116,111,32],f8 B,[32,109,97,120,32],Lib.decDigits Max.toNat,[32,123]]++(ga Body (d+1)++er d [[125]]):=by simp [fS]
   rw [bj];simp only [k8,cat,fst,apT,apP,apQ];omega
  ·simp only [Stmt.mk.injEq,true_and,and_true]at aE;obtain⟨rfl,rfl,rfl,rfl,rfl,rfl⟩:=aE;have hm:0≤Max∧Max≤999:=hm;have aQ:=yf Max (by omega) (by omega)
   rw [show fS ⟨8,[],Max,i_,i_,[],[]⟩ d=er d [[97,98,111,114,116,32],Lib.decDigits Max.toNat,[59]]by simp [fS],k8]
   simp only [cat,fst,apT,apP,apQ];omega
def nB:∀(l:List Stmt) (d:Nat),k7 l d→(ga l d).length≤4*ep l
 |[],d,h=>Nat.le_refl _
 |s::l,d,h=>by
  have Z:=aaf s d h.1;have af:=nB l d h.2;simp only [ga,ep,apT];omega
end
def aag(n:Nat)(i:Int)(h0:0≤i)(Z:i≤9223372036854775807):uf n i=some (Lib.decDigits i.toNat):=Z2 n i h0 Z
open Go Go.Ab Go.Proofs
def ak6(n:Nat):qa (n+1)=ER n (qa n) (uh n) (ui n):=rfl
def ak7(n:Nat):uh (n+1)=ET n (qa n) (uh n) (ui n):=rfl
def ak8(n:Nat):ui (n+1)=EU n (qa n) (uh n) (ui n):=rfl
def rr{n:Nat}{e:Expr}(h:lR e)(hn:300≤n)(a':dr e≤1000000):lm n e=some (f8 e):=akP (ii e) e n (Nat.le_refl _) h.1 (by have:=h.2;omega) a'
def ru(n:Nat)(l:List Stmt)(d:Nat)(b:ap0):Prop:=qa n l (fR b) (d:Int)=some (fR (b++ga l (d+1)),(d:Int))
def ak9{n d:Nat}{b:ap0}{A:Expr}{Body bX:List Stmt}(d9:lR A)(a':dr A≤300000)(hd:d≤12)(hn:400≤n)(hb:b.length≤10000000)(fr:(ga Body (d+1)).length≤10000000)(eG:(ga bX (d+1)).length≤10000000)
 (cB:∀bK:ap0,bK.length≤b.length+4*dr A+100→ru n Body d bK) (cI:∀bK:ap0,bK.length≤b.length+4*dr A+200+(ga Body (d+1)).length→ru n bX d bK):
 uh (n+1) ⟨5,[],0,A,i_,Body,bX⟩ (fR b) (d:Int)=some (fR (b++fS ⟨5,[],0,A,i_,Body,bX⟩ d),(d:Int)):=by
 have Z:=lS d9;rw [ak7];simp only [ET,ES,lN];rw [rr d9 (by omega) (by omega)]
 simp only [aD];rw [mY _ d b (by simp only [cat,apT,apP,apQ];omega) (by simp) (by omega) (by omega)]
 simp only [aD];have e1:=cB (b++er d [[105,102,32],f8 A,[32,123]]) (by simp only [apT,k8,cat,apP,apQ];omega)
 unfold ru at e1;rw [e1];simp only [aD];by_cases ag:bX.length=0
 ·rw [show decide (0<((bX.length:Nat):Int))=false from decide_eq_false (by omega)]
  simp only [apM];rw [mY _ d _ (by simp only [apT,k8,cat,apP,apQ];omega) (by simp) (by omega) (by omega)]
  simp only [aD];have:fS ⟨5,[],0,A,i_,Body,bX⟩ d=er d [[105,102,32],f8 A,[32,123]]++(ga Body (d+1)++er d [[125]]):=by simp [fS,ag]
  rw [this];simp only [List.append_assoc]
 ·rw [show decide (0<((bX.length:Nat):Int))=true from decide_eq_true (by omega)]
  simp only [apL];rw [mY _ d _ (by simp only [apT,k8,cat,apP,apQ];omega) (by simp) (by omega) (by omega)]
  simp only [aD];have e2:=cI (b++er d [[105,102,32],f8 A,[32,123]]++ga Body (d+1)++er d [[125,32,101,108,115,101,32,123]]) (by simp only [apT,k8,cat,apP,apQ];omega)
  unfold ru at e2;rw [e2];simp only [aD];rw [mY _ d _ (by simp only [apT,k8,cat,apP,apQ];omega) (by simp) (by omega) (by omega)]
  simp only [aD];have:fS ⟨5,[],0,A,i_,Body,bX⟩ d=er d [[105,102,32],f8 A,[32,123]]++(ga Body (d+1)++((er d [[125,32,101,108,115,101,32,123]]++ga bX (d+1))++er d [[125]])):=by simp [fS,ag]
  rw [this];simp only [List.append_assoc]
def ak'{n d:Nat}{b:ap0}{Name:ap0}{Max:Int}{A B:Expr}{Body:List Stmt}(d9:lR A)(aah:lR B)(a':dr A≤300000)(rP:dr B≤300000)(bB:gF Name=true)(hm:1≤Max∧Max≤16)(hd:d≤12)(hn:400≤n)(hb:b.length≤10000000)(fr:(ga Body (d+1)).length≤10000000)
 (cB:∀bK:ap0,bK.length≤b.length+4*dr A+4*dr B+120→ru n Body d bK):
 ui (n+1) ⟨6,Name,Max,A,B,Body,[]⟩ (fR b) (d:Int)=some (fR (b++fS ⟨6,Name,Max,A,B,Body,[]⟩ d),(d:Int)):=by
 have Z:=lS d9;have af:=lS aah;have au:=pm bB;have aQ:=yf Max (by omega) (by omega)
 rw [ak8];simp only [EU,lN];rw [rr d9 (by omega) (by omega),rr aah (by omega) (by omega),aag n Max (by omega) (by omega)]
 simp only [aD];rw [mY _ d b (by simp only [cat,apT,apP,apQ];omega) (by simp) (by omega) (by omega)]
 simp only [aD];have e1:=cB (b++er d [[102,111,114,32],Name,[32,61,32],f8 A,[32,116,111,32],f8 B,[32,109,97,120,32],Lib.decDigits Max.toNat,[32,123]]) (by simp only [apT,k8,cat,apP,apQ];omega)
 unfold ru at e1;rw [e1];simp only [aD];rw [mY _ d _ (by simp only [apT,k8,cat,apP,apQ];omega) (by simp) (by omega) (by omega)]
 simp only [aD];have:fS ⟨6,Name,Max,A,B,Body,[]⟩ d=er d [[102,111,114,32],Name,[32,61,32],f8 A,[32,116,111,32],f8 B,[32,109,97,120,32],Lib.decDigits Max.toNat,[32,123]]++(ga Body (d+1)++er d [[125]]):=by simp [fS]
 rw [this];simp only [List.append_assoc]
def QP:∀(l:List Stmt) (i d:Nat),i<l.length→k7 l d→yj (l.getD i default) d
 |[],i,d,h,_=>by simp at h
 |x::l,0,d,h,ag=>ag.1
 |x::l,i+1,d,h,ag=>by simp only [List.getD_cons_succ];exact QP l i d (by simpa using h) ag.2
def QQ:∀(l m:List Stmt) (d:Nat),k7 (l++m) d↔k7 l d∧k7 m d
 |[],m,d=>by simp [k7]
 |x::l,m,d=>by simp only [List.cons_append,k7,QQ l m d,and_assoc]
def QR:∀(l m:List Stmt) (d:Nat),ga (l++m) d=ga l d++ga m d
 |[],m,d=>rfl
 |x::l,m,d=>by simp only [List.cons_append,ga,QR l m d,List.append_assoc]
def ak_:∀(n:Nat) (l:List Stmt) (d:Nat) (b:ap0),k7 l (d+1)→d≤12→ep l≤300000→2*ep l+500≤n→b.length+4*ep l≤9000000→ru n l d b:=by
 intro n;induction n using Nat.strongRecOn with
 |_ n bc=>
  intro l d b e0 hd a' hn hb;obtain⟨n,rfl⟩:∃k,n=k+2:=⟨n-2,by omega⟩
  have hlen:=B9 l;unfold ru;rw [ak6];unfold ER;rw [gr (by omega)]
  have iy:∀m i,l.length<i+m→i≤l.length→Ah (n+1) (qa (n+1)) (uh (n+1)) (ui (n+1)) l m (fR (b++ga (l.take i) (d+1))) ((d+1:Nat):Int) (i:Int)=some (fR (b++ga l (d+1)),(d:Int)):=by
   intro m;induction m with
   |zero=>intro i Z af;omega
   |succ m ny=>
    intro i Z af;simp only [Ah,LJ,LI,apS,apR,lN,u9];by_cases hi:i<l.length
    ·simp only [hi,apJ,apL,cr hi,bg];have dS:=QP l i (d+1) hi e0;have QS:k7 (l.take i) (d+1):=((QQ (l.take i) (l.drop i) (d+1)).1 (by rw [List.take_append_drop];exact e0)).1
     have oN:=nB _ _ QS
     have zx:ep l=ep (l.take i)+(fst (l.getD i default)+1+ep (l.drop (i+1))):=by
      have:ep l=ep (l.take i++l.drop i):=by rw [List.take_append_drop]
      rw [Qo,gE l i default hi]at this;simpa only [ep]using this
     have f9:=ny (i+1) (by omega) (by omega)
     rw [va l i hi,QR,←List.append_assoc]at f9;simp only [ga,List.append_nil]at f9;have mx:(b++ga (l.take i) (d+1)).length≤b.length+4*ep (l.take i):=by rw [apT];omega
     generalize b++ga (l.take i) (d+1)=yk at f9 mx
     rw [gr (by omega)]
     generalize l.getD i default=s at dS zx f9
     have nb:=fst_eq s;obtain⟨jS,hs,cN,fp⟩:=(HP _ _).1 dS;obtain⟨Op,Name,Max,A,B,Body,bX⟩:=s;simp only at nb cN fp
     rcases hs with⟨aA,aE,bB,d9⟩|⟨aE,d9,cB⟩|⟨aA,aE,d9⟩|⟨aE,d9⟩|⟨aE,bB,hm,d9,cB⟩|⟨aE,hm⟩
     ·simp only [Stmt.mk.injEq,true_and,and_true]at aE aA;obtain⟨rfl,rfl,rfl,rfl⟩:=aE;have au:=lS d9;have aQ:=pm bB;simp only at au aQ
      rcases aA with rfl|rfl
      ·simp only [show p8 (n+1) 1=some (.inl ())from rfl,aD,hS.on,LE,lN]
       rw [rr d9 (by omega) (by show dr A≤_;omega)]
       simp only [aD];rw [mY _ (d+1) yk (by simp only [cat,apT,apP,apQ];omega) (by simp) (by omega) (by omega)]
       simp only [aD];rw [show fS ⟨1,Name,0,A,i_,[],[]⟩ (d+1)=er (d+1) [[108,101,116,32],Name,[32,61,32],f8 A,[59]]by simp [fS]]at f9
       exact f9
      ·simp only [show p8 (n+1) 2=some (.inr (.inl ()))from rfl,aD,hS.on,LD,lN]
       rw [rr d9 (by omega) (by show dr A≤_;omega)]
       simp only [aD];rw [mY _ (d+1) yk (by simp only [cat,apT,apP,apQ];omega) (by simp) (by omega) (by omega)]
       simp only [aD];rw [show fS ⟨2,Name,0,A,i_,[],[]⟩ (d+1)=er (d+1) [Name,[32,61,32],f8 A,[59]]by simp [fS]]at f9
       exact f9
     ·simp only [Stmt.mk.injEq,true_and,and_true]at aE;obtain⟨rfl,rfl,rfl,rfl,rfl⟩:=aE;have au:=lS d9;have aQ:=lS cB;simp only at au aQ
      simp only [show p8 (n+1) 3=some (.inr (.inr (.inl ())))from rfl,aD,hS.on,LG,lN]
      rw [rr d9 (by omega) (by show dr A≤_;omega),rr cB (by omega) (by show dr B≤_;omega)]
      simp only [aD];rw [mY _ (d+1) yk (by simp only [cat,apT,apP,apQ];omega) (by simp) (by omega) (by omega)]
      simp only [aD];rw [show fS ⟨3,[],0,A,B,[],[]⟩ (d+1)=er (d+1) [[112,117,116,32],f8 A,[32,61,32],f8 B,[59]]by simp [fS]]at f9
      exact f9
     ·simp only [Stmt.mk.injEq,true_and,and_true]at aE aA;obtain⟨rfl,rfl,rfl,rfl,rfl⟩:=aE;have au:=lS d9;simp only at au
      rcases aA with rfl|rfl
      ·simp only [show p8 (n+1) 4=some (.inr (.inr (.inr (.inl ()))))from rfl,aD,hS.on,LH,lN]
       rw [rr d9 (by omega) (by show dr A≤_;omega)]
       simp only [aD];rw [mY _ (d+1) yk (by simp only [cat,apT,apP,apQ];omega) (by simp) (by omega) (by omega)]
       simp only [aD];rw [show fS ⟨4,[],0,A,i_,[],[]⟩ (d+1)=er (d+1) [[100,101,108,101,116,101,32],f8 A,[59]]by simp [fS]]at f9
       exact f9
      ·simp only [show p8 (n+1) 7=some (.inr (.inr (.inr (.inr (.inr (.inr (.inl ())))))))from rfl,aD,hS.on,LF,lN]
       rw [rr d9 (by omega) (by show dr A≤_;omega)]
       simp only [aD];rw [mY _ (d+1) yk (by simp only [cat,apT,apP,apQ];omega) (by simp) (by omega) (by omega)]
       simp only [aD];rw [show fS ⟨7,[],0,A,i_,[],[]⟩ (d+1)=er (d+1) [[101,109,105,116,32],f8 A,[59]]by simp [fS]]at f9
       exact f9
     ·simp only [Stmt.mk.injEq,true_and,and_true]at aE;obtain⟨rfl,rfl,rfl,rfl⟩:=aE;have fr:=nB _ _ cN;have eG:=nB _ _ fp;simp only [show p8 (n+1) 5=some (.inr (.inr (.inr (.inr (.inl ())))))from rfl,aD,hS.on]
      rw [ak9 (A:=A) d9 (by show dr A≤_;omega) (by omega) (by omega) (by omega) (by omega) (by omega)
       (λbK bT=>bc n (by omega) Body (d+1) bK cN (by omega) (by omega) (by omega) (by omega)) (λbK bT=>bc n (by omega) bX (d+1) bK fp (by omega) (by omega) (by omega) (by omega))]
      exact f9
     ·simp only [Stmt.mk.injEq,true_and,and_true]at aE;obtain⟨rfl,rfl⟩:=aE;have fr:=nB _ _ cN;simp only [show p8 (n+1) 6=some (.inr (.inr (.inr (.inr (.inr (.inl ()))))))from rfl,aD,hS.on]
      rw [ak' (A:=A) (B:=B) d9 cB (by show dr A≤_;omega) (by show dr B≤_;omega) bB hm (by omega) (by omega) (by omega) (by omega)
       (λbK bT=>bc n (by omega) Body (d+1) bK cN (by omega) (by omega) (by omega) (by omega))]
      exact f9
     ·simp only [Stmt.mk.injEq,true_and,and_true]at aE;obtain⟨rfl,rfl,rfl,rfl,rfl,rfl⟩:=aE;have hm:0≤Max∧Max≤999:=hm;have aQ:=yf Max (by omega) (by omega)
      simp only [show p8 (n+1) 8=some (.inr (.inr (.inr (.inr (.inr (.inr (.inr ())))))))from rfl,aD,hS.on,Lv,lN]
      rw [aag _ Max (by omega) (by omega)]
      simp only [aD];rw [mY _ (d+1) yk (by simp only [cat,apT,apP,apQ];omega) (by simp) (by omega) (by omega)]
      simp only [aD];rw [show fS ⟨8,[],Max,i_,i_,[],[]⟩ (d+1)=er (d+1) [[97,98,111,114,116,32],Lib.decDigits Max.toNat,[59]]by simp [fS]]at f9
      exact f9
    ·simp only [hi,apK,apM];obtain rfl:i=l.length:=by omega
     rw [List.take_length,show ap2 (((d+1:Nat):Int)-1)=(d:Int)by rw [wr]<;>omega]
  have:=iy (n+1) 0 (by omega) (by omega)
  simp only [List.take_zero,ga,List.append_nil]at this;exact this
open Go Go.Ab Go.Proofs
section
variable {l:List Token}
end
open Go Go.Ab Go.Proofs
section
variable {l:List Token}
end
open Go Go.Ab Go.Proofs
def vh(t:Int):ap0:=if t=1 then[105,110,116]else if t=2 then[115,116,114] else[98,111,111,108]
def pq(x:Param):ap0:=(x.Name++[58,32])++vh x.fP
def Cn(x:Param):Prop:=gF x.Name=true∧1≤x.fP∧x.fP≤3
def aai:∀(l b:List Param),sH b l=0→∀x,x∈l→Cn x
 |[],b,h,x,hx=>by cases hx
 |y::l,b,h,x,hx=>by
  unfold sH at h;split at h
  ·omega
  rename_i g1;split at h
  ·omega
  rename_i g2;split at h
  ·omega
  rename_i g3;rcases List.mem_cons.1 hx with rfl|hx
  ·exact⟨by simpa using g1,by omega,by omega⟩
  ·exact aai l _ h x hx
def QT{l:List Param}(h:pg l=0):l.length≤6∧∀x,x∈l→Cn x:=by
 unfold pg at h;split at h
 ·omega
 ·exact⟨by omega,aai l [] h⟩
def om(l:List Param):ap0:=Lib.join (l.map pq) [44,32]
def nC(p:bi):ap0:=er 0 [[112,114,111,99,32],p.Name,[40],om p.Params,[41,32,123]]++(ga p.Body 1++er 0 [[125]])
def QU(t:Int):(vh t).length≤4:=by
 unfold vh;split
 ·simp
 ·split<;>simp
def aaj(n:Nat)(t:Int):EI n t=some (vh t):=by
 unfold EI vh;by_cases Z:t=1
 ·simp [Z]
 ·by_cases af:t=2
  ·simp [af]
  ·simp [Z,af]
def QV(x:ap0)(l:List ap0):Lib.joinTail [44,32] (x::l)=44::32::(x++Lib.joinTail [44,32] l):=by simp [Lib.joinTail]
def aak{x:Param}(h:Cn x):(pq x).length≤22:=by
 have:=pm h.1
 have:=QU x.fP
 unfold pq;simp only [apT,apP,apQ];omega
def aal:∀l:List Param,(∀x,x∈l→Cn x)→(Lib.joinTail [44,32] (l.map pq)).length≤24*l.length
 |[],_=>Nat.le_refl _
 |x::l,h=>by
  have Z:=aal l λy cc=>h y (by simp [cc])
  have af:=aak (h x (by simp))
  rw [List.map_cons,QV];simp only [apT,apP];omega
def QW{l:List Param}(ag:∀x,x∈l→Cn x):(om l).length≤24*l.length:=by
 unfold om;cases l with
 |nil=>exact Nat.le_refl _
 |cons x l=>
  have Z:=aal l λy cc=>ag y (by simp [cc])
  have af:=aak (ag x (by simp))
  rw [List.map_cons,Lib.join_cons];simp only [apT,apP];omega
def aam{p:bi}(hp:aac p):(nC p).length≤4*ep p.Body+300:=by
 obtain⟨Z,af,au⟩:=hp;obtain⟨aQ,bj⟩:=QT af;have cb:=QW bj;have de:=pm Z;have dR:=nB p.Body 1 au;unfold nC;simp only [apT,k8,cat,apP,apQ];omega
def ala{n:Nat}(p:bi)(hi:pp p)(ay:nz p=0)(hn:3000000≤n)(a':hP p.Params≤300000)(cB:ep p.Body≤300000):se n p=some (nC p):=by
 have hp:=QM hi ay;have wb:=hp;obtain⟨Z,af,au⟩:=hp;obtain⟨aQ,bj⟩:=QT af;have cb:=QW bj;have de:=pm Z;have dR:=nB p.Body 1 au;have gS:(ga p.Body (0+1)).length≤4*ep p.Body:=dR;unfold se;rw [ZU p (by omega) (by omega) (by omega) (by omega) (by omega),ay]
 simp only [aD,apJ,apN,apM]
 have iy:∀m i,p.Params.length<i+m→i≤p.Params.length→Ai n p m (i:Int) ((p.Params.take i).map pq)=some (nC p):=by
  intro m;induction m with
  |zero=>intro i g1 g2;omega
  |succ m bc=>
   intro i g1 g2;simp only [Ai,LL,apS,apR];by_cases hi:i<p.Params.length
   ·have hx:=bj (p.Params.getD i default) (by rw [List.getD_eq_getElem?_getD,List.getElem?_eq_getElem hi];exact List.getElem_mem hi)
    have hnx:=pm hx.1;have aan:=QU (p.Params.getD i default).fP;have:=bc (i+1) (by omega) (by omega)
    rw [va p.Params i hi,List.map_append]at this;simp only [List.map_cons,List.map_nil]at this;simp only [hi,apJ,apL,cr hi,bg];rw [gA (by simp only [apP,apQ];omega),aaj]
    simp only [bg,aD];rw [gA (by simp only [apT,apP,apQ];omega)]
    simp only [bg]
    rw [show room ((List.map pq (p.Params.take i)).length+([(p.Params.getD i default).Name++[58,32]++vh (p.Params.getD i default).fP]:List ap0).length) 16=true by
     simp [room];omega]
    simp only [bg];rw [gr (by omega)]
    exact this
   ·simp only [hi,apK,apM];obtain rfl:i=p.Params.length:=by omega
    unfold LK;rw [List.take_length];unfold Ed;rw [show decide ((p.Params.map pq).length≤140737488355328∧(Lib.join (p.Params.map pq) [44,32]).length≤140737488355328)=true from decide_eq_true ⟨by rw [List.length_map];omega,by show(om p.Params).length≤_;omega⟩]
    simp only [bg,aD];have ag:=mY (n:=n) [[112,114,111,99,32],p.Name,[40],om p.Params,[41,32,123]] 0 [] (by simp only [cat,apT,apP,apQ];omega) (by simp) (by omega) (by omega)
    have ag:lI n [[112,114,111,99,32],p.Name,[40],Lib.join (p.Params.map pq) [44,32],[41,32,123]] [] 0=_:=ag;rw [ag];simp only [aD,List.nil_append];have hb:=ak_ n p.Body 0 (er 0 [[112,114,111,99,32],p.Name,[40],om p.Params,[41,32,123]]) au (by omega) (by omega) (by omega) (by simp only [k8,cat,apT,apP,apQ];omega)
    unfold ru at hb;rw [show qa n p.Body (fR (er 0 [[112,114,111,99,32],p.Name,[40],om p.Params,[41,32,123]])) 0=_ from hb]
    simp only [aD];rw [mY _ 0 _ (by simp only [cat,apT,k8,apP,apQ];omega) (by simp) (by omega) (by omega)]
    simp only [aD];unfold EV;rw [Zy,Zx];have hlen:=aam wb;have alb:er 0 [[112,114,111,99,32],p.Name,[40],om p.Params,[41,32,123]]++ga p.Body (0+1)++er 0 [[125]]=nC p:=by unfold nC;rw [List.append_assoc]
    rw [alb];rw [show decide ((fR (nC p)).length≤9223372036854775807)=true from decide_eq_true (by rw [show(fR (nC p)).length=(nC p).length by simp [fR]];omega)]
    rfl
 exact iy n 0 (by omega) (by omega)
open Go Go.Ab Go.Proofs
section
variable {l:List Token}
end
open Go Go.Ab Go.Proofs
def gt(s:ap0):List Int:=s.map λb=>(b.toNat:Int)
def Co(s:ap0):hL (gt s)=s:=by
 simp only [hL,gt,List.map_map]
 conv=>rhs;rw [←List.map_id s]
 apply List.map_congr_left;intro b _;simp
def Cp(s:ap0):lH (gt s)=true:=by
 simp only [lH,gt,List.all_eq_true,List.mem_map,forall_exists_index,and_imp,forall_apply_eq_imp_iff₂];intro b _;have:=b.toNat_lt
 simp;omega
def QX(s t:ap0):gt (s++t)=gt s++gt t:=List.map_append
def yl(s:ap0):(gt s).length=s.length:=List.length_map _
def QY:([]:List Int)=gt []:=rfl
def eV(u:Nat):ap0:=if u<128 then[UInt8.ofNat u]else UInt8.ofNat (u % 128+128)::eV (u / 128)
termination_by u
decreasing_by omega
def aao:∀(k u:Nat),u<128 ^ k→0<k→(eV u).length≤k
 | 0,u,_,h=>by omega
 |k+1,u,hu,_=>by
  rw [eV];split
  ·simp
  ·have hk:0<k:=by
    rcases Nat.eq_zero_or_pos k with rfl|h
    ·simp at hu;omega
    ·exact h
   have:=aao k (u / 128) (by rw [Nat.pow_succ]at hu;omega) hk
   simp;omega
def iA{u:Nat}(h:u<18446744073709551616):(eV u).length≤10:=aao 10 u (by omega) (by omega)
def alc:∀x:Nat,x<256→s3 .u8 (x:Int) 128=((x % 128+128:Nat):Int):=by decide +kernel
def QZ(u:Nat):IntKind.u8.wrap (u:Int)=((u % 256:Nat):Int):=by rw [IntKind.wrap_u8];omega
def sL{u:Nat}(h:u<18446744073709551616):IntKind.u64.wrap (u:Int)=(u:Int):=by rw [IntKind.wrap_u64];omega
def Cq(u:Nat)(h:u<256):([(u:Int)]:List Int)=gt [UInt8.ofNat u]:=by
 simp only [gt,List.map_cons,List.map_nil,UInt8.toNat_ofNat',Nat.mod_eq_of_lt (show u<2 ^ 8 from h)]
def ald(u:Nat):oz .u64 (u:Int) 7=((u / 128:Nat):Int):=by
 unfold oz;rw [show min (7:Int).toNat (IntKind.bits .u64)=7 by decide,Int.fdiv_eq_ediv_of_nonneg _ (by omega)]
 omega
def Q0{n:Nat}(h:n≤140737488355328):room n 1=true:=by simp [room];omega
def dB{n:Nat}(h:n≤9223372036854775807):bE n=true:=by simp [bE];omega
def ale(n:Nat):∀m u (acc:ap0),u<18446744073709551616→(eV u).length≤m→acc.length+(eV u).length≤1000→zR n m (u:Int) (gt acc)=some (acc++eV u):=by
 intro m;induction m with
 |zero=>intro u acc _ h _;rw [eV]at h;split at h<;>simp at h
 |succ m bc=>
  intro u acc hu hm ag;simp only [zR,KZ,KY,Ej];rw [eV]at hm ag ⊢;by_cases h:u<128
  ·rw [if_pos h]at hm ag ⊢;simp only [apU]at ag;have:¬ (128:Int)≤(u:Int):=by omega
   rw [QZ,Nat.mod_eq_of_lt (by omega),Cq u (by omega),←QX]
   simp only [this,apK,apM,apU,yl,Q0 (show acc.length+1≤140737488355328 by omega),bg,aD,Cp,Co]
  ·rw [if_neg h]at hm ag ⊢;simp only [apP]at hm ag;have:(128:Int)≤(u:Int):=by omega
   rw [QZ,alc _ (by omega),show u % 256 % 128=u % 128 by omega,Cq _ (by omega),←QX,ald]
   simp only [this,apJ,apL,apU,yl,Q0 (show acc.length+1≤140737488355328 by omega),bg,aD]
   rw [bc (u / 128) _ (by omega) (by omega) (by simp;omega)]
   simp
def rv{n u:Nat}(hn:10≤n)(hu:u<18446744073709551616):gZ n (u:Int)=some (eV u):=by
 have:=iA hu
 exact ale n n u [] hu (by omega) (by simp;omega)
def alf(n:Nat):∀m u (acc:ap0),u<18446744073709551616→(eV u).length≤m→acc.length+(eV u).length≤1000→Bm n m (u:Int) acc=some (acc++eV u):=by
 intro m;induction m with
 |zero=>intro u acc _ h _;rw [eV]at h;split at h<;>simp at h
 |succ m bc=>
  intro u acc hu hm ag;simp only [Bm,Pt,Ps];rw [eV]at hm ag ⊢;by_cases h:u<128
  ·rw [if_pos h]at hm ag ⊢;simp only [apU]at ag;have:¬ (128:Int)≤(u:Int):=by omega
   rw [QZ,Nat.mod_eq_of_lt (by omega),Cq u (by omega)]
   simp only [this,apK,apM,Cp,Co,apU,dB (show acc.length+1≤9223372036854775807 by omega),bg]
  ·rw [if_neg h]at hm ag ⊢;simp only [apP]at hm ag;have:(128:Int)≤(u:Int):=by omega
   have e1:IntKind.u8.wrap (IntKind.u8.wrap (Int.tmod (u:Int) 128)+128)=((u % 128+128:Nat):Int):=by
    rw [Int.tmod_eq_emod_of_nonneg (by omega),IntKind.wrap_u8,IntKind.wrap_u8];omega
   have e2:IntKind.u64.wrap (Int.tdiv (u:Int) 128)=((u / 128:Nat):Int):=by
    rw [Int.tdiv_eq_ediv_of_nonneg (by omega),IntKind.wrap_u64];omega
   rw [e1,e2,Cq _ (by omega)]
   simp only [this,apJ,apL,Cp,Co,apU,dB (show acc.length+1≤9223372036854775807 by omega),bg]
   rw [bc (u / 128) _ (by omega) (by omega) (by simp;omega)]
   simp
def rx{n u:Nat}(hn:10≤n)(hu:u<18446744073709551616):hh n (u:Int)=some (eV u):=by
 have:=iA hu
 exact alf n n u [] hu (by omega) (by simp;omega)
def fold(n:Int):Nat:=if n<0 then(2*(-(n+1))+1).toNat else(2*n).toNat
def e5(x:Int):Prop := -9223372036854775808≤x∧x≤9223372036854775807
def Q1{n:Int}(h:e5 n):fold n<18446744073709551616:=by
 unfold e5 at h;unfold fold;split<;>omega
def ml(n:Int):ap0:=eV (fold n)
def nD{n:Int}(h:e5 n):(ml n).length≤10:=iA (Q1 h)
def alg{n:Nat}{x:Int}(h:e5 x):GQ n x=some (fold x:Int):=by
 unfold e5 at h;unfold GQ fold;by_cases hx:x<0
 ·simp only [hx,apJ,apL,apY,IntKind.wrap_u64,IntKind.wrap_i64]
  congr 1;omega
 ·simp only [hx,apK,apM,apZ,IntKind.wrap_u64]
  congr 1;omega
def vi{n:Nat}{x:Int}(hn:10≤n)(h:e5 x):qi n x=some (ml x):=by
 unfold qi;rw [alg h,aD,rx hn (Q1 h)];rfl
def xor_zero{a:Nat}(h:a<18446744073709551616):pC .u64 (a:Int) 0=(a:Int):=by
 unfold pC;rw [show BitVec.ofInt (IntKind.bits .u64) 0=0#_ from rfl,BitVec.xor_zero]
 rw [show((BitVec.ofInt (IntKind.bits .u64) (a:Int)).toNat:Int)=(a:Int) by
  rw [BitVec.toNat_ofInt];simp only [IntKind.bits];omega]
 exact sL h
def alh{a:Nat}(h:a<18446744073709551616):pC .u64 (a:Int) 18446744073709551615=((18446744073709551615-a:Nat):Int):=by
 unfold pC;rw [show BitVec.ofInt (IntKind.bits .u64) 18446744073709551615=BitVec.allOnes _ by decide,BitVec.xor_allOnes]
 rw [show((~~~ BitVec.ofInt (IntKind.bits .u64) (a:Int)).toNat:Int)=((18446744073709551615-a:Nat):Int) by
  rw [BitVec.toNat_not,BitVec.toNat_ofInt];simp only [IntKind.bits];omega]
 exact sL (by omega)
def ali{x:Int}(h:e5 x):pC .u64 (qF .u64 (IntKind.u64.wrap x) 1) (IntKind.u64.wrap (oz .i64 x 63))=(fold x:Int):=by
 unfold e5 at h
 have e1:oz .i64 x 63=if x<0 then -1 else 0:=by
  unfold oz;rw [show min (63:Int).toNat (IntKind.bits .i64)=63 by decide,Int.fdiv_eq_ediv_of_nonneg _ (by omega)]
  split<;>omega
 have e2:qF .u64 (IntKind.u64.wrap x) 1=(((2*x) % 18446744073709551616).toNat:Int):=by
  unfold qF;rw [show min (1:Int).toNat (IntKind.bits .u64)=1 by decide,IntKind.wrap_u64,IntKind.wrap_u64]
  omega
 rw [e1,e2];unfold fold;by_cases hx:x<0
 ·rw [if_pos hx,if_pos hx,show IntKind.u64.wrap (-1)=18446744073709551615 by decide,alh (by omega)]
  omega
 ·rw [if_neg hx,if_neg hx,show IntKind.u64.wrap 0=0 by decide,xor_zero (by omega)]
  omega
def vj{n:Nat}{x:Int}(hn:10≤n)(h:e5 x):p7 n x=some (ml x):=by
 unfold p7;rw [ali h,rv hn (Q1 h)];rfl
def fE(s:ap0):ap0:=eV s.length++s
def qq{n:Nat}{s:ap0}(hn:10≤n)(h:s.length≤4611686018427387904):nm n s=some (fE s):=by
 unfold nm;have:=iA (u:=s.length) (by omega)
 rw [sL (by omega),rv hn (by omega)]
 simp only [aD,dB (show(eV s.length).length+s.length≤9223372036854775807 by omega),bg];rfl
def qr{n:Nat}{s:ap0}(hn:10≤n)(h:s.length≤4611686018427387904):nt n s=some (fE s):=by
 unfold nt;have:=iA (u:=s.length) (by omega)
 rw [sL (by omega),rx hn (by omega)]
 simp only [aD,dB (show(eV s.length).length+s.length≤9223372036854775807 by omega),bg];rfl
def qs{s:ap0}(h:s.length≤4611686018427387904):(fE s).length≤s.length+10:=by
 have:=iA (u:=s.length) (by omega)
 simp [fE];omega
end Go.Ab.Y

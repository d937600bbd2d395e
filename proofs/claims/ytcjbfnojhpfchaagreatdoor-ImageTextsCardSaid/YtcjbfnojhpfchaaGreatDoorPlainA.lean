/- The plain law: what the functions compute answers as the statement says. -/
import Derived.Test.YtcjbfnojhpfchaaGreatDoorCtrA
set_option linter.all false
namespace Go.Ab.Y
open Go Go.Ab Go.Proofs
def am8{h:Decidable True}:@decide True h=true:=_root_.decide_true h
def am9{h:Decidable False}:@decide False h=false:=_root_.decide_false h
def anf:(∀n:Nat,(n:Int).toNat=n)∧∀(α:Type)(_:Inhabited α)(l:List α)(n:Nat),anr l n=l.getD n default:=⟨λ_=>rfl,λ_ _ _ _=>rfl⟩
def am'{α:Type}{a b:α}:cond true a b=a:=rfl
def am_{α:Type}{a b:α}:cond false a b=b:=rfl
def ana:(!true)=false:=rfl
def anb:(!false)=true:=rfl
def anc{α:Type}{a:α}{l:List α}:(a::l).length=l.length+1:=rfl
def ane{α:Type}:([]:List α).length=0:=rfl
def ang{a b:Nat}:((a:Int)<b)↔a<b:=_root_.Int.ofNat_lt
def anh{α:Type}{a b:List α}:(a++b).length=a.length+b.length:=_root_.List.length_append
def ani{α:Type}{a:α}:[a].length=1:=rfl
def anj{α:Type}{b:Bool}{x y:α}:cond b x y=if b then x else y:=_root_.Bool.cond_eq_ite b x y
def ank(a:Int):¬a<a:=_root_.Int.lt_irrefl a
def anl(a:Bool):(a||true)=true:=_root_.Bool.or_true a
def anm{α:Type}{a b:α}{h:Decidable True}:@ite α True h a b=a:=_root_.if_true a b
def ann{α:Type}{a b:α}{h:Decidable False}:@ite α False h a b=b:=_root_.if_false a b
def wr{x:Int}(Z : -9223372036854775808≤x)(aa:x≤9223372036854775807):anq x=x:=by(try unfold anq);rw [IntKind.wrap_i64];omega
def bg{i:Nat}(h:i≤4611686018427387904):anq ((i:Int)+1)=((i+1:Nat):Int):=by rw [wr]<;>omega
def b3{i n:Nat}(h:i<n):aH (i:Int) n=true:=by simp [aH];omega
def lI{n:Nat}(h:0<n):aH 0 n=true:=by simp [aH];omega
def y8{i n:Nat}(h:i≤n):gG (i:Int) n=true:=by simp [gG];omega
def Dg{i j n:Nat}(h:i≤j)(aa:j≤n):lm (i:Int) (j:Int) n=true:=by simp [lm];omega
@[simp] def aM {α : Type} (x : Option α) : aq true x = x := rfl
def eS{α:Type}(l:List α)(i:Nat)(d:α)(h:i<l.length):l.drop i=l.getD i d::l.drop (i+1):=by
 rw [List.drop_eq_getElem_cons h];simp [List.getD,h]
def gi{α:Type}(l:List α)(i:Nat)(h:¬ i<l.length):l.drop i=[]:=List.drop_of_length_le (by omega)
def qM(a k:Nat):((a:Int)<(no_index (OfNat.ofNat k):Int))↔a<k:=Int.ofNat_lt
def nn(a k:Nat):((a:Int)≤(no_index (OfNat.ofNat k):Int))↔a≤k:=Int.ofNat_le
def f'(a k:Nat):((no_index (OfNat.ofNat k):Int)<(a:Int))↔k<a:=Int.ofNat_lt
def sb(a k:Nat):((no_index (OfNat.ofNat k):Int)≤(a:Int))↔k≤a:=Int.ofNat_le
def fi(a k:Nat):((a:Int)=(no_index (OfNat.ofNat k):Int))↔a=k:=Int.ofNat_inj
def eo(a b:Bool):(bif a then true else b)=(a||b):=by cases a<;>rfl
def eT(a b:Bool):(bif a then b else false)=(a&&b):=by cases a<;>rfl
def ai{α β:Type}(a:α)(f:α→Option β):Option.bind (some a) f=f a:=rfl
def okB(c:UInt8):Bool:=decide (32≤c.toNat)&&decide (c.toNat≤126)
def iC(s:ano):Bool:=s.all okB&&decide (s.length≤64)
def y9(c:UInt8):(decide (c.toNat<32)||decide (126<c.toNat)) = !okB c:=by
 unfold okB;by_cases h:c.toNat<32
 ·simp [h]
 ·by_cases aa:c.toNat≤126
  ·simp [aa,show 32≤c.toNat by omega,h]
  ·simp [aa];omega
def af0(n:Nat)(s:ano)(hs:s.length≤4611686018427387904):∀m i,s.length<i+m→i≤s.length→xW n s m (i:Int)=some ((s.drop i).all okB&&decide (s.length≤64)):=by
 intro m;induction m with
 |zero=>intro i h aa;omega
 |succ m aF=>
  intro i hm hi;simp only [xW,Mm,Ml];by_cases h:i<s.length
  ·rw [eS s i 0 h,bg (by omega),aF (i+1) (by omega) (by omega)]
   simp only [h,b3 h,anf,ang,am8,am',aM,anl,List.all_cons,qM,f',eo,y9];cases okB (s.getD i 0)<;>simp
  ·rw [gi s i h];simp [h,nn]
def W_{n:Nat}{s:ano}(h:s.length<n)(hs:s.length≤4611686018427387904):Mn n s=some (iC s):=af0 n s hs n 0 (by omega) (by omega)
def af1(n:Nat)(s:ano)(hs:s.length≤4611686018427387904):∀m i,s.length<i+m→i≤s.length→HR n s m (i:Int)=some ((s.drop i).all okB):=by
 intro m;induction m with
 |zero=>intro i h aa;omega
 |succ m aF=>
  intro i hm hi;simp only [HR,U1,U0];by_cases h:i<s.length
  ·rw [eS s i 0 h,bg (by omega),aF (i+1) (by omega) (by omega)]
   simp only [h,b3 h,anf,ang,am8,am',aM,anl,List.all_cons,qM,f',eo,y9];cases okB (s.getD i 0)<;>simp
  ·rw [gi s i h];simp [h,nn]
def af2{n:Nat}{s:ano}(h:s.length<n)(hs:s.length≤4611686018427387904):Ot n s=some (iC s):=by
 unfold Ot;rw [show(0:Int)=((0:Nat):Int)from rfl,af1 n s hs n 0 (by omega) (by omega)]
 unfold iC;simp only [List.drop_zero,f'];by_cases h:64<s.length
 ·simp [h]
 ·simp [h];omega
def tO:List ano:=[[112,114,111,99],[108,101,116],[112,117,116],[100,101,108,101,116,101],[105,102],[101,108,115,101],[102,111,114],[116,111],[109,97,120],[101,109,105,116],[97,98,111,114,116],[110,111,116],[97,110,100],[111,114],[105,110,116],[115,116,114],[98,111,111,108],[116,101,120,116],[108,101,110],[103,101,116,105,110,116],[103,101,116,115,116,114],[104,97,115],[110,111,119],[114,97,110,100,111,109],[110,111,100,101]]
def tP(s:ano):Bool:=decide (s∈tO)
def Xa(n:Nat)(s:ano):Bc n s=some (tP s):=by
 unfold tP;by_cases h:s∈tO
 ·simp only [h,am8];simp only [tO,List.mem_cons,List.not_mem_nil,or_false]at h;rcases h with rfl|rfl|rfl|rfl|rfl|rfl|rfl|rfl|rfl|rfl|rfl|rfl|rfl|rfl|rfl|rfl|rfl|rfl|rfl|rfl|rfl|rfl|rfl|rfl|rfl<;>rfl
 ·simp only [h,am9];simp only [tO,List.mem_cons,List.not_mem_nil,or_false,not_or]at h;simp only [Bc,h1,LY,h,am9,am_]
def af3(n:Nat)(l:List ano)(s:ano)(hs:l.length≤4611686018427387904):∀m i,l.length<i+m→i≤l.length→HL n l s m (i:Int)=some (decide (s∈l.drop i)):=by
 intro m;induction m with
 |zero=>intro i h aa;omega
 |succ m aF=>
  intro i hm hi;simp only [HL,UI,UH];by_cases h:i<l.length
  ·rw [eS l i default h,bg (by omega),aF (i+1) (by omega) (by omega)]
   simp only [h,b3 h,anf,ang,am8,am',aM,List.mem_cons];by_cases he:l.getD i default=s
   ·simp only [he,am8,am',true_or]
   ·simp only [he,am9,am_,show¬ s=l.getD i default from λx=>he x.symm,false_or]
  ·rw [gi l i h];simp [h]
def af4(n:Nat):UG n=some tO:=rfl
def af5{n:Nat}(l:List ano)(s:ano)(h:l.length<n)(hs:l.length≤4611686018427387904):UJ n l s=some (decide (s∈l)):=af3 n l s hs n 0 (by omega) (by omega)
def Xb{n:Nat}(s:ano)(h:25<n):HM n s=some (tP s):=by
 unfold HM;simp only [af4,ai];rw [af5 tO s (by show 25<_;omega) (by decide)]
 rfl
def n7(c:UInt8):Bool:=decide (97≤c.toNat)&&decide (c.toNat≤122)
def Pz(n:Nat)(c:UInt8):CF n ((c.toNat:Nat):Int)=some (n7 c):=by
 simp only [CF,eT,sb,nn,n7]
def af6{x:Nat}(h:x<256):IntKind.i32.wrap (x:Int)=x:=by rw [IntKind.wrap_i32];omega
def Xc(n:Nat)(c:UInt8):Bd n (IntKind.i32.wrap ((c.toNat:Nat):Int))=some (n7 c):=by
 rw [af6 c.toNat_lt];simp only [Bd,eT,sb,nn,n7]
def Xd(n:Nat)(c:UInt8):HN n ((c.toNat:Nat):Int)=some (hO c):=by
 simp only [HN,Pz,ai,UK,eT,eo,sb,nn,fi];unfold hO n7;by_cases h:97≤c.toNat∧c.toNat≤122
 ·simp [h.1,h.2]
 ·have:(decide (97≤c.toNat)&&decide (c.toNat≤122))=false:=by simpa using h
  rw [this];simp only [anb,am',ai,Bool.false_or,h,false_or,Bool.decide_or,Bool.decide_and]
def II(s:ano):gg s≤s.length:=by unfold gg;exact(List.takeWhile_prefix _).length_le
def y'(c:UInt8)(s:ano):gg (c::s)=bif hO c then gg s+1 else 0:=by
 unfold gg;cases h:hO c<;>simp [List.takeWhile,h]
def af7(n:Nat)(s:ano)(hs:s.length≤4611686018427387904):∀m i,s.length<i+m→i≤s.length→HO n s m (i:Int)=some (((i+gg (s.drop i):Nat):Int)):=by
 intro m;induction m with
 |zero=>intro i h aa;omega
 |succ m aF=>
  intro i hm hi;simp only [HO,UM,UL];by_cases h:i<s.length
  ·rw [eS s i 0 h,bg (by omega),aF (i+1) (by omega) (by omega)]
   simp only [h,b3 h,anf,ang,am8,am',aM,anl,Xd,ai,y'];cases hO (s.getD i 0)
   ·rfl
   ·simp only [am',Option.some.injEq];omega
  ·rw [gi s i h];simp [h,gg]
def Xe{n:Nat}{s:ano}(i:Nat)(h:s.length<n)(hi:i≤s.length)(hs:s.length≤4611686018427387904):Om n s (i:Int)=some (((i+gg (s.drop i):Nat):Int)):=af7 n s hs n i (by omega) hi
def gC(s:ano):Bool:=
 match s with
 |[]=>false
 |c::l=>decide (l.length≤15)&&n7 c&&decide (gg (c::l)=l.length+1) && !tP (c::l)
def Dh{n:Nat}(s:ano)(h:s.length<n)(aa:25<n)(hs:s.length≤4611686018427387904):vV n s=some (gC s):=by
 unfold vV;cases s with
 |nil=>rfl
 |cons c l=>
  simp only [Xb _ aa,eT,sb,nn,anc,show 1≤l.length+1 by omega,am8,Bool.true_and,lI (show 0<l.length+1 by omega),anl,aM,List.getD_cons_zero,Pz]
  rw [show(0:Int)=((0:Nat):Int)from rfl,Xe 0 h (by omega) hs]
  simp only [List.drop_zero,Nat.zero_add,gC,Int.ofNat_inj,show(l.length+1≤16)=(l.length≤15)by rw [eq_iff_iff];omega]
  cases decide (l.length≤15)<;>simp only [Bool.false_and,am_,ai,Bool.true_and,am']
  cases n7 c<;>simp only [Bool.false_and,am_,ai,Bool.true_and,am',Int.ofNat_inj]
  cases decide (gg (c::l)=l.length+1)<;>simp only [Bool.false_and,am_,ai,Bool.true_and,am']
def Xf(n:Nat)(s:ano)(h:s.length≤140737488351232):xH n s=some ((gg s:Nat):Int):=by
 unfold xH;simp only [h,am8,aM]
def y_(n:Nat)(s:ano)(h:s.length≤140737488351232):rH n s=some (gC s):=by
 unfold rH;cases s with
 |nil=>rfl
 |cons c l=>
  simp only [Xa,eT,sb,nn,anc,reduceCtorEq,am9,anb,Bool.true_and,lI (show 0<l.length+1 by omega),anl,aM,List.getD_cons_zero,Xc,Xf _ _ h]
  simp only [gC,Int.ofNat_inj,show(l.length+1≤16)=(l.length≤15)by rw [eq_iff_iff];omega]
  cases decide (l.length≤15)<;>simp only [Bool.false_and,am_,ai,Bool.true_and,am']
  cases n7 c<;>simp only [Bool.false_and,am_,ai,Bool.true_and,am',Int.ofNat_inj]
  cases decide (gg (c::l)=l.length+1)<;>simp only [Bool.false_and,am_,ai,Bool.true_and,am']
def jj(op:Int):Int:=bif decide (op<1)||decide (27<op)then -1 else bif decide (op≤3)||decide (25≤op)then 0 else bif decide (op=9)||decide (op=18)||decide (20≤op)then 1 else 2
def af8(n:Nat)(op:Int):FT n op=some (jj op):=by
 simp only [FT,jj,eo];cases decide (op<1)||decide (27<op)<;>simp only [am',am_]
 cases decide (op≤3)||decide (25≤op)<;>simp only [am',am_]
 cases decide (op=9)||decide (op=18)||decide (20≤op)<;>rfl
def af9(n:Nat)(op:Int):HQ n op=some (jj op):=by
 by_cases h:1≤op∧op≤27
 ·obtain rfl|rfl|rfl|rfl|rfl|rfl|rfl|rfl|rfl|rfl|rfl|rfl|rfl|rfl|rfl|rfl|rfl|rfl|rfl|rfl|rfl|rfl|rfl|rfl|rfl|rfl|rfl:op=1∨op=2∨op=3∨op=4∨op=5∨op=6∨op=7∨op=8∨op=9∨op=10∨op=11∨op=12∨op=13∨op=14∨op=15∨op=16∨op=17∨op=18∨op=19∨op=20∨op=21∨op=22∨op=23∨op=24∨op=25∨op=26∨op=27:=by omega
  all_goals rfl
 ·have ha:jj op = -1:=by
   unfold jj;by_cases Z:op<1
   ·simp [Z]
   ·simp [show 27<op by omega]
  have hb:(decide (4≤op)&&decide (op≤19))=false:=by
   by_cases Z:4≤op
   ·simp [Z];omega
   ·simp [Z]
  simp only [HQ,vY,tA,UZ,eT,hb,ha,show¬ op=1 by omega,show¬ op=2 by omega,show¬ op=3 by omega,show¬ op=25 by omega,show¬ op=26 by omega,show¬ op=27 by omega,show¬ op=9 by omega,show¬ op=18 by omega,show¬ op=20 by omega,show¬ op=21 by omega,show¬ op=22 by omega,show¬ op=23 by omega,show¬ op=24 by omega,am9,am_]
def oU(e:Expr)(depth:Int):Int:=
 if jj e.Op<0∨(e.Op≠1∧e.N≠0)∨(e.Op≠2∧e.Op≠3∧e.S≠[])then 1
 else if e.Op=3∧gC e.S=false then 7
 else if e.N<0∨(e.Op=2∧iC e.S=false)∨(e.ao.length:Int)≠jj e.Op then 1
 else if 12<depth then 2 else 0
def af'{n:Nat}(e:Expr)(depth:Int)(h:e.S.length<n)(hs:e.S.length≤140737488351232):FU n e depth=some (oU e depth):=by
 obtain⟨Op,N,S,ao⟩:=e;simp only at h hs
 simp only [FU,af8,ai,y_ _ _ hs,W_ h (by omega),oU]
 by_cases Z:jj Op<0
 ·simp [Z]
 by_cases aa:Op=1
 ·subst aa;by_cases aV:S=[]
  ·by_cases bP:N<0
   ·simp [Z,aV,bP]
   ·by_cases dF:(ao.length:Int)=jj 1
    ·by_cases dI:12<depth<;>simp [Z,aV,bP,dF,dI]
    ·simp [Z,aV,bP,dF]
  ·simp [Z,aV]
 ·by_cases aj:N=0
  ·by_cases aD:Op=3
   ·subst aD;cases hn:gC S
    ·simp [Z,aj,hn]
    ·by_cases dF:(ao.length:Int)=jj 3
     ·by_cases dI:12<depth<;>simp [Z,aj,hn,dF,dI]
     ·simp [Z,aj,hn,dF]
   ·by_cases aV:Op=2
    ·subst aV;cases hn:iC S
     ·simp [Z,aj,hn]
     ·by_cases dF:(ao.length:Int)=jj 2
      ·by_cases dI:12<depth<;>simp [Z,aj,hn,dF,dI]
      ·simp [Z,aj,hn,dF]
    ·by_cases bP:S=[]
     ·by_cases dF:(ao.length:Int)=jj Op
      ·by_cases dI:12<depth<;>simp [Z,aa,aj,aD,aV,bP,dF,dI]
      ·simp [Z,aa,aj,aD,aV,bP,dF]
     ·simp [Z,aa,aj,aD,aV,bP]
  ·simp [Z,aa,aj]
def af_{n:Nat}(e:Expr)(depth:Int)(h:e.S.length<n)(aa:25<n)(hs:e.S.length≤140737488351232):Ou n e depth=some (oU e depth):=by
 obtain⟨Op,N,S,ao⟩:=e;simp only at h hs
 simp only [Ou,af9,ai,Dh S h aa (by omega),af2 h (by omega),oU]
 clear aa;by_cases Z:jj Op<0
 ·simp [Z]
 by_cases aa:Op=1
 ·subst aa;by_cases aV:S=[]
  ·by_cases bP:N<0
   ·simp [Z,aV,bP]
   ·by_cases dF:(ao.length:Int)=jj 1
    ·by_cases dI:12<depth<;>simp [Z,aV,bP,dF,dI]
    ·simp [Z,aV,bP,dF]
  ·simp [Z,aV]
 ·by_cases aj:N=0
  ·by_cases aD:Op=3
   ·subst aD;cases hn:gC S
    ·simp [Z,aj,hn]
    ·by_cases dF:(ao.length:Int)=jj 3
     ·by_cases dI:12<depth<;>simp [Z,aj,hn,dF,dI]
     ·simp [Z,aj,hn,dF]
   ·by_cases aV:Op=2
    ·subst aV;cases hn:iC S
     ·simp [Z,aj,hn]
     ·by_cases dF:(ao.length:Int)=jj 2
      ·by_cases dI:12<depth<;>simp [Z,aj,hn,dF,dI]
      ·simp [Z,aj,hn,dF]
    ·by_cases bP:S=[]
     ·by_cases dF:(ao.length:Int)=jj Op
      ·by_cases dI:12<depth<;>simp [Z,aa,aj,aD,aV,bP,dF,dI]
      ·simp [Z,aa,aj,aD,aV,bP,dF]
     ·simp [Z,aa,aj,aD,aV,bP]
  ·simp [Z,aa,aj]
mutual
def cm:Expr→Nat
 |⟨_,_,S,ao⟩=>30+S.length+jA ao
def jA:List Expr→Nat
 |[]=>0
 |x::l=>cm x+1+jA l
end
def pK(e:Expr):cm e=30+e.S.length+jA e.ao:=by cases e;rfl
def Di:∀l:List Expr,l.length≤jA l
 |[]=>Nat.le_refl _
 |x::l=>by have:=Di l;simp only [jA,anc];omega
def Dj:∀(l:List Expr) (i:Nat),i<l.length→cm (l.getD i default)<jA l
 |[],i,h=>by simp at h
 |x::l,0,h=>by simp only [jA,List.getD_cons_zero];omega
 |x::l,i+1,h=>by have:=Dj l i (by simpa using h);simp only [jA,List.getD_cons_succ];omega
def Xg:∀(n:Nat) (e:Expr),cm e≤n→cm e≤140737488351232→vT n e e=some true:=by
 intro n;induction n with
 |zero=>intro e h;rw [pK]at h;omega
 |succ n aF=>
  intro e h ab;have tQ:=pK e;have tR:=Di e.ao;simp only [vT,N1,am8,ana,am_]
  have gD:∀m i,e.ao.length<i+m→i≤e.ao.length→Cy n (vT n) e e m (i:Int)=some true:=by
   intro m;induction m with
   |zero=>intro i Z aa;omega
   |succ m jk=>
    intro i Z aa;simp only [Cy,N0,NZ];by_cases hi:i<e.ao.length
    ·have hg:=Dj e.ao i hi;simp only [hi,b3 hi,anf,ang,am8,am',aM,aF (e.ao.getD i default) (by omega) (by omega),ai,bg (show i≤4611686018427387904 by omega),ana,am_]
     exact jk (i+1) (by omega) (by omega)
    ·simp only [hi,ang,am9,am_]
  exact gD n 0 (by omega) (by omega)
open Go Go.Ab Go.Proofs
def iR(c:UInt8):Bool:=decide (48≤c.toNat)&&decide (c.toNat≤57)
def val(u:Nat)(l:ano):Nat:=l.foldl (λu c=>u*10+(c.toNat-48)) u
def IJ(u:Nat):val u []=u:=rfl
def IK(u:Nat)(c:UInt8)(l:ano):val u (c::l)=val (u*10+(c.toNat-48)) l:=by unfold val;rw [List.foldl_cons]
def Xh(l:ano):∀(u:Nat),u≤val u l:=by
 induction l with
 |nil=>intro u;simp only [IJ,Nat.le_refl]
 |cons c l aF=>
  intro u;rw [IK];have Z:u≤u*10+(c.toNat-48):=by omega
  exact Nat.le_trans Z (aF _)
def tS(c:UInt8):iR c=true↔48≤c.toNat∧c.toNat≤57:=by simp [iR]
def aga(l:ano):∀u,l.all iR=true→Lib.parseUintM 18446744073709551615 u l=(if val u l≤18446744073709551615 then .ok (val u l)else .range)∨18446744073709551615<u:=by
 induction l with
 |nil=>
  intro u _;by_cases h:u≤18446744073709551615
  ·left;rw [IJ,if_pos h];rfl
  ·right;omega
 |cons c l aF=>
  intro u h;simp only [List.all_cons,Bool.and_eq_true,tS]at h;left
  rw [IK];simp only [Lib.parseUintM,h.1,and_self,anm];have hg:=Xh l (u*10+(c.toNat-48));have oV:=aF (u*10+(c.toNat-48)) h.2;generalize val (u*10+(c.toNat-48)) l=w at hg oV ⊢
  by_cases Z:1844674407370955162≤u
  ·rw [if_pos Z,if_neg (by omega)]
  ·rw [if_neg Z];by_cases aa:18446744073709551615<u*10+(c.toNat-48)
   ·rw [if_pos aa,if_neg (by omega)]
   ·rw [if_neg aa];rcases oV with aj|aj
    ·exact aj
    ·exact absurd aj aa
def oW(w:ano):Int×Int:=
 if w.all iR=true∧(w.head? ≠ some 48∨w.length=1) then
  if val 0 w≤9223372036854775807 then(((val 0 w:Nat):Int),0) else(0,3)
 else(0,5)
def Xi(c:UInt8)(l:ano)(h:(c::l).all iR=true):A_ (c::l)=if val 0 (c::l)≤9223372036854775807 then .inl (val 0 (c::l):Nat)else .inr 9223372036854775807:=by
 have hc:48≤c.toNat∧c.toNat≤57:=by
  simp only [List.all_cons,Bool.and_eq_true,tS]at h;exact h.1
 have Z:Lib.parseIntB 64 (c::l)=_:=Lib.parseIntB_plain 64 c l (by omega) (by omega)
 have aa:Lib.parseUintB 64 (c::l)=(if val 0 (c::l)≤18446744073709551615 then .ok (val 0 (c::l))else .range):=by
  unfold Lib.parseUintB;rw [if_neg (by simp)]
  rcases aga (c::l) 0 h with aj|aj
  ·exact aj
  ·omega
 have aD:Lib.intSat 64 (c::l)=9223372036854775807:=by rw [Lib.intSat_other 64 c l (by omega)];rfl
 rw [aa]at Z;unfold A_;rw [Z,aD];by_cases aV:val 0 (c::l)≤18446744073709551615
 ·rw [if_pos aV];by_cases bP:val 0 (c::l)≤9223372036854775807
  ·rw [if_pos bP];simp only [Lib.signlessC];rw [if_neg (by omega)]
  ·rw [if_neg bP];simp only [Lib.signlessC];rw [if_pos (by omega)]
 ·rw [if_neg aV,if_neg (by omega)];rfl
def agb{c:UInt8}(h:48≤c.toNat∧c.toNat≤57):IntKind.u8.wrap (((c.toNat:Nat):Int)-48)=((c.toNat-48:Nat):Int):=by rw [IntKind.wrap_u8];omega
def Xj{x:Nat}(h:x≤18446744073709551615):IntKind.u64.wrap (x:Int)=x:=by rw [IntKind.wrap_u64];omega
def agc{x:Nat}(h:x≤9223372036854775807):anq (x:Int)=x:=by(try unfold anq);rw [IntKind.wrap_i64];omega
def agd(n:Nat)(s:ano)(hs:s.length≤4611686018427387904)(hd:s.all iR=true)(h0:s.head? ≠ some 45):
 ∀(m i u:Nat),s.length<i+m→i≤s.length→u≤9223372036854775807→H8 n s s 9223372036854775807 m (u:Int) (i:Int)=some (if val u (s.drop i)≤9223372036854775807 then(((val u (s.drop i):Nat):Int),(0:Int)) else(0,3)):=by
 intro m;induction m with
 |zero=>intro i u h aa;omega
 |succ m aF=>
  intro i u hm hi hu;simp only [H8,VC];by_cases h:i<s.length
  ·have hc:48≤(s.getD i 0).toNat∧(s.getD i 0).toNat≤57:=by
    rw [←tS];have:=List.all_eq_true.1 hd s[i] (List.getElem_mem h)
    simpa [List.getD,h]using this
   have ak:=Xh (s.drop (i+1)) (u*10+((s.getD i 0).toNat-48));rw [eS s i 0 h,bg (by omega),IK]
   simp only [h,b3 h,anf,ang,am8,am',aM,agb hc];rw [Xj (show(s.getD i 0).toNat-48≤18446744073709551615 by omega)]
   have e1:IntKind.u64.wrap (9223372036854775807-(((s.getD i 0).toNat-48:Nat):Int))=((9223372036854775807-((s.getD i 0).toNat-48):Nat):Int):=by rw [IntKind.wrap_u64];omega
   have e2:IntKind.u64.wrap (Int.tdiv ((9223372036854775807-((s.getD i 0).toNat-48):Nat):Int) 10)=(((9223372036854775807-((s.getD i 0).toNat-48)) / 10:Nat):Int):=by
    rw [show(Int.tdiv ((9223372036854775807-((s.getD i 0).toNat-48):Nat):Int) 10)=(((9223372036854775807-((s.getD i 0).toNat-48)) / 10:Nat):Int)from rfl]
    exact Xj (by omega)
   rw [e1,e2];simp only [ang];by_cases aj:(9223372036854775807-((s.getD i 0).toNat-48)) / 10<u
   ·simp only [aj,am8,am'];rw [if_neg (by omega)]
   ·simp only [aj,am9,am_]
    have e3:IntKind.u64.wrap (IntKind.u64.wrap ((u:Int)*10)+(((s.getD i 0).toNat-48:Nat):Int))=((u*10+((s.getD i 0).toNat-48):Nat):Int):=by
     rw [IntKind.wrap_u64,IntKind.wrap_u64];omega
    rw [e3];exact aF (i+1) _ (by omega) (by omega) (by omega)
  ·rw [gi s i h,IJ];simp only [h,ang,am9,am_,hu,anm,VB]
   have:(bif (decide (0<((s.length:Nat):Int))) then(decide ((((s.getD 0 0).toNat:Nat):Int)=45))else false)=false:=by
    cases s with
    |nil=>rfl
    |cons c l=>
     simp only [List.head?_cons,ne_eq,Option.some.injEq]at h0;simp only [List.getD_cons_zero,fi];have:¬ c.toNat=45:=λe=>h0 (UInt8.toNat_inj.1 e)
     simp [this]
   rw [this];simp only [am_,agc hu]
def age(n:Nat)(s:ano)(hs:s.length≤4611686018427387904):∀m i,s.length<i+m→i≤s.length→CQ n s m (i:Int)=some ((s.drop i).all iR&&decide (0<s.length)&&(!decide (s.head? = some 48)||decide (s.length=1))):=by
 intro m;induction m with
 |zero=>intro i h aa;omega
 |succ m aF=>
  intro i hm hi;simp only [CQ,Vz,Vy];by_cases h:i<s.length
  ·rw [eS s i 0 h,bg (by omega),aF (i+1) (by omega) (by omega)]
   simp only [h,b3 h,anf,ang,am8,am',aM,anl,List.all_cons,qM,f',eo];cases hd:iR (s.getD i 0)
   ·have:(decide ((s.getD i 0).toNat<48)||decide (57<(s.getD i 0).toNat))=true:=by
     have:¬ (48≤(s.getD i 0).toNat∧(s.getD i 0).toNat≤57):=λx=>by rw [(tS _).2 x]at hd;cases hd
     by_cases Z:(s.getD i 0).toNat<48
     ·simp only [Z,am8,Bool.true_or]
     ·simp only [show 57<(s.getD i 0).toNat by omega,am8,anl]
    rw [this];rfl
   ·have Z:=(tS _).1 hd
    have:(decide ((s.getD i 0).toNat<48)||decide (57<(s.getD i 0).toNat))=false:=by
     simp only [show¬ (s.getD i 0).toNat<48 by omega,show¬ 57<(s.getD i 0).toNat by omega,am9,Bool.or_self]
    rw [this];simp only [am_,Bool.true_and]
  ·rw [gi s i h];cases s with
   |nil=>
    simp only [ane,ang,Nat.not_lt_zero,am9,am_];rfl
   |cons c l=>
    rw [anc]at h;simp only [h,am9,am_,ang,anc,f',show 0<l.length+1 by omega,am8,ana,Bool.false_or,lI (show 0<l.length+1 by omega),aM,am',List.getD_cons_zero,fi,List.all_nil,Bool.true_and,List.head?_cons,Option.some.injEq,eo]
    have:decide (c.toNat=48)=decide (c=48):=by
     rw [decide_eq_decide];exact⟨λe=>UInt8.toNat_inj.1 e,λe=>by subst e;rfl⟩
    rw [this]
def agf{n:Nat}(c:UInt8)(l:ano)(h:l.length+1<n)(hs:l.length+1≤4611686018427387904)(hc:c.toNat≠45):OX n (c::l)=some (oW (c::l)):=by
 unfold OX OW VA;have hd:=age n (c::l) hs n 0 (by simp only [anc];omega) (by omega)
 have PA:(bif (decide (0<(((c::l).length:Nat):Int))) then(decide (((((c::l).getD 0 0).toNat:Nat):Int)=45))else false)=false:=by
  simp only [List.getD_cons_zero,fi,hc,am9];cases decide (0<(((c::l).length:Nat):Int))<;>rfl
 have hd:CQ n (c::l) n 0=_:=hd;have hin:(!(decide ((0:Int)<(((c::l).length:Nat):Int)))||aH 0 (c::l).length)=true:=by rw [lI (show 0<(c::l).length by simp)];simp only [anl]
 rw [PA,hd,hin];simp only [anb,anc,lI (show 0<l.length+1 by omega),anl,aM,am_,ai,List.drop_zero,show(0<l.length+1)=True by simp,am8,Bool.and_true]
 unfold oW;by_cases Z:(c::l).all iR=true∧((c::l).head? ≠ some 48∨(c::l).length=1)
 ·rw [if_pos Z]
  have:((c::l).all iR&&(!decide ((c::l).head? = some 48)||decide (l.length+1=1)))=true:=by
   rw [Z.1];rcases Z.2 with aa|aa
   ·simp only [aa,am9,anb,Bool.true_or,Bool.and_self]
   ·simp only [show l.length+1=1 from aa,am8,anl,Bool.and_self]
  rw [this]
  have bh:(c::l).head? ≠ some 45:=by
   intro e;simp only [List.head?_cons,Option.some.injEq]at e;subst e;exact hc rfl
  have:=agd n (c::l) hs Z.1 bh n 0 0 (by simp only [anc];omega) (by omega) (by omega)
  simpa using this
 ·rw [if_neg Z]
  have:((c::l).all iR&&(!decide ((c::l).head? = some 48)||decide (l.length+1=1)))=false:=by
   cases aa:(c::l).all iR
   ·rfl
   ·by_cases aj:(c::l).head? = some 48
    ·by_cases aD:l.length+1=1
     ·exact absurd ⟨aa,Or.inr aD⟩ Z
     ·simp only [aj,aD,am8,am9,ana,Bool.or_self,Bool.and_false]
    ·exact absurd ⟨aa,Or.inl aj⟩ Z
  rw [this];rfl
open Go Go.Ab Go.Proofs
def dl(l:ano):Nat:=(l.takeWhile iR).length
def PB(c:UInt8)(l:ano):dl (c::l)=bif iR c then dl l+1 else 0:=by
 unfold dl;cases h:iR c<;>simp [List.takeWhile,h]
def agh(l:ano):dl l≤l.length:=by unfold dl;exact(List.takeWhile_prefix _).length_le
def Xk(l:ano):dl l=l.length↔l.all iR=true:=by
 induction l with
 |nil=>simp [dl]
 |cons c l aF=>
  rw [PB];cases h:iR c
  ·simp [h]
  ·simp [h,aF]
def agi(n:Nat)(s:ano)(b:Bool)(hs:s.length≤4611686018427387904):∀m i,s.length<i+m→i≤s.length→yz n s s b m (i:Int)=B8 n s s b ((i+dl (s.drop i):Nat):Int):=by
 intro m;induction m with
 |zero=>intro i h aa;omega
 |succ m aF=>
  intro i hm hi;simp only [yz,Ns];by_cases h:i<s.length
  ·rw [eS s i 0 h,bg (by omega),aF (i+1) (by omega) (by omega),PB]
   simp only [h,b3 h,anf,ang,am8,am',aM,sb,nn,eT];rw [show(decide (48≤(s.getD i 0).toNat)&&decide ((s.getD i 0).toNat≤57))=iR (s.getD i 0)from rfl]
   cases iR (s.getD i 0)
   ·rfl
   ·simp only [am'];rw [show i+1+dl (s.drop (i+1))=i+(dl (s.drop (i+1))+1)by omega]
  ·rw [gi s i h];simp only [h,ang,am9,am_];rfl
def agj{n:Nat}{s:ano}(h:s.length≤281474976710656):xI n s 10 64=some (A_ s):=by
 unfold xI;rw [decide_eq_true (show(10:Int)=10∧(64:Int)=64∧s.length≤281474976710656 from⟨rfl,rfl,h⟩)]
 rfl
def agk{n:Nat}(c:UInt8)(l:ano)(h:l.length+1<n)(hs:l.length+1≤140737488351232)(hc:iR c=true):G0 n (c::l)=some (oW (c::l)):=by
 have lq:=(tS c).1 hc;have dj:¬ c.toNat=45:=by omega
 unfold G0 GZ
 have PA:(bif (decide (0<(((c::l).length:Nat):Int))) then(decide (((((c::l).getD 0 0).toNat:Nat):Int)=45))else false)=false:=by
  simp only [List.getD_cons_zero,fi,dj,am9];cases decide (0<(((c::l).length:Nat):Int))<;>rfl
 have hin:(!(decide ((0:Int)<(((c::l).length:Nat):Int)))||aH 0 (c::l).length)=true:=by rw [lI (show 0<(c::l).length by simp)];simp only [anl]
 have gD:=agi n (c::l) false (by simp only [anc];omega) n 0 (by simp only [anc];omega) (by omega)
 have gD:yz n (c::l) (c::l) false n 0=_:=gD;rw [PA,hin,gD];simp only [aM,am_,List.drop_zero,Nat.zero_add];have Z:1≤dl (c::l):=by rw [PB,hc];simp
 have hlen:(c::l).length=l.length+1:=rfl;have hle:=agh (c::l);unfold B8;simp only [lI (show 0<(c::l).length by simp),anl,aM,fi,show¬ dl (c::l)=0 by omega,am9,am_,ang,List.getD_cons_zero,f',eo]
 unfold oW;by_cases ha:(c::l).all iR=true
 ·have hd:=(Xk _).2 ha;simp only [hd,Nat.lt_irrefl,am9,Bool.false_or,ha,true_and];by_cases PC:c=48
  ·subst PC;by_cases eJ:l=[]
   ·subst eJ;simp only [List.head?_cons,anc,ane];rw [if_pos (by simp)]
    simp only [xI,Xi _ _ ha];rw [if_pos (by decide)]
    rfl
   ·have:1<((48::l:ano)).length:=by
     cases l with
     |nil=>exact absurd rfl eJ
     |cons _ _=>simp
    simp only [this,am8,am'];rw [if_neg (by simp [eJ])]
    rfl
  ·have agl:¬ c.toNat=48:=λe=>PC (UInt8.toNat_inj.1 e)
   simp only [agl,am9,am_];rw [if_pos (show(c::l).head? ≠ some 48∨(c::l).length=1 from Or.inl (by simpa using PC))]
   rw [agj (by simp only [anc];omega),Xi _ _ ha]
   by_cases am:val 0 (c::l)≤9223372036854775807
   ·rw [if_pos am,if_pos am];rfl
   ·rw [if_neg am,if_neg am];rfl
 ·have hd:dl (c::l)<(c::l).length:=by
   have:¬ dl (c::l)=(c::l).length:=λe=>ha ((Xk _).1 e)
   omega
  simp only [hd,am8,Bool.true_or,am'];rw [if_neg (λx=>ha x.1)]
def oX(w:ano):Token×Int:=
 match w with
 |[]=>(⟨0,[],0,0⟩,0)
 |c::_=>
  if n7 c=true then
   if tP w=true then(⟨2,w,0,0⟩,0)else if gC w=true then(⟨1,w,0,0⟩,0) else(⟨0,[],0,0⟩,2)
  else if(oW w).2=0 then(⟨3,[],(oW w).1,0⟩,0) else(⟨0,[],0,0⟩,(oW w).2)
def agm{n:Nat}(c:UInt8)(l:ano)(h:l.length+1<n)(hs:l.length+1≤140737488351232)(hw:hO c=true):G1 n (c::l)=some (oX (c::l)):=by
 unfold G1 oX;simp only [lI (show 0<(c::l).length by simp),aM,List.getD_cons_zero,fi,Xc,ai,Xa,y_ _ _ (show(c::l).length≤140737488351232 from hs)]
 by_cases Z:c.toNat=95
 ·have e:c=95:=UInt8.toNat_inj.1 Z;subst e
  have agn:oW (95::l)=(0,5):=by
   unfold oW;rw [if_neg (by simp [show iR 95=false from rfl])]
  simp only [Z,am8,am'];rw [if_neg (by decide),agn]
  rfl
 ·simp only [Z,am9,am_];cases ab:n7 c
  ·have hd:iR c=true:=by
    unfold hO at hw;have hw:=of_decide_eq_true hw;unfold n7 at ab;rw [tS];simp only [Bool.and_eq_false_iff,decide_eq_false_iff_not]at ab;omega
   simp only [am_,agk c l h hs hd,ai,Bool.false_eq_true,ann];by_cases aV:(oW (c::l)).2=0
   ·simp only [aV,am8,ana,am_,anm]
   ·simp only [aV,am9,anb,am',ann]
  ·simp only [am',anm];cases tP (c::l)
   ·cases gC (c::l)<;>rfl
   ·rfl
def ago{n:Nat}(c:UInt8)(l:ano)(h:l.length+1<n)(aa:25<n)(hs:l.length+1≤140737488351232)(hw:hO c=true):OY n (c::l)=some (oX (c::l)):=by
 unfold OY oX
 have hc:c.toNat≠45:=by
  unfold hO at hw;have hw:=of_decide_eq_true hw;omega
 simp only [lI (show 0<(c::l).length by simp),aM,List.getD_cons_zero,fi,Pz,ai,Xb _ aa,Dh (c::l) h aa (show(c::l).length≤4611686018427387904 by simp only [anc];omega),agf c l h (by omega) hc]
 cases ab:n7 c
 ·simp only [am_,ai,Bool.false_eq_true,ann];by_cases aV:(oW (c::l)).2=0
  ·simp only [aV,am8,ana,am_,anm]
  ·simp only [aV,am9,anb,am',ann]
 ·simp only [am',anm];cases tP (c::l)
  ·cases gC (c::l)<;>rfl
  ·rfl
open Go Go.Ab Go.Proofs
def up(k:Nat):Int ⊕ (ano×Nat)→Int ⊕ (ano×Nat)
 |.inl e=>.inl e
 |.inr p=>.inr (p.1,p.2+k)
def fj:ano→ano→Int ⊕ (ano×Nat)
 |[],acc=>.inl 6
 |[c],acc=>if c.toNat=34 then .inr (acc,1)else if c.toNat=92 then .inl 6 else if okB c=false then .inl 5 else if acc.length=64 then .inl 2 else .inl 6
 |c::d::l,acc=>
  if c.toNat=34 then .inr (acc,1)
  else if c.toNat=92 then
   if d.toNat≠34∧d.toNat≠92 then .inl 5 else if acc.length=64 then .inl 2 else up 2 (fj l (acc++[d]))
  else if okB c=false then .inl 5
  else if acc.length=64 then .inl 2
  else up 1 (fj (d::l) (acc++[c]))
def fq(l:ano):List Int:=l.map λc=>((c.toNat:Nat):Int)
def PD(l:ano):jP (fq l)=l:=by
 unfold jP fq;rw [List.map_map]
 conv=>rhs;rw [←List.map_id l]
 refine List.map_congr_left λc _=>?_
 simp
def PE(l:ano):mZ (fq l)=true:=by
 unfold mZ fq;rw [List.all_eq_true];intro x hx;obtain⟨c,_,rfl⟩:=List.mem_map.1 hx;have:=c.toNat_lt
 simp only [Bool.and_eq_true,decide_eq_true_eq];omega
def IL(l:ano):(fq l).length=l.length:=by simp [fq]
def PF(l:ano)(c:UInt8):fq l++[((c.toNat:Nat):Int)]=fq (l++[c]):=by simp [fq]
def wk(z:Int)(i:Nat):Int ⊕ (ano×Nat)→ano×Int×Int
 |.inl e=>([],z,e)
 |.inr p=>(p.1,((i+p.2:Nat):Int),0)
def IM(z:Int)(i k:Nat)(r:Int ⊕ (ano×Nat)):wk z i (up k r)=wk z (i+k) r:=by
 cases r with
 |inl e=>rfl
 |inr p=>simp only [up,wk];rw [show i+(p.2+k)=i+k+p.2 by omega]
def Xl{k:Nat}(h:k≤65):room k 1=true:=by simp [room];omega
def IN(c:UInt8)(l acc:ano)(h:c.toNat≠92):fj (c::l) acc=if c.toNat=34 then .inr (acc,1)else if okB c=false then .inl 5 else if acc.length=64 then .inl 2 else up 1 (fj l (acc++[c])):=by
 cases l with
 |nil=>
  simp only [fj];by_cases Z:c.toNat=34
  ·simp only [Z,anm]
  ·simp only [Z,h,ann,up]
 |cons d l =>
  simp only [fj];by_cases Z:c.toNat=34
  ·simp only [Z,anm]
  ·simp only [Z,h,ann]
def agp{d:UInt8}(h:¬ (d.toNat≠34∧d.toNat≠92)):okB d=true:=by
 unfold okB;simp only [Bool.and_eq_true,decide_eq_true_eq];omega
def Xm(p:Prop)[Decidable p]:(!decide p)=decide (¬ p):=by by_cases h:p<;>simp [h]
def agq(n:Nat)(s:ano)(hs:s.length≤4611686018427387904):∀(m i:Nat) (acc:ano),s.length<i+m→i≤s.length→acc.length≤64→
 yy n s m (fq acc) (i:Int)=some (wk 0 i (fj (s.drop i) acc)):=by
 intro m;induction m with
 |zero=>intro i acc h aa;omega
 |succ m aF=>
  intro i acc hm hi ha;simp only [yy,Np,GX,No,GW];by_cases h:i<s.length
  ·rw [eS s i 0 h,bg (by omega)]
   simp only [h,b3 h,anf,ang,Int.ofNat_inj,am8,am',aM,qM,f',fi,eo,y9,IL];generalize hc:s.getD i 0=c
   by_cases f_:c.toNat=34
   ·simp only [f_,am8,am',PE,aM,PD];rw [IN c _ _ (by omega),if_pos f_]
    rfl
   ·by_cases l4:c.toNat=92
    ·simp only [l4,am8,am',show¬ (92=34)by omega,am9,am_]
     by_cases Dk:i+1=s.length
     ·simp only [Dk,am8,am'];rw [gi s s.length (by omega)]
      simp only [fj,f_,ann,l4,anm];rfl
     ·have cq:i+1<s.length:=by omega
      rw [eS s (i+1) 0 cq,bg (by omega)]
      simp only [Dk,am9,am_,b3 cq,aM];generalize s.getD (i+1) 0=d
      simp only [fj,f_,ann,l4,anm,eT,Xm,show¬ (92=34)by omega]
      by_cases hd:d.toNat≠34∧d.toNat≠92
      ·rw [if_pos hd];simp only [hd.1,hd.2,am8,not_false_eq_true,Bool.and_self,am'];rfl
      ·rw [if_neg hd];have:(decide (¬ d.toNat=34)&&decide (¬ d.toNat=92))=false:=by rw [←Bool.decide_and];exact decide_eq_false hd
       simp only [this,am_,agp hd,ana];by_cases n8:acc.length=64
       ·simp only [n8,am8,am',anm];rfl
       ·simp only [n8,am9,am_,ann,anc,ane,Xl (show acc.length+(0+1)≤65 by omega),aM,PF]
        rw [aF (i+1+1) (acc++[d]) (by omega) (by omega) (by simp only [anh,anc,ane];omega),IM]
    ·simp only [f_,l4,am9,am_];rw [IN c _ _ l4,if_neg f_];cases dD:okB c
     ·simp only [anb,am',anm];rfl
     ·simp only [ana,am_,ann,Bool.true_eq_false];by_cases n8:acc.length=64
      ·simp only [n8,am8,am',anm];rfl
      ·simp only [n8,am9,am_,ann,anc,ane,Xl (show acc.length+(0+1)≤65 by omega),aM,PF]
       rw [aF (i+1) (acc++[c]) (by omega) (by omega) (by simp only [anh,anc,ane];omega),IM]
  ·rw [gi s i h];simp only [h,ang,am9,am_];rfl
def PG{k:Nat}(h:k≤9223372036854775807):bM k=true:=by simp [bM];omega
def Xn(s:ano)(i:Nat)(h:i<s.length):(s.take (i+1)).drop i=[s.getD i 0]:=by
 rw [eS (s.take (i+1)) i 0 (by simp;omega),gi _ _ (by simp;omega)]
 simp [List.getD,h]
def agr(n:Nat)(s:ano)(hs:s.length≤4611686018427387904):∀(m i:Nat) (acc:ano),s.length<i+m→i≤s.length→acc.length≤64→
 ∃z,H9 n s m (i:Int) acc=some (wk z i (fj (s.drop i) acc)):=by
 intro m;induction m with
 |zero=>intro i acc h aa;omega
 |succ m aF=>
  intro i acc hm hi ha;simp only [H9,VE,OZ,VD];by_cases h:i<s.length
  ·rw [eS s i 0 h,bg (by omega)]
   simp only [h,b3 h,anf,ang,Int.ofNat_inj,am8,am',aM,qM,f',fi,eo,y9,IL,Dg (Nat.le_succ i) h,Xn s i h];generalize hc:s.getD i 0=c
   by_cases f_:c.toNat=34
   ·simp only [f_,am8,am'];rw [IN c _ _ (by omega),if_pos f_]
    exact⟨0,rfl⟩
   ·by_cases l4:c.toNat=92
    ·simp only [l4,am8,am',show¬ (92=34)by omega,am9,am_]
     by_cases Dk:i+1=s.length
     ·simp only [Dk,am8,am'];rw [gi s s.length (by omega)]
      simp only [fj,f_,ann,l4,anm];exact⟨_,rfl⟩
     ·have cq:i+1<s.length:=by omega
      rw [eS s (i+1) 0 cq,bg (by omega)]
      simp only [Dk,am9,am_,b3 cq,aM,anl,anf,Xn s (i+1) cq,Dg (Nat.le_succ (i+1)) cq];generalize s.getD (i+1) 0=d
      simp only [fj,f_,ann,l4,anm,eT,Xm,show¬ (92=34)by omega]
      by_cases hd:d.toNat≠34∧d.toNat≠92
      ·rw [if_pos hd];simp only [hd.1,hd.2,am8,not_false_eq_true,Bool.and_self,am'];exact⟨_,rfl⟩
      ·rw [if_neg hd];have:(decide (¬ d.toNat=34)&&decide (¬ d.toNat=92))=false:=by rw [←Bool.decide_and];exact decide_eq_false hd
       simp only [this,am_];by_cases n8:acc.length=64
       ·simp only [n8,am8,am',anm];exact⟨_,rfl⟩
       ·simp only [n8,am9,am_,ann,anc,ane,PG (show acc.length+(0+1)≤9223372036854775807 by omega),aM]
        obtain⟨z,cx⟩:=aF (i+1+1) (acc++[d]) (by omega) (by omega) (by simp only [anh,anc,ane];omega)
        exact⟨z,by rw [cx,IM]⟩
    ·simp only [f_,l4,am9,am_];rw [IN c _ _ l4,if_neg f_];cases dD:okB c
     ·simp only [anb,am',anm];exact⟨_,rfl⟩
     ·simp only [ana,am_,ann,Bool.true_eq_false];by_cases n8:acc.length=64
      ·simp only [n8,am8,am',anm];exact⟨_,rfl⟩
      ·simp only [n8,am9,am_,ann,anc,ane,PG (show acc.length+(0+1)≤9223372036854775807 by omega),aM]
       obtain⟨z,cx⟩:=aF (i+1) (acc++[c]) (by omega) (by omega) (by simp only [anh,anc,ane];omega)
       exact⟨z,by rw [cx,IM]⟩
  ·rw [gi s i h];simp only [h,ang,am9,am_];exact⟨_,rfl⟩
open Go Go.Ab Go.Proofs
def two:List ano:=[[61,61],[33,61],[60,61],[62,61],[43,43]]
def sc:ano:=[40,41,123,125,44,59,58,61,60,62,43,45,42,47,37]
def marks:List ano:=two++sc.map λc=>[c]
def kq(l w:ano):Bool:=decide (w.length≤l.length∧l.take w.length=w)
def l5(l:ano):ano:=(marks.find? (kq l)).getD []
def find_eq{α β:Type}[DecidableEq β](x:β)(p:α→Bool)(f:α→β)(L:List α)(h:∀w,w∈L→p w=decide (x=f w))(bJ:∀v w,v∈L→w∈L→f v=f w→v=w):
 (∃v,v∈L∧x=f v∧L.find? p=some v)∨((∀v,v∈L→x≠f v)∧L.find? p=none):=by
 cases ak:L.find? p with
 |none=>
  right
  rw [List.find?_eq_none]at ak;refine⟨λv am e=>ak v am ?_,rfl⟩
  rw [h v am];exact decide_eq_true e
 |some v=>
  left
  have am:=List.mem_of_find?_eq_some ak;have:=List.find?_some ak
  rw [h v am]at this;exact⟨v,am,of_decide_eq_true this,rfl⟩
def ags(a c:UInt8)(t:ano):kq (a::t) [c]=decide (a=c):=by
 unfold kq;rw [decide_eq_decide];simp
def agt(a b:UInt8)(t:ano)(w:ano)(h:w∈two):kq (a::b::t) w=decide ([a,b]=w):=by
 have:w.length=2:=by
  simp only [two,List.mem_cons,List.not_mem_nil,or_false]at h;rcases h with rfl|rfl|rfl|rfl|rfl<;>rfl
 unfold kq;rw [decide_eq_decide,this];simp
def agu(a:UInt8)(w:ano)(h:w∈two):kq [a] w=false:=by
 have:w.length=2:=by
  simp only [two,List.mem_cons,List.not_mem_nil,or_false]at h;rcases h with rfl|rfl|rfl|rfl|rfl<;>rfl
 unfold kq;rw [this];simp
def Xo(a:UInt8)(t:ano):((sc.map λc=>[c]).find? (kq (a::t))).getD []=if a∈sc then[a] else[]:=by
 rw [List.find?_map];have Z:((λw=>kq (a::t) w)∘λc=>[c])=λc=>decide (a=c):=by funext c;exact ags a c t
 have Z:(kq (a::t)∘λc=>[c])=λc=>decide (a=c):=Z
 rw [Z];rcases find_eq a (λc=>decide (a=c)) (λc=>c) sc (λ_ _=>rfl) (λ_ _ _ _ e=>e) with⟨v,am,rfl,aa⟩|⟨hn,aa⟩
 ·rw [aa,if_pos am];rfl
 ·rw [aa,if_neg λhm=>hn a hm rfl];rfl
def agv(a b:UInt8)(t:ano):l5 (a::b::t)=if[a,b]∈two then[a,b]else if a∈sc then[a] else[]:=by
 unfold l5 marks;rw [List.find?_append];rcases find_eq [a,b] (kq (a::b::t)) (λc=>c) two (λw hw=>agt a b t w hw) (λ_ _ _ _ e=>e) with⟨v,am,rfl,aa⟩|⟨hn,aa⟩
 ·rw [aa,if_pos am];rfl
 ·rw [aa,if_neg λhm=>hn _ hm rfl]
  exact Xo a (b::t)
def agw(a:UInt8):l5 [a]=if a∈sc then[a] else[]:=by
 unfold l5 marks;rw [List.find?_append]
 have:two.find? (kq [a])=none:=by
  rw [List.find?_eq_none];intro w hw;rw [agu a w hw];exact Bool.false_ne_true
 rw [this];exact Xo a []
def Xp(a:UInt8):∀l:ano,Lib.indexByte l a = -1∧a∉l∨0≤Lib.indexByte l a∧a∈l
 |[]=>Or.inl ⟨rfl,by simp⟩
 |b::l=>by
  unfold Lib.indexByte;by_cases h:b=a
  ·subst h;right;simp
  ·have cq:(b == a)=false:=by simp [h]
   rw [cq];simp only [Bool.false_eq_true,ann];rcases Xp a l with⟨Z,aa⟩|⟨Z,aa⟩
   ·left
    rw [Z];refine⟨rfl,?_⟩
    simp only [List.mem_cons,not_or];exact⟨λe=>h e.symm,aa⟩
   ·right
    have:(Lib.indexByte l a == -1)=false:=by
     simp only [beq_eq_false_iff_ne,ne_eq];omega
    rw [this];simp only [Bool.false_eq_true,ann];exact⟨by omega,List.mem_cons_of_mem _ aa⟩
def agx(a:UInt8):(((a.toNat:Nat):Int)).toNat.toUInt8=a:=by
 (simp only [anf]);exact UInt8.ofNat_toNat
def Xq(n:Nat)(a:UInt8)(t:ano):B7 n (a::t)=some (if a∈sc then[a] else[]):=by
 unfold B7 Nr Fw;simp only [reduceCtorEq,am9,anb,lI (show 0<(a::t).length by simp),anl,aM,am',ai,List.getD_cons_zero,agx]
 rw [show([40,41,123,125,44,59,58,61,60,62,43,45,42,47,37]:ano)=sc from rfl]
 rcases Xp a sc with⟨Z,aa⟩|⟨Z,aa⟩
 ·rw [Z,if_neg aa];rfl
 ·rw [if_pos aa];have hu:gG 1 (a::t).length=true:=y8 (i:=1) (show 1≤(a::t).length by simp)
  simp only [Z,am8,am',hu,aM,List.take_succ_cons,List.take_zero]
def agy(n:Nat)(a:UInt8)(t:ano):GY n (a::t)=some (l5 (a::t)):=by
 unfold GY;cases t with
 |nil=>
  rw [agw];exact Xq n a []
 |cons b t=>
  rw [agv];have aa:decide ((2:Int)≤(((a::b::t).length:Nat):Int))=true:=decide_eq_true (by simp only [anc];omega)
  have hu:gG 2 (a::b::t).length=true:=y8 (i:=2) (show 2≤(a::b::t).length by simp)
  simp only [aa,am',hu,aM,vN,Xq];rw [show(a::b::t).take 2=[a,b]from rfl]
  generalize [a,b]=w
  by_cases h:w∈two
  ·rw [if_pos h];simp only [two,List.mem_cons,List.not_mem_nil,or_false]at h;rcases h with rfl|rfl|rfl|rfl|rfl<;>rfl
  ·rw [if_neg h];simp only [two,List.mem_cons,List.not_mem_nil,or_false,not_or]at h;simp only [h,am9,am_]
def agz(n:Nat):Vx n=some marks:=rfl
def PH(w:ano)(h:w∈marks):1≤w.length∧w.length≤2:=by
 have:∀w,w∈marks→decide (1≤w.length∧w.length≤2)=true:=by decide
 exact of_decide_eq_true (this w h)
def agA(i:Nat):Option ano→Token×Int×Int
 |none=>(⟨0,[],0,0⟩,(i:Int),5)
 |some w=>(⟨5,w,0,0⟩,((i+w.length:Nat):Int),0)
def Xr(s:ano)(i k:Nat):(s.take (i+k)).drop i=(s.drop i).take k:=by
 rw [List.drop_take];congr 1;omega
def agB(n:Nat)(s:ano)(at_:Nat)(L:List ano)(hs:s.length≤4611686018427387904)(ha:at_≤s.length)(cT:L.length≤100)(hw:∀w,w∈L→w.length≤2):
 ∀m i,L.length<i+m→i≤L.length→CR n s (at_:Int) L m (i:Int)=some (agA at_ ((L.drop i).find? (kq (s.drop at_)))):=by
 intro m;induction m with
 |zero=>intro i h aa;omega
 |succ m aF=>
  intro i hm hi;simp only [CR,VH,VG];by_cases h:i<L.length
  ·(rw [eS L i default h,bg (by omega),aF (i+1) (by omega) (by omega)];simp only [anf])
   have wl:(L.getD i default).length≤2:=hw _ (by simp [List.getD,h])
   generalize L.getD i default=w at wl
   simp only [h,b3 h,ang,am8,am',aM,anl];have e1:anq ((at_:Int)+((w.length:Nat):Int))=((at_+w.length:Nat):Int):=by rw [wr]<;>omega
   simp only [e1,anf,Xr,Int.ofNat_le];by_cases Z:at_+w.length≤s.length
   ·simp only [Z,am8,ana,Bool.false_or,Dg (Nat.le_add_right at_ w.length) Z,aM,am'];by_cases aa:(s.drop at_).take w.length=w
    ·have:kq (s.drop at_) w=true:=decide_eq_true ⟨by simp;omega,aa⟩
     simp only [aa,am8,am',List.find?_cons,this];rfl
    ·have:kq (s.drop at_) w=false:=decide_eq_false λx=>aa x.2
     simp only [aa,am9,am_,List.find?_cons,this]
   ·have:kq (s.drop at_) w=false:=decide_eq_false λx=>by have:=x.1;simp at this;omega
    simp only [Z,am9,anb,Bool.true_or,aM,am_,List.find?_cons,this]
  ·rw [gi L i h];simp only [h,ang,am9,am_];rfl
open Go Go.Ab Go.Proofs
def za:Int ⊕ (ano×Nat)→Token×Nat×Int
 |.inl e=>(⟨4,[],0,0⟩,0,e)
 |.inr p=>(⟨4,p.1,0,0⟩,p.2+1,0)
def fG(l:ano):Token×Nat×Int:=
 match l with
 |[]=>(⟨0,[],0,0⟩,0,0)
 |c::t=>
  if hO c=true then((oX ((c::t).take (gg (c::t)))).1,gg (c::t),(oX ((c::t).take (gg (c::t)))).2)
  else if c.toNat=34 then za (fj t [])
  else if l5 (c::t)=[] then(⟨0,[],0,0⟩,0,5) else(⟨5,l5 (c::t),0,0⟩,(l5 (c::t)).length,0)
def zb:∀(l acc:ano) (e:Int),fj l acc = .inl e→e≠0
 |[],acc,e,h=>by simp only [fj,Sum.inl.injEq]at h;omega
 |[c],acc,e,h=>by
  simp only [fj]at h
  (repeat' split at h)<;>simp only [reduceCtorEq,Sum.inl.injEq]at h<;>omega
 |c::d::l,acc,e,h=>by
  simp only [fj]at h;split at h
  ·cases h
  ·split at h
   ·split at h
    ·simp only [Sum.inl.injEq]at h;omega
    ·split at h
     ·simp only [Sum.inl.injEq]at h;omega
     ·cases ak:fj l (acc++[d]) with
      |inl aX=>rw [ak]at h;simp only [up,Sum.inl.injEq]at h;subst h;exact zb l _ _ ak
      |inr p=>rw [ak]at h;cases h
   ·split at h
    ·simp only [Sum.inl.injEq]at h;omega
    ·split at h
     ·simp only [Sum.inl.injEq]at h;omega
     ·cases ak:fj (d::l) (acc++[c]) with
      |inl aX=>rw [ak]at h;simp only [up,Sum.inl.injEq]at h;subst h;exact zb (d::l) _ _ ak
      |inr p=>rw [ak]at h;cases h
def PI:∀(l acc:ano) (p:ano×Nat),fj l acc = .inr p→1≤p.2∧p.2≤l.length∧p.1.length≤acc.length+p.2
 |[],acc,e,h=>by simp only [fj,reduceCtorEq]at h
 |[c],acc,p,h=>by
  simp only [fj]at h;split at h
  ·simp only [Sum.inr.injEq]at h;subst h;simp
  ·(repeat' split at h)<;>simp only [reduceCtorEq]at h
 |c::d::l,acc,p,h=>by
  simp only [fj]at h;split at h
  ·simp only [Sum.inr.injEq]at h;subst h;simp
  ·split at h
   ·split at h
    ·simp only [reduceCtorEq]at h
    ·split at h
     ·simp only [reduceCtorEq]at h
     ·cases ak:fj l (acc++[d]) with
      |inl aX=>rw [ak]at h;simp only [up,reduceCtorEq]at h
      |inr q=>
       rw [ak]at h;simp only [up,Sum.inr.injEq]at h;subst h;have:=PI l _ _ ak
       simp only [anh,anc,ane]at this ⊢;omega
   ·split at h
    ·simp only [reduceCtorEq]at h
    ·split at h
     ·simp only [reduceCtorEq]at h
     ·cases ak:fj (d::l) (acc++[c]) with
      |inl aX=>rw [ak]at h;simp only [up,reduceCtorEq]at h
      |inr q=>
       rw [ak]at h;simp only [up,Sum.inr.injEq]at h;subst h;have:=PI (d::l) _ _ ak
       simp only [anh,anc,ane]at this ⊢;omega
def agC(l:ano):l5 l=[]∨(1≤(l5 l).length∧(l5 l).length≤l.length):=by
 unfold l5;cases h:marks.find? (kq l) with
 |none=>left;rfl
 |some w=>
  right
  have Z:=PH w (List.mem_of_find?_eq_some h);have aa:=List.find?_some h;have:=(of_decide_eq_true aa).1
  exact⟨Z.1,this⟩
def agD(w:ano):(oX w).1.Text.length≤w.length:=by
 cases w with
 |nil=>simp [oX]
 |cons c l=>
  unfold oX;simp only
  (repeat' split)<;>simp
def agE(l:ano)(ab:l≠[])(h:(fG l).2.2=0):1≤(fG l).2.1∧(fG l).2.1≤l.length∧(fG l).1.Text.length≤(fG l).2.1:=by
 cases l with
 |nil=>exact absurd rfl ab
 |cons c t=>
  unfold fG at h ⊢;simp only at h ⊢
  split at h
  ·rename_i hw;rw [if_pos hw];simp only
   have Z:=II (c::t);refine⟨by rw [y',hw];simp,Z,?_⟩
   refine Nat.le_trans (agD _) ?_;simp only [List.length_take];omega
  ·rename_i hw;rw [if_neg hw];split at h
   ·rename_i f_;rw [if_pos f_];cases ak:fj t [] with
    |inl e=>rw [ak]at h;exact absurd h (zb t [] e ak)
    |inr p=>
     have:=PI t [] p ak
     simp only [za,anc,ane]at this ⊢;omega
   ·rename_i f_;rw [if_neg f_];split at h
    ·simp only at h;omega
    ·rename_i hm;rw [if_neg hm];have:=(agC (c::t)).resolve_left hm
     simp only
     exact⟨this.1,this.2,Nat.le_refl _⟩
def Xs(c:UInt8)(t:ano)(h:hO c=true):∃k,gg (c::t)=k+1∧(c::t).take (gg (c::t))=c::t.take k∧k≤t.length:=by
 refine⟨gg t,by rw [y',h];rfl,by rw [y',h];rfl,II t⟩
def agF{c:UInt8}(h:c.toNat=34):hO c=false:=by
 unfold hO;exact decide_eq_false (by omega)
def agG{n:Nat}(c:UInt8)(t:ano)(h:t.length+1<n)(hs:t.length+1≤140737488351232):
 B9 n (c::t)=some ((fG (c::t)).1,(((fG (c::t)).2.1:Nat):Int),(fG (c::t)).2.2):=by
 unfold B9;rw [Xf n (c::t) hs,ai];unfold fG;simp only
 cases hw:hO c
 ·have h0:gg (c::t)=0:=by rw [y',hw];rfl
  rw [h0];simp only [show decide ((0:Int)<((0:Nat):Int))=false from rfl,am_,lI (show 0<(c::t).length by simp),aM,List.getD_cons_zero,fi,Bool.false_eq_true,ann]
  by_cases f_:c.toNat=34
  ·rw [if_pos f_];simp only [f_,am8,am'];unfold Nq;have:=agq n (c::t) (by simp only [anc];omega) n 1 [] (by simp only [anc];omega) (by simp) (by simp)
   rw [show yy n (c::t) n ([]:List Int) 1=_ from this,List.drop_succ_cons,List.drop_zero]
   cases fj t [] with
   |inl e=>rfl
   |inr p=>simp only [wk,za,ai];rw [Nat.add_comm 1 p.2]
  ·rw [if_neg f_];simp only [f_,am9,am_,agy,ai];by_cases hm:l5 (c::t)=[]
   ·rw [if_pos hm];simp only [hm,am8,am'];rfl
   ·rw [if_neg hm];simp only [hm,am9,am_]
 ·obtain⟨k,hk,qN,oG⟩:=Xs c t hw;rw [if_pos rfl];simp only [f',show 0<gg (c::t)by omega,am8,am',y8 (II (c::t)),aM,anf]
  rw [qN,agm c (t.take k) (by simp only [List.length_take];omega) (by simp only [List.length_take];omega) hw]
  rfl
def agH{n:Nat}(s:ano)(i:Nat)(hi:i<s.length)(h:s.length<n)(aa:100<n)(hs:s.length≤140737488351232):
 ∃t z,O0 n s (i:Int)=some (t,z,(fG (s.drop i)).2.2)∧((fG (s.drop i)).2.2=0→t=(fG (s.drop i)).1∧z=((i+(fG (s.drop i)).2.1:Nat):Int)):=by
 unfold O0;have hd:=eS s i 0 hi
 (simp only [anf])
 generalize hc:s.getD i 0=c at hd
 generalize aB:s.drop (i+1)=t at hd
 have Dl:t.length+(i+1)=s.length:=by rw [←aB,List.length_drop];omega
 rw [hd];unfold fG;simp only [b3 hi,aM,fi];by_cases f_:c.toNat=34
 ·simp only [agF f_,Bool.false_eq_true,ann,f_,am8,am',anm];unfold VF;rw [bg (by omega)]
  obtain⟨z,cx⟩:=agr n s (by omega) n (i+1) [] (by omega) (by omega) (by simp)
  rw [cx,aB];cases ak:fj t [] with
  |inl e=>exact⟨_,_,rfl,λbU=>absurd bU (zb _ _ _ ak)⟩
  |inr p=>exact⟨_,_,rfl,λ_=>⟨rfl,by simp only [za,wk];rw [show i+1+p.2=i+(p.2+1)by omega]⟩⟩
 ·simp only [f_,am9,am_,ann,Xd,ai];cases hw:hO c
  ·simp only [am_,Bool.false_eq_true,ann,agz,ai];have:=agB n s i marks (by omega) (by omega) (by decide) (λw hw=>(PH w hw).2) n 0 (by have:marks.length=20:=rfl;omega) (by omega)
   rw [show CR n s (i:Int) marks n 0=_ from this,List.drop_zero,hd]
   unfold l5;cases ak:marks.find? (kq (c::t)) with
   |none=>exact⟨_,_,rfl,λbU=>absurd bU (by decide)⟩
   |some w=>
    have dj:¬ w=[]:=λe=>by have:=(PH w (List.mem_of_find?_eq_some ak)).1;rw [e]at this;simp at this
    simp only [Option.getD_some,dj,ann];exact⟨_,_,rfl,λ_=>⟨rfl,rfl⟩⟩
  ·obtain⟨k,hk,qN,oG⟩:=Xs c t hw;have wl:=II (c::t);simp only [anc]at wl;simp only [am',anm,Xe i h (by omega) (show s.length≤4611686018427387904 by omega),ai,hd,Dg (Nat.le_add_right i (gg (c::t))) (show i+gg (c::t)≤s.length by omega),aM,anf,Xr]
   rw [qN,ago c (t.take k) (by simp only [List.length_take];omega) (by omega) (by simp only [List.length_take];omega) hw]
   exact⟨_,_,rfl,λ_=>⟨rfl,rfl⟩⟩
open Go Go.Ab Go.Proofs
def iD:Bool→ano→Nat
 |_,[]=>0
 |false,c::l=>if c.toNat=35 then 1+iD true l else if c.toNat=32∨c.toNat=9∨c.toNat=10 then 1+iD false l else 0
 |true,c::l=>if c.toNat=10 then 1+iD false l else 1+iD true l
def gp:ano→Nat
 |[]=>0
 |c::l=>if c.toNat=10 then 0 else 1+gp l
def PJ:∀l,gp l≤l.length
 |[]=>Nat.le_refl _
 |c::l=>by have:=PJ l;simp only [gp];split<;>simp only [anc]<;>omega
def PK:∀l,iD true l=gp l+iD false (l.drop (gp l))
 |[]=>rfl
 |c::l=>by
  by_cases h:c.toNat=10
  ·simp only [iD,gp,h,anm,List.drop_zero,Nat.zero_add,show¬ (10=35)by omega,ann,or_true]
  ·simp only [iD,gp,h,ann];rw [PK l,Nat.add_comm 1 (gp l),List.drop_succ_cons];omega
def agI(n:Nat)(s:ano)(al:Int→ant)(hs:s.length≤4611686018427387904):∀m i,s.length<i+m→i≤s.length→H5 n al s m (i:Int)=al ((i+gp (s.drop i):Nat):Int):=by
 intro m;induction m with
 |zero=>intro i h aa;omega
 |succ m aF=>
  intro i hm hi;simp only [H5,Vv];by_cases h:i<s.length
  ·(rw [eS s i 0 h,bg (by omega),aF (i+1) (by omega) (by omega)];simp only [anf])
   generalize s.getD i 0=c
   simp only [h,b3 h,ang,am8,am',aM,anl,fi,gp];by_cases kH:c.toNat=10
   ·simp only [kH,am8,ana,am_,anm];rfl
   ·simp only [kH,am9,anb,am',ann];rw [show i+(1+gp (s.drop (i+1)))=i+1+gp (s.drop (i+1))by omega]
  ·rw [gi s i h];simp only [h,ang,am9,am_,anb,Bool.true_or,aM];rfl
def agJ(n:Nat)(s:ano)(hs:s.length≤4611686018427387904)(hn:s.length<n):∀m i,s.length<i+m→i≤s.length→H6 n s m (i:Int)=some ((i+iD false (s.drop i):Nat):Int):=by
 intro m;induction m with
 |zero=>intro i h aa;omega
 |succ m aF=>
  intro i hm hi;simp only [H6,Vw,Vu];by_cases h:i<s.length
  ·have gl:=PJ (s.drop i);rw [agI n s _ hs n i (by omega) hi]
   rw [eS s i 0 h]at gl ⊢
   (rw [bg (by omega),aF (i+1) (by omega) (by omega)];simp only [anf])
   have Dl:(s.drop (i+1)).length=s.length-(i+1):=List.length_drop;generalize s.getD i 0=c at gl ⊢
   simp only [h,b3 h,ang,am8,am',aM,anl,fi,eo];by_cases tT:c.toNat=35
   ·have e:gp (c::s.drop (i+1))=1+gp (s.drop (i+1)):=by simp only [gp,tT,show¬ (35=10)by omega,ann]
    rw [e]at gl ⊢;simp only [anc,Dl]at gl;rw [aF (i+(1+gp (s.drop (i+1)))) (by omega) (by omega)]
    simp only [tT,am8,am',iD,anm];rw [PK,List.drop_drop]
    congr 2
    rw [show i+(1+gp (s.drop (i+1)))=i+1+gp (s.drop (i+1))by omega]
    omega
   ·simp only [tT,am9,am_,iD,ann];by_cases hb:c.toNat=32∨c.toNat=9∨c.toNat=10
    ·have:(decide (c.toNat=32)||decide (c.toNat=9)||decide (c.toNat=10))=true:=by
      rcases hb with hb|hb|hb<;>simp [hb]
     rw [if_pos hb,this,am']
     congr 2;omega
    ·have:(decide (c.toNat=32)||decide (c.toNat=9)||decide (c.toNat=10))=false:=by
      simp only [not_or]at hb;simp only [hb.1,hb.2.1,hb.2.2,am9,Bool.or_self]
     rw [if_neg hb,this,am_];rfl
  ·rw [gi s i h];simp only [h,ang,am9,am_];rfl
def fd(s:ano)(i:Nat):Nat:=(s.take i).count 10
def Xt(s:ano)(i k:Nat)(h:(10:UInt8)∉(s.drop i).take k):fd s (i+k)=fd s i:=by
 unfold fd;rw [List.take_add,List.count_append,List.count_eq_zero.2 h];rfl
def Xu(s:ano)(i:Nat)(h:i<s.length):fd s (i+1)=fd s i+(if(s.getD i 0).toNat=10 then 1 else 0):=by
 unfold fd;rw [List.take_add,List.count_append,eS s i 0 h,List.take_succ_cons,List.take_zero]
 congr 1
 generalize s.getD i 0=c
 by_cases hc:c.toNat=10
 ·rw [if_pos hc];obtain rfl:c=10:=UInt8.toNat_inj.1 hc;rfl
 ·rw [if_neg hc];refine List.count_eq_zero.2 λhm=>?_
  simp only [List.mem_cons,List.not_mem_nil,or_false]at hm;exact hc (by rw [←hm];rfl)
def agK(n:Nat)(s:ano)(a:Nat)(hs:s.length≤4611686018427387904)(ha:a≤s.length):∀m i,a<i+m→i≤a→H4 n s (a:Int) m ((fd s i:Nat):Int) (i:Int)=some ((fd s a:Nat):Int):=by
 intro m;induction m with
 |zero=>intro i h aa;omega
 |succ m aF=>
  intro i hm hi;simp only [H4,Vt,Vs,OU];by_cases h:i<a
  ·have hle:fd s i≤i:=by unfold fd;exact Nat.le_trans List.count_le_length (by simp;omega)
   have jH:=Xu s i (by omega)
   have oV:=aF (i+1) (by omega) (by omega)
   rw [jH]at oV
   (rw [bg (by omega),bg (by omega)];simp only [anf])
   generalize s.getD i 0=c at oV
   simp only [h,b3 (show i<s.length by omega),ang,am8,am',aM,fi]
   by_cases kH:c.toNat=10
   ·rw [if_pos kH]at oV;simp only [kH,am8,am'];exact oV
   ·rw [if_neg kH]at oV;simp only [kH,am9,am_];exact oV
  ·obtain rfl:i=a:=by omega
   simp only [Nat.lt_irrefl,ang,am9,am_]
def agL{n:Nat}(s:ano)(a:Nat)(hs:s.length≤4611686018427387904)(ha:a≤s.length)(hn:s.length<n):OV n s (a:Int)=some ((fd s a:Nat):Int):=by
 unfold OV;exact agK n s a hs ha n 0 (by omega) (by omega)
def PL:∀(l acc:ano) (p:ano×Nat),fj l acc = .inr p→(10:UInt8)∉l.take p.2
 |[],acc,e,h=>by simp only [fj,reduceCtorEq]at h
 |[c],acc,p,h=>by
  simp only [fj]at h;split at h
  ·rename_i hc;simp only [Sum.inr.injEq]at h;subst h;intro hm;simp only [List.take_succ_cons,List.take_zero,List.mem_cons,List.not_mem_nil,or_false]at hm;rw [←hm]at hc;exact absurd hc (by decide)
  ·(repeat' split at h)<;>simp only [reduceCtorEq]at h
 |c::d::l,acc,p,h=>by
  simp only [fj]at h;split at h
  ·rename_i hc;simp only [Sum.inr.injEq]at h;subst h;intro hm;simp only [List.take_succ_cons,List.take_zero,List.mem_cons,List.not_mem_nil,or_false]at hm;rw [←hm]at hc;exact absurd hc (by decide)
  ·split at h
   ·rename_i f_ l4;split at h
    ·simp only [reduceCtorEq]at h
    ·rename_i hd;split at h
     ·simp only [reduceCtorEq]at h
     ·cases ak:fj l (acc++[d]) with
      |inl aX=>rw [ak]at h;simp only [up,reduceCtorEq]at h
      |inr q=>
       rw [ak]at h;simp only [up,Sum.inr.injEq]at h;subst h;have:=PL l _ _ ak
       intro hm;simp only [List.take_succ_cons,List.mem_cons]at hm;rcases hm with hm|hm|hm
       ·rw [←hm]at l4;exact absurd l4 (by decide)
       ·rw [←hm]at hd;exact absurd (show(10:UInt8).toNat≠34∧(10:UInt8).toNat≠92 by decide) hd
       ·exact this hm
   ·split at h
    ·simp only [reduceCtorEq]at h
    ·rename_i dD;split at h
     ·simp only [reduceCtorEq]at h
     ·cases ak:fj (d::l) (acc++[c]) with
      |inl aX=>rw [ak]at h;simp only [up,reduceCtorEq]at h
      |inr q=>
       rw [ak]at h;simp only [up,Sum.inr.injEq]at h;subst h;have:=PL (d::l) _ _ ak
       intro hm;rw [List.take_succ_cons,List.mem_cons]at hm;rcases hm with hm|hm
       ·rw [←hm]at dD;exact dD (by decide)
       ·exact this hm
def agM(l:ano)(ab:l≠[])(h:(fG l).2.2=0):(10:UInt8)∉l.take (fG l).2.1:=by
 cases l with
 |nil=>exact absurd rfl ab
 |cons c t=>
  unfold fG at h ⊢;simp only at h ⊢
  split at h
  ·rename_i hw;rw [if_pos hw];simp only
   intro hm
   have e:(c::t).take (gg (c::t))=(c::t).takeWhile hO:=by
    unfold gg;exact(List.prefix_iff_eq_take.1 (List.takeWhile_prefix hO)).symm
   rw [e]at hm;have:=List.all_eq_true.1 (List.all_takeWhile (p:=hO) (l:=c::t)) _ hm
   exact absurd this (by decide)
  ·rename_i hw;rw [if_neg hw];split at h
   ·rename_i f_;rw [if_pos f_];cases ak:fj t [] with
    |inl e=>rw [ak]at h;exact absurd h (zb t [] e ak)
    |inr p=>
     simp only [za];intro hm;rw [List.take_succ_cons,List.mem_cons]at hm;rcases hm with hm|hm
     ·rw [←hm]at f_;exact absurd f_ (by decide)
     ·exact PL _ _ _ ak hm
   ·rename_i f_;rw [if_neg f_];split at h
    ·simp only at h;omega
    ·rename_i hm;rw [if_neg hm];simp only
     unfold l5 at hm ⊢;cases ak:marks.find? (kq (c::t)) with
     |none=>rw [ak]at hm;exact absurd rfl hm
     |some w=>
      simp only [Option.getD_some];have aa:=List.find?_some ak;rw [(of_decide_eq_true aa).2];have:∀w,w∈marks→decide ((10:UInt8)∉w)=true:=by decide
      exact of_decide_eq_true (this w (List.mem_of_find?_eq_some ak))
def Xv:∀l:ano,(10:UInt8)∉l.take (gp l)
 |[]=>by simp
 |c::l=>by
  by_cases h:c.toNat=10
  ·simp [gp,h]
  ·have:=Xv l
   simp only [gp,h,ann];rw [Nat.add_comm,List.take_succ_cons,List.mem_cons];intro hm;rcases hm with hm|hm
   ·rw [←hm]at h;exact h rfl
   ·exact this hm
open Go Go.Ab Go.Proofs
def gv:List Token→Nat
 |[]=>0
 |t::l=>60+t.Text.length+gv l
def IP:∀l m:List Token,gv (l++m)=gv l+gv m
 |[],m=>by simp [gv]
 |t::l,m=>by rw [List.cons_append,gv,gv,IP l m];omega
def l6:∀l:List Token,60*l.length≤gv l
 |[]=>Nat.le_refl _
 |t::l=>by have:=l6 l;simp only [gv,anc];omega
def agN(n:Nat)(src:ano)(al:List Token→Int→Int→Option (List Token×Int×Int))(out:List Token)(mF:Int)(hs:src.length≤4611686018427387904):
 ∀m i,src.length<i+m→i≤src.length→B' n al src out mF m (i:Int)=al out mF ((i+gp (src.drop i):Nat):Int):=by
 intro m;induction m with
 |zero=>intro i h aa;omega
 |succ m aF=>
  intro i hm hi;simp only [B',Nw,Nv];by_cases h:i<src.length
  ·(rw [eS src i 0 h,bg (by omega),aF (i+1) (by omega) (by omega)];simp only [anf])
   generalize src.getD i 0=c
   simp only [h,b3 h,ang,am8,am',aM,anl,fi,gp];by_cases kH:c.toNat=10
   ·simp only [kH,am8,ana,am_,anm];rfl
   ·simp only [kH,am9,anb,am',ann];rw [show i+(1+gp (src.drop (i+1)))=i+1+gp (src.drop (i+1))by omega]
  ·rw [gi src i h];simp only [h,ang,am9,am_,anb,Bool.true_or,aM];rfl
def clone{n:Nat}{s:ano}(h:s.length≤281474976710656):G2 n s=some s:=by
 unfold G2 Fv;simp only [h,am8,aM,ai]
def agO{k:Nat}(h:k≤1000000000000):room k 40=true:=by simp [room];omega
def Xw{n:Nat}(s:ano)(i:Nat)(hs:s.length≤4611686018427387904)(hn:s.length<n)(hi:i≤s.length):H7 n s (i:Int)=some ((i+iD false (s.drop i):Nat):Int):=agJ n s hs hn n i (by omega) hi
def agP(
 G:Token→Prop) (rD:∀(s:ano) (mF:Int),s≠[]→(fG s).2.2=0→G ⟨(fG s).1.Kind,(fG s).1.Text,(fG s).1.N,mF⟩) (n:Nat) (src:ano) (hs:src.length≤1000000000) (hn:src.length<n) (Dm:100<n):∀(k i m m2:Nat) (out:List Token),src.length-i=k→i≤src.length→src.length<i+m→src.length<i+m2→gv out≤61*i→(∀t,t∈out→G t)→
 ∃r,B_ n src m out ((fd src i+1:Nat):Int) (i:Int)=some r∧CS n src m2 out ((i+iD false (src.drop i):Nat):Int)=some r∧(r.2.2=0→gv r.1≤61*src.length∧∀t,t∈r.1→G t):=by
 intro k;induction k using Nat.strongRecOn with
 |_ k Xx=>
  intro i m m2 out hk hi hm PM hw PN;cases m with
  |zero=>omega
  |succ m=>
   simp only [B_,Nx,Nt];by_cases h:i<src.length
   ·have hd:=eS src i 0 h;have jH:=Xu src i h;have amP:fd src i≤i:=by unfold fd;exact Nat.le_trans List.count_le_length (by simp;omega)
    simp only [G4,Nu]
    (rw [agN n src _ out _ (by omega) n i (by omega) hi,bg (by omega),bg (by omega)];simp only [anf])
    have Dl:(src.drop (i+1)).length=src.length-(i+1):=List.length_drop;have gl:=PJ (src.drop i);have agQ:=Xv (src.drop i);have PO:∀(j:Nat),i<j→j≤src.length→_:=λj hj rv=>Xx (src.length-j) (by omega) j m m2 out rfl rv (by omega) (by omega) (by omega) PN
    generalize hc:src.getD i 0=c at hd jH
    simp only [h,b3 h,ang,am8,am',aM,fi];by_cases kH:c.toNat=10
    ·simp only [kH,am8,am'];obtain⟨r,Z,aa,aj⟩:=PO (i+1) (by omega) (by omega)
     rw [jH,if_pos kH]at Z;refine⟨r,Z,?_,aj⟩
     rw [hd];simp only [iD,kH,show¬ (10=35)by omega,ann,or_true,anm]
     rw [show i+(1+iD false (src.drop (i+1)))=i+1+iD false (src.drop (i+1))by omega]
     exact aa
    ·have agR:fd src (i+1)=fd src i:=by rw [jH,if_neg kH];rfl
     simp only [kH,am9,am_];by_cases hb:c.toNat=32∨c.toNat=9
     ·obtain⟨r,Z,aa,aj⟩:=PO (i+1) (by omega) (by omega)
      rw [agR]at Z;refine⟨r,?_,?_,aj⟩
      ·rcases hb with hb|hb
       ·simp only [hb,am8,am'];exact Z
       ·simp only [hb,show¬ (9=32)by omega,am9,am8,am',am_];exact Z
      ·rw [hd];simp only [iD];rw [if_neg (by omega),if_pos (by omega),show i+(1+iD false (src.drop (i+1)))=i+1+iD false (src.drop (i+1))by omega]
       exact aa
     ·have cZ:¬ c.toNat=32:=λe=>hb (Or.inl e)
      have fA:¬ c.toNat=9:=λe=>hb (Or.inr e)
      simp only [cZ,fA,am9,am_];by_cases tT:c.toNat=35
      ·simp only [tT,am8,am'];have e:gp (src.drop i)=1+gp (src.drop (i+1)):=by rw [hd];simp only [gp,kH,ann]
       obtain⟨r,Z,aa,aj⟩:=PO (i+gp (src.drop i)) (by omega) (by simp only [List.length_drop]at gl;omega)
       rw [Xt src i _ agQ]at Z;refine⟨r,Z,?_,aj⟩
       rw [hd];simp only [iD,tT,anm]
       rw [PK,List.drop_drop,show i+(1+(gp (src.drop (i+1))+iD false (src.drop (i+1+gp (src.drop (i+1))))))=i+gp (src.drop i)+iD false (src.drop (i+gp (src.drop i))) by
        rw [e,show i+(1+gp (src.drop (i+1)))=i+1+gp (src.drop (i+1))by omega];omega]
       exact aa
      ·simp only [tT,am9,am_,y8 (Nat.le_of_lt h),aM]
       have agS:iD false (src.drop i)=0:=by
        rw [hd];simp only [iD];rw [if_neg tT,if_neg (by omega)]
       rw [agS,show i+0=i from rfl]
       cases m2 with
       |zero=>omega
       |succ m2=>
        simp only [CS,O1];have dj:src.drop i≠[]:=by rw [hd];simp
        obtain⟨t,z,iZ,i7⟩:=agH (n:=n) src i h (by omega) Dm (by omega)
        have bJ:B9 n (src.drop i)=some ((fG (src.drop i)).1,(((fG (src.drop i)).2.1:Nat):Int),(fG (src.drop i)).2.2):=by
         rw [hd];exact agG c (src.drop (i+1)) (by omega) (by omega)
        rw [bJ,iZ,agL src i (by omega) hi hn]
        simp only [h,ang,am8,am',ai];rw [bg (by omega)]
        by_cases he:(fG (src.drop i)).2.2=0
        ·have dD:=agE _ dj he;have PP:=agM _ dj he;have amQ:(src.drop i).length=src.length-i:=List.length_drop;obtain⟨rfl,rfl⟩:=i7 he;have ho:=rD (src.drop i) ((fd src i+1:Nat):Int) dj he;generalize fG (src.drop i)=T at he dD PP ho
         obtain⟨t,kk,e⟩:=T;simp only at he dD PP ho
         subst he;have KO:=l6 out;simp only [am8,ana,am_,clone (show t.Text.length≤281474976710656 by omega),ai,anc,ane,agO (show out.length+(0+1)≤1000000000000 by omega),aM]
         rw [show anq ((i:Int)+((kk:Nat):Int))=((i+kk:Nat):Int)by rw [wr]<;>omega,Xw src (i+kk) (by omega) hn (by omega),ai]
         obtain⟨r,Z,aa,aj⟩:=Xx (src.length-(i+kk)) (by omega) (i+kk) m m2 (out++[⟨t.Kind,t.Text,t.N,((fd src i+1:Nat):Int)⟩]) rfl (by omega) (by omega) (by omega) (by rw [IP];simp only [gv];omega) (λbE ez=>by
          rcases List.mem_append.1 ez with cq|cq
          ·exact PN bE cq
          ·obtain rfl:=List.mem_singleton.1 cq;exact ho)
         rw [Xt src i _ PP]at Z;exact⟨r,Z,aa,aj⟩
        ·simp only [he,am9,anb,am'];exact⟨_,rfl,rfl,λbU=>absurd bU he⟩
   ·rw [gi src i h];simp only [iD,Nat.add_zero];cases m2 with
    |zero=>omega
    |succ m2=>
     simp only [CS,O1,VI,h,ang,am9,am_];exact⟨_,rfl,rfl,λ_=>⟨by simp only;omega,PN⟩⟩
def Xy(G:Token→Prop)(rD:∀(s:ano) (mF:Int),s≠[]→(fG s).2.2=0→G ⟨(fG s).1.Kind,(fG s).1.Text,(fG s).1.N,mF⟩){n:Nat}(src:ano)(hn:src.length≤16384→src.length<n)(Dm:100<n):
 ∃r,G5 n src=some r∧O2 n src=some r∧(r.2.2=0→gv r.1≤61*src.length∧src.length≤16384∧∀t,t∈r.1→G t):=by
 unfold G5 O2;simp only [f'];by_cases h:16384<src.length
 ·simp only [h,am8,am'];exact⟨_,rfl,rfl,λe=>absurd e (by decide)⟩
 ·simp only [h,am9,am_];have hn:=hn (by omega)
  have:=Xw (n:=n) src 0 (by omega) hn (by omega)
  rw [show H7 n src 0=_ from this,ai]
  obtain⟨r,Z,aa,aj⟩:=agP G rD n src (by omega) hn Dm (src.length-0) 0 n n [] rfl (by omega) (by omega) (by omega) (by simp [gv]) (λt aB=>by cases aB)
  exact⟨r,Z,aa,λe=>⟨(aj e).1,by omega,(aj e).2⟩⟩
def PQ(s:ano)(mF:Int)(hs:s≠[])(h:(fG s).2.2=0):(fG s).1.Kind=5→(fG s).1.Text∈marks:=by
 cases s with
 |nil=>exact absurd rfl hs
 |cons c t=>
  unfold fG at h ⊢;simp only at h ⊢
  split
  ·intro hk;exfalso
   revert hk
   generalize (c::t).take (gg (c::t))=w
   cases w with
   |nil=>intro hk;simp [oX]at hk
   |cons d w=>
    unfold oX;simp only
    (repeat' split)<;>(intro hk;simp at hk)
  ·split
   ·cases fj t []<;>(intro hk;exfalso;simp [za]at hk)
   ·split
    ·rename_i hm;intro hk;exfalso;simp at hk
    ·rename_i hm;intro _;simp only
     unfold l5 at hm ⊢;cases ak:marks.find? (kq (c::t)) with
     |none=>rw [ak]at hm;exact absurd rfl hm
     |some w=>exact List.mem_of_find?_eq_some ak
open Go Go.Ab Go.Proofs
def bk(l:List Token)(i:Nat)(w:ano):Bool:=
 decide (i<l.length)&&((decide ((l.getD i default).Kind=2)||decide ((l.getD i default).Kind=5))&&decide ((l.getD i default).Text=w))
def gq{l:List Token}{i:Nat}{w:ano}(h:bk l i w=true):i<l.length:=by
 unfold bk at h;simp only [Bool.and_eq_true,decide_eq_true_eq]at h;exact h.1
def tU(n:Nat)(l:List Token)(i:Nat)(w:ano):tm n w ⟨l,(i:Int)⟩=some (bk l i w):=by
 unfold tm bk;simp only [anf,Int.ofNat_le,eo,eT];by_cases h:i<l.length
 ·simp only [show¬ l.length≤i by omega,am9,am_,b3 h,aM,h,am8,Bool.true_and]
 ·simp only [show l.length≤i by omega,am8,am',h,am9,Bool.false_and]
def n9(n:Nat)(l:List Token)(i:Nat)(w:ano):kl n l (i:Int) w=some (bk l i w):=by
 unfold kl bk;simp only [anf,ang,eo,eT];by_cases h:i<l.length
 ·simp only [h,b3 h,anl,aM,am8,Bool.true_and]
 ·simp only [h,am9,anb,Bool.true_or,aM,Bool.false_and]
def Dn(l:List Token)(i:Nat):Int:=
 if i<l.length then(l.getD i default).lX else if l.length=0 then 1 else(l.getD (l.length-1) default).lX
def mp(l:List Token)(i:Nat)(c:Int):V:=.iface 332 (.agg [.int .i64 (Dn l i),.int .i64 c])
def h6(l:List Token)(i:Nat)(c:Int):Int:=if i<l.length then c else 6
def tV(n:Nat)(l:List Token)(i:Nat)(c:Int)(ab:l.length≤4611686018427387904):rU n c ⟨l,(i:Int)⟩=some (.az (mp l i (h6 l i c)) ()):=by
 unfold rU Nz Ny mp Dn h6;simp only [anf,ang];by_cases h:i<l.length
 ·simp only [h,b3 h,am8,am',aM,anm]
 ·simp only [h,am9,am_,ann];by_cases h0:l.length=0
  ·simp only [h0,anm];rfl
  ·have:anq (((l.length:Nat):Int)-1)=((l.length-1:Nat):Int):=by rw [wr]<;>omega
   rw [this];simp only [fi,h0,am9,am_,b3 (show l.length-1<l.length by omega),aM,anf,ann]
def PR(n:Nat)(l:List Token)(i:Nat)(c:Int)(ab:l.length≤4611686018427387904):Hn n c ⟨l,(i:Int)⟩=some (.az (mp l i (h6 l i c)) ()):=tV n l i c ab
def kr(n:Nat)(l:List Token)(i:Nat)(w:ano)(hi:i≤4611686018427387904):ki n w ⟨l,(i:Int)⟩=some (bk l i w,(((bif bk l i w then i+1 else i):Nat):Int)):=by
 unfold ki;rw [tU,ai,bg hi];cases bk l i w<;>rfl
def np(n:Nat)(l:List Token)(i:Nat)(w:ano)(hi:i≤4611686018427387904)(ab:l.length≤4611686018427387904):
 ii n w ⟨l,(i:Int)⟩=some (bif bk l i w then .ret () ((i+1:Nat):Int)else .az (mp l i (h6 l i 5)) (i:Int)):=by
 unfold ii;rw [kr n l i w hi,ai];cases bk l i w
 ·simp only [anb,am',am_];rw [tV n l i 5 ab,ai];rfl
 ·rfl
def zc(n:Nat)(l:List Token)(i:Nat):v7 n l (i:Int)=some (h6 l i 5):=by
 unfold v7 h6;simp only [Int.ofNat_le];by_cases h:i<l.length
 ·simp only [h,show¬ l.length≤i by omega,am9,am_,anm]
 ·simp only [h,show l.length≤i by omega,am8,am',ann]
def hq(l:List Token)(i:Nat):h6 l i 5≠0:=by unfold h6;split<;>decide
def qO{n:Nat}(l:List Token)(i:Nat)(w:ano)(hn:2≤n)(hi:i≤4611686018427387904):
 jR n l (i:Int) [w]=some (bif bk l i w then(((i+1:Nat):Int),0) else((i:Int),h6 l i 5)):=by
 obtain⟨n',rfl⟩:∃n',n=n'+2:=⟨n-2,by omega⟩
 unfold jR;simp only [H',O6,O5,anc,ane];have Z:(decide ((0:Int)<((0+1:Nat):Int)))=true:=rfl;have aa:aH 0 (0+1)=true:=rfl;rw [Z,aa,show anq ((0:Int)+1)=1 from rfl,bg hi]
 simp only [am',aM,show(0:Int).toNat=0 from rfl,List.getD_cons_zero,n9,zc,ai]
 cases bk l i w<;>rfl
def agT{n:Nat}(l:List Token)(i:Nat)(v w:ano)(hn:3≤n)(hi:i≤4611686018427380000):
 jR n l (i:Int) [v,w]=some (bif bk l i v then(bif bk l (i+1) w then(((i+1+1:Nat):Int),0) else(((i+1:Nat):Int),h6 l (i+1) 5)) else((i:Int),h6 l i 5)):=by
 obtain⟨n',rfl⟩:∃n',n=n'+3:=⟨n-3,by omega⟩
 unfold jR;simp only [H',O6,O5,anc,ane];have Z:(decide ((0:Int)<((0+1+1:Nat):Int)))=true:=rfl;have aa:aH 0 (0+1+1)=true:=rfl;have aj:(decide ((1:Int)<((0+1+1:Nat):Int)))=true:=rfl;have aD:aH 1 (0+1+1)=true:=rfl;rw [Z,aa,show anq ((0:Int)+1)=1 from rfl,bg (by omega)]
 rw [aj,aD,show anq ((1:Int)+1)=2 from rfl,bg (by omega)]
 simp only [am',aM,show(0:Int).toNat=0 from rfl,show(1:Int).toNat=1 from rfl,List.getD_cons_zero,List.getD_cons_succ,n9,zc,ai]
 cases bk l i v
 ·rfl
 ·cases bk l (i+1) w<;>rfl
def fH:List (ano×Int×Int):=[([111,114],1,17),([97,110,100],2,16),([61,61],4,10),([33,61],4,11),([60],4,12),([60,61],4,13),([62],4,14),([62,61],4,15),([43,43],5,19),([43],6,4),([45],6,5),([42],7,6),([47],7,7),([37],7,8)]
def wm:Option (ano×Int×Int)→Int×Int
 |none=>(0,0)
 |some r=>r.2
def gW(l:List Token)(i:Nat):Int×Int:=wm (fH.find? λr=>bk l i r.1)
def Xz(l:List Token)(i:Nat)(bH:Int):Int:=(wm (fH.find? λr=>decide (r.2.1=bH)&&bk l i r.1)).2
def IQ{l:List Token}{i:Nat}(h:i<l.length)(hk:(l.getD i default).Kind=2∨(l.getD i default).Kind=5)(w:ano):bk l i w=decide ((l.getD i default).Text=w):=by
 unfold bk;have:(decide ((l.getD i default).Kind=2)||decide ((l.getD i default).Kind=5))=true:=by rcases hk with hk|hk<;>rw [decide_eq_true hk]<;>simp
 rw [this,decide_eq_true h];rfl
def Do{l:List Token}{i:Nat}(h:¬ (i<l.length∧((l.getD i default).Kind=2∨(l.getD i default).Kind=5)))(w:ano):bk l i w=false:=by
 unfold bk;by_cases Z:i<l.length
 ·by_cases aa:(l.getD i default).Kind=2
  ·exact absurd ⟨Z,Or.inl aa⟩ h
  ·by_cases aj:(l.getD i default).Kind=5
   ·exact absurd ⟨Z,Or.inr aj⟩ h
   ·rw [decide_eq_false aa,decide_eq_false aj];simp
 ·rw [decide_eq_false Z];rfl
def XA(n:Nat)(l:List Token)(i:Nat):G6 n ⟨l,(i:Int)⟩=some (gW l i):=by
 unfold G6 gW
 (simp only [anf])
 simp only [Int.ofNat_le,eT];by_cases h:i<l.length
 ·simp only [show¬ l.length≤i by omega,am9,am_,b3 h,aM]
  by_cases hk:(l.getD i default).Kind=2∨(l.getD i default).Kind=5
  ·have hK:((!decide ((l.getD i default).Kind=2)) && !decide ((l.getD i default).Kind=5))=false:=by
    rcases hk with hk|hk<;>rw [decide_eq_true hk]<;>simp
   rw [hK];simp only [am_,IQ h hk];generalize (l.getD i default).Text=w
   by_cases hw:w∈fH.map (·.1)
   ·simp only [fH,List.map_cons,List.map_nil,List.mem_cons,List.not_mem_nil,or_false]at hw;rcases hw with rfl|rfl|rfl|rfl|rfl|rfl|rfl|rfl|rfl|rfl|rfl|rfl|rfl|rfl<;>rfl
   ·simp only [fH,List.map_cons,List.map_nil,List.mem_cons,List.not_mem_nil,or_false,not_or]at hw;simp only [hw,am9,am_,fH,List.find?_cons,List.find?_nil];rfl
  ·have hK:((!decide ((l.getD i default).Kind=2)) && !decide ((l.getD i default).Kind=5))=true:=by
    simp only [not_or]at hk;rw [decide_eq_false hk.1,decide_eq_false hk.2];rfl
   rw [hK];simp only [am',Do (λx=>hk x.2),fH,List.find?_cons,List.find?_nil]
   rfl
 ·simp only [show l.length≤i by omega,am8,am',Do (λx=>h x.1),fH,List.find?_cons,List.find?_nil]
  rfl
def agU(l:List Token)(i:Nat)(bH:Int)(h0:bH≠0):Xz l i bH=if(gW l i).1=bH then(gW l i).2 else 0:=by
 unfold Xz gW;by_cases h:i<l.length∧((l.getD i default).Kind=2∨(l.getD i default).Kind=5)
 ·simp only [IQ h.1 h.2];generalize (l.getD i default).Text=w
  by_cases hw:w∈fH.map (·.1)
  ·simp only [fH,List.map_cons,List.map_nil,List.mem_cons,List.not_mem_nil,or_false]at hw;by_cases ab:bH=1∨bH=2∨bH=4∨bH=5∨bH=6∨bH=7
   ·rcases ab with rfl|rfl|rfl|rfl|rfl|rfl<;>rcases hw with rfl|rfl|rfl|rfl|rfl|rfl|rfl|rfl|rfl|rfl|rfl|rfl|rfl|rfl<;>rfl
   ·simp only [not_or]at ab;have e1:¬ (1:Int)=bH:=λe=>ab.1 e.symm
    have e2:¬ (2:Int)=bH:=λe=>ab.2.1 e.symm
    have gk:¬ (4:Int)=bH:=λe=>ab.2.2.1 e.symm
    have lU:¬ (5:Int)=bH:=λe=>ab.2.2.2.1 e.symm
    have qP:¬ (6:Int)=bH:=λe=>ab.2.2.2.2.1 e.symm
    have pL:¬ (7:Int)=bH:=λe=>ab.2.2.2.2.2 e.symm
    have cx:∀w:ano,fH.find? (λr=>decide (r.2.1=bH)&&decide (w=r.1))=none:=by
     intro w;simp only [fH,List.find?_cons,List.find?_nil,e1,e2,gk,lU,qP,pL,am9,Bool.false_and]
    rw [cx];rcases hw with rfl|rfl|rfl|rfl|rfl|rfl|rfl|rfl|rfl|rfl|rfl|rfl|rfl|rfl
    ·exact(if_neg e1).symm
    ·exact(if_neg e2).symm
    ·exact(if_neg gk).symm
    ·exact(if_neg gk).symm
    ·exact(if_neg gk).symm
    ·exact(if_neg gk).symm
    ·exact(if_neg gk).symm
    ·exact(if_neg gk).symm
    ·exact(if_neg lU).symm
    ·exact(if_neg qP).symm
    ·exact(if_neg qP).symm
    ·exact(if_neg pL).symm
    ·exact(if_neg pL).symm
    ·exact(if_neg pL).symm
  ·simp only [fH,List.map_cons,List.map_nil,List.mem_cons,List.not_mem_nil,or_false,not_or]at hw;simp only [hw,am9,fH,List.find?_cons,List.find?_nil,Bool.and_false,wm];rw [if_neg (λe=>h0 e.symm)]
 ·simp only [Do h,fH,List.find?_cons,List.find?_nil,Bool.and_false,wm];rw [if_neg (λe=>h0 e.symm)]
open Go Go.Ab Go.Proofs
def getD_map{α β:Type}[Inhabited α][Inhabited β](f:α→β):∀(l:List α) (i:Nat),i<l.length→(l.map f).getD i default=f (l.getD i default)
 |[],i,h=>by simp at h
 |x::l,0,h=>rfl
 |x::l,i+1,h=>getD_map f l i (by simpa using h)
def agV(n:Nat)(l:List Token)(at_ bH:Int)(al:Int→ant)(v6:Int):VK n l at_ bH al v6 =
 bif (decide (v6<((fH.length:Nat):Int))) then(
  aq (aH v6 fH.length)<|
  aq (!(decide (((fH.map (·.2.1)).getD (v6).toNat default)=bH))||aH v6 fH.length)<|
  Option.bind (bif (decide (((fH.map (·.2.1)).getD (v6).toNat default)=bH))then kl n l at_ ((fH.map (·.1)).getD (v6).toNat default)else some default) λb4=>
  bif (bif (decide (((fH.map (·.2.1)).getD (v6).toNat default)=bH))then b4 else false) then(
   aq (aH v6 fH.length)<|
   some ((fH.map (·.2.2)).getD (v6).toNat default))
  else(
   al (anq (v6+1))))
 else VJ n:=rfl
def agW(n:Nat)(l:List Token)(a:Nat)(bH:Int):∀m i,fH.length<i+m→i≤fH.length→H_ n l (a:Int) bH m (i:Int)=some (wm ((fH.drop i).find? λr=>decide (r.2.1=bH)&&bk l a r.1)).2:=by
 have hlen:fH.length=14:=rfl;intro m;induction m with
 |zero=>intro i h aa;omega
 |succ m aF=>
  intro i hm hi;rw [H_,agV];by_cases h:i<fH.length
  ·(rw [eS fH i default h,bg (by omega),aF (i+1) (by omega) (by omega)];simp only [anf];rw [getD_map _ _ _ h,getD_map _ _ _ h,getD_map _ _ _ h])
   generalize fH.getD i default=t
   simp only [h,b3 h,ang,am8,am',aM,anl,n9,eT,List.find?_cons];cases decide (t.2.1=bH)
   ·rfl
   ·simp only [am',ai,Bool.true_and];cases bk l a t.1<;>rfl
  ·rw [gi fH i h];simp only [h,ang,am9,am_];rfl
def PS{n:Nat}(l:List Token)(a:Nat)(bH:Int)(hn:14<n)(h0:bH≠0):VL n l (a:Int) bH=some (if(gW l a).1=bH then(gW l a).2 else 0):=by
 rw [←agU l a bH h0];have hlen:fH.length=14:=rfl;exact agW n l a bH n 0 (by omega) (by omega)
def hU:List (ano×Int):=[([116,101,120,116],20),([108,101,110],21),([103,101,116,105,110,116],22),([103,101,116,115,116,114],23),([104,97,115],24),([110,111,119],25),([114,97,110,100,111,109],26),([110,111,100,101],27)]
def call2:Option (ano×Int)→Int
 |none=>0
 |some r=>r.2
def ld(l:List Token)(i:Nat):Int:=call2 (hU.find? λr=>bk l i r.1)
def agX(n:Nat)(l:List Token)(at_:Int)(al:Int→ant)(v5:Int):VN n l at_ al v5 =
 bif (decide (v5<((hU.length:Nat):Int))) then(
  aq (aH v5 hU.length)<|
  Option.bind (kl n l at_ ((hU.map (·.1)).getD (v5).toNat default)) λbD=>
  bif bD then(
   aq (aH v5 hU.length)<|
   some ((hU.map (·.2)).getD (v5).toNat default))
  else(
   al (anq (v5+1))))
 else VM n:=rfl
def agY(n:Nat)(l:List Token)(a:Nat):∀m i,hU.length<i+m→i≤hU.length→Ia n l (a:Int) m (i:Int)=some (call2 ((hU.drop i).find? λr=>bk l a r.1)):=by
 have hlen:hU.length=8:=rfl;intro m;induction m with
 |zero=>intro i h aa;omega
 |succ m aF=>
  intro i hm hi;rw [Ia,agX];by_cases h:i<hU.length
  ·(rw [eS hU i default h,bg (by omega),aF (i+1) (by omega) (by omega)];simp only [anf];rw [getD_map _ _ _ h,getD_map _ _ _ h])
   generalize hU.getD i default=t
   simp only [h,b3 h,ang,am8,am',aM,n9,ai,List.find?_cons];cases bk l a t.1<;>rfl
  ·rw [gi hU i h];simp only [h,ang,am9,am_];rfl
def agZ{n:Nat}(l:List Token)(a:Nat)(hn:8<n):VO n l (a:Int)=some (ld l a):=by
 have hlen:hU.length=8:=rfl;exact agY n l a n 0 (by omega) (by omega)
def jT(l:List Token):Prop:=∀t,t∈l→t.Kind=5→t.Text∈marks
def PT(n:Nat)(l:List Token)(i:Nat)(hg:jT l):G8 n ⟨l,(i:Int)⟩=some (ld l i):=by
 unfold G8 ld
 (simp only [anf])
 simp only [Int.ofNat_le,eo];by_cases h:i<l.length
 ·simp only [show¬ l.length≤i by omega,am9,Bool.false_or,b3 h,aM]
  by_cases hk:(l.getD i default).Kind=2
  ·simp only [hk,am8,ana,am_,IQ h (Or.inl hk)];generalize (l.getD i default).Text=w
   by_cases hw:w∈hU.map (·.1)
   ·simp only [hU,List.map_cons,List.map_nil,List.mem_cons,List.not_mem_nil,or_false]at hw;rcases hw with rfl|rfl|rfl|rfl|rfl|rfl|rfl|rfl<;>rfl
   ·simp only [hU,List.map_cons,List.map_nil,List.mem_cons,List.not_mem_nil,or_false,not_or]at hw;simp only [hw,am9,am_,hU,List.find?_cons,List.find?_nil];rfl
  ·simp only [hk,am9,anb,am'];by_cases aV:(l.getD i default).Kind=5
   ·have hm:(l.getD i default).Text∈marks:=hg _ (by simp [List.getD,h]) aV
    simp only [IQ h (Or.inr aV)];generalize (l.getD i default).Text=w at hm
    have:∀w,w∈marks→hU.find? (λr=>decide (w=r.1))=none:=by decide
    rw [this w hm];rfl
   ·have:∀w,bk l i w=false:=Do (λx=>by rcases x.2 with e|e;exact hk e;exact aV e)
    simp only [this,hU,List.find?_cons,List.find?_nil];rfl
 ·simp only [show l.length≤i by omega,am8,Bool.true_or,aM,am',Do (λx=>h x.1),hU,List.find?_cons,List.find?_nil]
  rfl
def ag0{l:List Token}{i:Nat}(h:ld l i≠0):i<l.length∧20≤ld l i∧ld l i≤27:=by
 unfold ld at h ⊢;cases ak:hU.find? (λr=>bk l i r.1) with
 |none=>rw [ak]at h;exact absurd rfl h
 |some r=>
  have hx:=List.find?_some ak;refine⟨gq (w:=r.1) hx,?_⟩
  have:∀r,r∈hU→decide (20≤r.2∧r.2≤27)=true:=by decide
  exact of_decide_eq_true (this r (List.mem_of_find?_eq_some ak))
def ag1{l:List Token}{i:Nat}(h:(gW l i).1≠0):i<l.length∧(gW l i).2≠0:=by
 unfold gW at h ⊢;cases ak:fH.find? (λr=>bk l i r.1) with
 |none=>rw [ak]at h;exact absurd rfl h
 |some r=>
  have hx:=List.find?_some ak;refine⟨gq (w:=r.1) hx,?_⟩
  have:∀r,r∈fH→decide (r.2.2≠0)=true:=by decide
  exact of_decide_eq_true (this r (List.mem_of_find?_eq_some ak))
def XB(l:List Token)(i:Nat):(gW l i).1≠3∧(gW l i).1≠8:=by
 unfold gW;cases ak:fH.find? (λr=>bk l i r.1) with
 |none=>exact⟨by decide,by decide⟩
 |some r=>
  have:∀r,r∈fH→decide (r.2.1≠3∧r.2.1≠8)=true:=by decide
  exact of_decide_eq_true (this r (List.mem_of_find?_eq_some ak))
def ag2(n:Nat)(l:List Token)(i:Nat)(bH:Int):O7 n l (i:Int) bH=some (if bH=3∧bk l i [110,111,116]=true then 18 else if bH=8∧bk l i [45]=true then 9 else 0):=by
 unfold O7;by_cases aj:bH=3
 ·subst aj;simp only [am8,am',n9,ai];cases bk l i [110,111,116]<;>simp [ai]
 ·by_cases dI:bH=8
  ·subst dI;simp only [show¬ (8:Int)=3 by omega,am9,am8,am',am_,n9,ai]
   cases bk l i [45]<;>simp
  ·simp [aj,dI]
def IR(n:Nat)(l:List Token)(i d:Nat)(ab:l.length≤4611686018427387904)(hd:d≤24):rW n (d:Int) ⟨l,(i:Int)⟩=some (if d=24 then .az (mp l i (h6 l i 2)) ()else .ret ((d+1:Nat):Int) ()):=by
 unfold rW G7;simp only [sb];by_cases h:d=24
 ·simp only [show 24≤d by omega,am8,am',tV n l i 2 ab,ai,h,anm];rfl
 ·simp only [show¬ 24≤d by omega,am9,am_,h,ann]
  rw [bg (by omega)]
open Go Go.Ab Go.Proofs
def ed(l:List Token)(i:Nat):Nat:=gv (l.take i)
def hB(l:List Token)(i:Nat)(h:i<l.length):ed l (i+1)=ed l i+60+(l.getD i default).Text.length:=by
 unfold ed;rw [List.take_add,IP,eS l i default h,List.take_succ_cons,List.take_zero];simp only [gv];omega
def tW(l:List Token)(i j:Nat)(h:i≤j):ed l i≤ed l j:=by
 obtain⟨k,rfl⟩:=Nat.exists_eq_add_of_le h;unfold ed;rw [List.take_add,IP];omega
def gX{α:Type}(wt:α→Nat)(l:List Token)(i:Nat)(p:Option (ax α Int))(q:Option (α×Int×Int)):Prop:=
 (∃a k,p=some (.ret a ((k:Nat):Int))∧q=some (a,((k:Nat):Int),0)∧i<k∧k≤l.length∧wt a+ed l i≤ed l k)∨
 (∃k c z a,p=some (.az (mp l k c) z)∧q=some (a,((k:Nat):Int),c)∧c≠0∧k≤l.length)
def XC(n:Nat):fe (n+1)=Ca n (fe n) (iO n) (ij n) (h3 n):=rfl
def ag3(n:Nat):iO (n+1)=yA n (fe n) (iO n) (ij n) (h3 n):=rfl
def XD(n:Nat):ij (n+1)=vQ n (fe n) (iO n) (ij n) (h3 n):=rfl
def PU(n:Nat):h3 (n+1)=tn n (fe n) (iO n) (ij n) (h3 n):=rfl
def XE(n:Nat):oQ (n+1)=Ib n (oQ n) (tF n) (v8 n):=rfl
def ag4(n:Nat):tF (n+1)=O8 n (oQ n) (tF n) (v8 n):=rfl
def XF(n:Nat):v8 (n+1)=Ie n (oQ n) (tF n) (v8 n):=rfl
section
variable {l:List Token}
def zd(l:List Token)(cY:Nat):Prop:=∀(i bH d n1 n2:Nat),i≤l.length→1≤bH→bH≤8→d≤24→20*(l.length-i)+2*(9-bH)+2≤cY→2*cY+100≤n1→2*cY+100≤n2→
 gX cm l i (fe n1 (bH:Int) (d:Int) ⟨l,(i:Int)⟩) (oQ n2 l (i:Int) (bH:Int) (d:Int))
def PV(l:List Token)(cY:Nat):Prop:=∀(i d n1 n2:Nat),i≤l.length→d≤24→20*(l.length-i)+1≤cY→2*cY+100≤n1→2*cY+100≤n2→
 gX cm l i (ij n1 (d:Int) ⟨l,(i:Int)⟩) (tF n2 l (i:Int) (d:Int))
def IS(l:List Token)(cY:Nat):Prop:=∀(i d n1 n2:Nat),i≤l.length→d≤24→20*(l.length-i)≤cY→2*cY+100≤n1→2*cY+100≤n2→
 gX cm l i (h3 n1 (d:Int) ⟨l,(i:Int)⟩) (v8 n2 l (i:Int) (d:Int))
theorem ag5{cY:Nat}(ab:l.length≤1000000000)(bK:zd l cY):IS l (cY+1):=by
 intro i d n1 n2 hi hd hm Z aa;obtain⟨n1,rfl⟩:∃k,n1=k+1:=⟨n1-1,by omega⟩
 obtain⟨n2,rfl⟩:∃k,n2=k+1:=⟨n2-1,by omega⟩
 rw [PU,XF];unfold tn Ie;rw [np n1 l i _ (by omega) (by omega),qO l i _ (by omega) (by omega)]
 simp only [ai];cases h:bk l i [40]
 ·simp only [am_,ax.on,hq l i,am9,anb,am'];exact Or.inr ⟨i,_,_,_,rfl,rfl,hq l i,hi⟩
 ·have bm:=gq h;have iE:=hB l i bm;simp only [am',ax.on,am8,ana,am_];rcases bK (i+1) 1 d n1 n2 (by omega) (by omega) (by omega) hd (by omega) (by omega) (by omega) with⟨a,k,e1,e2,jU,eV,iS⟩|⟨k,c,z,a,e1,e2,hc,hk⟩
  ·rw [show((1:Nat):Int)=1 from rfl]at e1 e2
   rw [e1,e2];simp only [ai,ax.on,am8,ana,am_];rw [np n1 l k _ (by omega) (by omega),qO l k _ (by omega) (by omega)]
   simp only [ai];cases cq:bk l k [41]
   ·simp only [am_,ax.on];exact Or.inr ⟨k,_,_,_,rfl,rfl,hq l k,eV⟩
   ·have El:=gq cq;have amR:=hB l k El;simp only [am',ax.on];exact Or.inl ⟨a,k+1,rfl,rfl,by omega,by omega,by omega⟩
  ·rw [show((1:Nat):Int)=1 from rfl]at e1 e2
   rw [e1,e2];simp only [ai,ax.on,hc,am9,anb,am'];exact Or.inr ⟨k,_,_,_,rfl,rfl,hc,hk⟩
theorem IT{i:Nat}(h:i≤1000000000):anq (((i+1:Nat):Int)-1)=(i:Int):=by rw [wr]<;>omega
theorem ag6{cY:Nat}(ab:l.length≤1000000000)(hg:jT l)(ly:IS l cY)(i d n1 n2:Nat)(hi:i≤l.length)(hd:d≤24)(hm:20*(l.length-i)≤cY)(Z:2*cY+100≤n1)(aa:2*cY+100≤n2):
 gX cm l i (rZ n1 (fe n1) (iO n1) (ij n1) (h3 n1) (d:Int) ⟨l,(i:Int)⟩ (i:Int))
  (Ic n2 (oQ n2) (tF n2) (v8 n2) l (i:Int) (d:Int)):=by
 unfold rZ Ic;simp only [PT n1 l i hg,agZ l i (show 8<n2 by omega),ai,tU,n9,tV n1 l i 5 (by omega),zc]
 by_cases h0:ld l i=0
 ·simp only [h0,am8,am',show¬ (25:Int)≤0 by omega,am9,am_,ai]
  cases h:bk l i [40]
  ·simp only [anb,am'];exact Or.inr ⟨i,_,_,_,rfl,rfl,hq l i,hi⟩
  ·have bm:=gq h;simp only [ana,am_];unfold Cd;rw [IR n1 l i d (by omega) hd]
   simp only [fi];by_cases tX:d=24
   ·simp only [tX,anm,am8,am',ai,ax.on];rw [show h6 l i 2=2 from if_pos bm]
    exact Or.inr ⟨i,2,_,_,rfl,rfl,by decide,hi⟩
   ·simp only [tX,ann,am9,am_,ai,ax.on];rw [bg (by omega)]
    rcases ly i (d+1) n1 n2 hi (by omega) hm Z aa with⟨a,k,e1,e2,jU,eV,iS⟩|⟨k,c,z,a,e1,e2,hc,hk⟩
    ·rw [e1,e2];exact Or.inl ⟨a,k,rfl,rfl,jU,eV,iS⟩
    ·rw [e1,e2];exact Or.inr ⟨k,c,_,_,rfl,rfl,hc,hk⟩
 ·obtain⟨bm,jI,jr⟩:=ag0 h0;have iE:=hB l i bm;have ze:=tW l (i+1) (i+1+1) (by omega)
  simp only [h0,am9,am_];generalize ld l i=op at h0 jI jr
  by_cases wo:25≤op
  ·have wq:(bif decide (op=25)then lZ n1 (fe n1) (iO n1) (ij n1) (h3 n1) (d:Int) op ⟨l,(i:Int)⟩ (i:Int) (decide (op=25))else bif decide (op=26)then lZ n1 (fe n1) (iO n1) (ij n1) (h3 n1) (d:Int) op ⟨l,(i:Int)⟩ (i:Int) (decide (op=26))else lZ n1 (fe n1) (iO n1) (ij n1) (h3 n1) (d:Int) op ⟨l,(i:Int)⟩ (i:Int) (decide (op=27)))=lZ n1 (fe n1) (iO n1) (ij n1) (h3 n1) (d:Int) op ⟨l,(i:Int)⟩ (i:Int) true:=by
    by_cases ag7:op=25
    ·simp only [ag7,am8,am']
    ·by_cases ag8:op=26
     ·simp only [ag8,am8,am',show¬ (26:Int)=25 by omega,am9,am_]
     ·simp only [show op=27 by omega,am8,show¬ (27:Int)=25 by omega,show¬ (27:Int)=26 by omega,am9,am_]
   rw [wq];unfold lZ;simp only [wo,am8,am'];rw [bg (by omega),np n1 l (i+1) _ (by omega) (by omega),agT l (i+1) _ _ (by omega) (by omega)]
   simp only [ai];cases h:bk l (i+1) [40]
   ·simp only [am_,ax.on];exact Or.inr ⟨i+1,_,_,_,rfl,rfl,hq l _,by omega⟩
   ·have El:=gq h;simp only [am',ax.on];rw [np n1 l (i+1+1) _ (by omega) (by omega)]
    simp only [ai];cases cq:bk l (i+1+1) [41]
    ·simp only [am_,ax.on];exact Or.inr ⟨i+1+1,_,_,_,rfl,rfl,hq l _,by omega⟩
    ·have amS:=gq cq;have PW:=tW l (i+1+1) (i+1+1+1) (by omega)
     simp only [am',ax.on];refine Or.inl ⟨⟨op,0,[],[]⟩,i+1+1+1,rfl,rfl,by omega,by omega,?_⟩
     simp only [cm,jA,ane];omega
  ·have wq:(bif decide (op=25)then lZ n1 (fe n1) (iO n1) (ij n1) (h3 n1) (d:Int) op ⟨l,(i:Int)⟩ (i:Int) (decide (op=25))else bif decide (op=26)then lZ n1 (fe n1) (iO n1) (ij n1) (h3 n1) (d:Int) op ⟨l,(i:Int)⟩ (i:Int) (decide (op=26))else lZ n1 (fe n1) (iO n1) (ij n1) (h3 n1) (d:Int) op ⟨l,(i:Int)⟩ (i:Int) (decide (op=27)))=lZ n1 (fe n1) (iO n1) (ij n1) (h3 n1) (d:Int) op ⟨l,(i:Int)⟩ (i:Int) false:=by
    simp only [show¬ op=25 by omega,show¬ op=26 by omega,show¬ op=27 by omega,am9,am_]
   rw [wq];unfold lZ Cb;simp only [wo,am9,am_,ai];rw [IR n1 l i d (by omega) hd]
   simp only [fi];by_cases tX:d=24
   ·simp only [tX,anm,am8,am',ai,ax.on];rw [show h6 l i 2=2 from if_pos bm]
    exact Or.inr ⟨i,2,_,_,rfl,rfl,by decide,hi⟩
   ·simp only [tX,ann,am9,am_,ai,ax.on];rw [bg (by omega),bg (by omega)]
    rcases ly (i+1) (d+1) n1 n2 (by omega) (by omega) (by omega) Z aa with⟨a,k,e1,e2,jU,eV,iS⟩|⟨k,c,z,a,e1,e2,hc,hk⟩
    ·rw [e1,e2];refine Or.inl ⟨⟨op,0,[],[a]⟩,k,rfl,rfl,by omega,eV,?_⟩
     simp only [cm,jA,ane];omega
    ·rw [e1,e2];exact Or.inr ⟨k,c,_,_,rfl,rfl,hc,hk⟩
theorem ag9{cY:Nat}(ab:l.length≤1000000000)(hg:jT l)(ly:IS l cY):PV l (cY+1):=by
 intro i d n1 n2 hi hd hm Z aa;obtain⟨n1,rfl⟩:∃k,n1=k+1:=⟨n1-1,by omega⟩
 obtain⟨n2,rfl⟩:∃k,n2=k+1:=⟨n2-1,by omega⟩
 have hj:=ag6 ab hg ly i d n1 n2 hi hd (by omega) (by omega) (by omega)
 rw [XD,ag4];unfold vQ O8
 (rw [bg (by omega)];simp only [anf])
 simp only [ang];by_cases h:i<l.length
 ·have iE:=hB l i h;rw [IT (by omega)]
  generalize l.getD i default=t at iE
  simp only [h,am8,am',b3 h,aM];by_cases aj:t.Kind=3
  ·simp only [aj,am8,am'];refine Or.inl ⟨⟨1,t.N,[],[]⟩,i+1,rfl,rfl,by omega,by omega,?_⟩
   simp only [cm,jA,ane];omega
  ·by_cases aD:t.Kind=4
   ·simp only [aD,show¬ (4:Int)=3 by omega,am8,am9,am',am_]
    refine Or.inl ⟨⟨2,0,t.Text,[]⟩,i+1,rfl,rfl,by omega,by omega,?_⟩
    simp only [cm,jA];omega
   ·by_cases aV:t.Kind=1
    ·simp only [aV,show¬ (1:Int)=3 by omega,show¬ (1:Int)=4 by omega,am8,am9,am',am_]
     refine Or.inl ⟨⟨3,0,t.Text,[]⟩,i+1,rfl,rfl,by omega,by omega,?_⟩
     simp only [cm,jA];omega
    ·simp only [aj,aD,aV,am9,am_];exact hj
 ·simp only [h,am9,am_];exact hj
end
open Go Go.Ab Go.Proofs
def fI(e:Expr):(⟨e.Op,e.N,e.S,e.ao⟩:Expr)=e:=by cases e;rfl
section
variable {l:List Token}
theorem IU{i:Nat}{p:Option (ax Expr Int)}{q:Option (Expr×Int×Int)}(h:gX cm l i p q):
 gX cm l i (Option.bind p λr=>ax.on r (λa b=>some (.ret a b)) (λx b=>some (.az x b))) q:=by
 rcases h with⟨a,k,e1,e2,h⟩|⟨k,c,z,a,e1,e2,h⟩
 ·rw [e1];exact Or.inl ⟨a,k,rfl,e2,h⟩
 ·rw [e1];exact Or.inr ⟨k,c,z,a,rfl,e2,h⟩
theorem ag'{cY:Nat}(ab:l.length≤1000000000)(bK:zd l cY)(i bH d n1 n2:Nat)(gQ:1≤bH)(PX:bH<8)(hd:d≤24)(hm:20*(l.length-i)≤cY+20)(Z:2*cY+100≤n1)(aa:2*cY+100≤n2):
 ∀(m1 m2 k:Nat) (e:Expr),l.length-k<m1→l.length-k+1<m2→i<k→k≤l.length→cm e+ed l i≤ed l k→
 gX cm l i (vP n1 (fe n1) (iO n1) (ij n1) (h3 n1) (bH:Int) (d:Int) ⟨l,(i:Int)⟩ m1 (k:Int) e.Op e.N e.S e.ao)
  (qG n2 (oQ n2) (tF n2) (v8 n2) l (bH:Int) (d:Int) m2 e.Op e.N e.S e.ao (k:Int) 0):=by
 intro m1;induction m1 with
 |zero=>intro m2 k e h;omega
 |succ m1 aF=>
  intro m2 k e XG PM qo hk he;obtain⟨m2,rfl⟩:∃j,m2=j+1:=⟨m2-1,by omega⟩
  simp only [vP,G9,qG,tE,yW];rw [XA,PS l k (bH:Int) (by omega) (by omega),fI]
  simp only [ai,am8,am'];by_cases am:(gW l k).1=(bH:Int)
  ·obtain⟨bm,fC⟩:=ag1 (l:=l) (i:=k) (by rw [am];omega)
   have iE:=hB l k bm;rw [if_pos am];simp only [am,am8,ana,am_,fC,am9];generalize (gW l k).2=op at fC
   rw [bg (by omega),bg (by omega)]
   rcases bK (k+1) (bH+1) d n1 n2 (by omega) (by omega) (by omega) hd (by omega) (by omega) (by omega) with⟨a,k',e1,e2,jU,eV,iS⟩|⟨k',c,z,a,e1,e2,hc,kE⟩
   ·rw [e1,e2];simp only [ai,ax.on,fi,am8,am',eT,Bool.true_and]
    have IV:cm ⟨op,0,[],[e,a]⟩+ed l i≤ed l k':=by
     simp only [cm,jA,ane];omega
    by_cases aD:bH=4
    ·simp only [aD,am8,am'];exact Or.inl ⟨⟨op,0,[],[e,a]⟩,k',rfl,rfl,by omega,eV,IV⟩
    ·simp only [aD,am9,am_];exact aF m2 k' ⟨op,0,[],[e,a]⟩ (by omega) (by omega) (by omega) eV IV
   ·rw [e1,e2];obtain⟨m2,rfl⟩:∃j,m2=j+1:=⟨m2-1,by omega⟩
    simp only [ai,ax.on,hc,am9,am_,qG,tE,yW];exact Or.inr ⟨k',c,_,_,rfl,rfl,hc,kE⟩
  ·rw [if_neg am];simp only [am,am9,anb,am',am8];exact Or.inl ⟨e,k,rfl,rfl,qo,hk,he⟩
theorem XH{cY:Nat}(ab:l.length≤1000000000)(bK:zd l cY)(i bH d n1 n2:Nat)(op:Int)(h:i<l.length)(gQ:1≤bH)(PX:bH≤8)(hd:d≤24)(hm:20*(l.length-i)+2*(9-bH)+2≤cY+1)(Z:2*cY+101≤n1)(aa:2*cY+100≤n2):
 gX cm l i (iO n1 op (bH:Int) (d:Int) ⟨l,(i:Int)⟩)
  (bif (decide (d=24))then some ((⟨0,0,[],[]⟩:Expr),(i:Int),2)
   else Option.bind (oQ n2 l (anq ((i:Int)+1)) (bH:Int) (anq ((d:Int)+1))) λbe=>some ((⟨op,0,[],[be.1]⟩:Expr),be.2.1,be.2.2)):=by
 obtain⟨n1,rfl⟩:∃k,n1=k+1:=⟨n1-1,by omega⟩
 have iE:=hB l i h;rw [ag3];unfold yA;rw [IR n1 l i d (by omega) hd]
 simp only [fi];by_cases tX:d=24
 ·simp only [tX,anm,am8,am',ai,ax.on];rw [show h6 l i 2=2 from if_pos h]
  exact Or.inr ⟨i,2,_,_,rfl,rfl,by decide,by omega⟩
 ·simp only [tX,ann,am9,am_,ai,ax.on];rw [bg (by omega),bg (by omega)]
  rcases bK (i+1) bH (d+1) n1 n2 (by omega) gQ PX (by omega) (by omega) (by omega) aa with⟨a,k,e1,e2,jU,eV,iS⟩|⟨k,c,z,a,e1,e2,hc,hk⟩
  ·rw [e1,e2];refine Or.inl ⟨⟨op,0,[],[a]⟩,k,rfl,rfl,by omega,eV,?_⟩
   simp only [cm,jA,ane];omega
  ·rw [e1,e2];exact Or.inr ⟨k,c,_,_,rfl,rfl,hc,hk⟩
theorem ag_{cY:Nat}(ab:l.length≤1000000000)(bK:zd l cY)(aha:PV l cY):zd l (cY+1):=by
 intro i bH d n1 n2 hi gQ PX hd hm Z aa;obtain⟨n1,rfl⟩:∃k,n1=k+1:=⟨n1-1,by omega⟩
 obtain⟨n2,rfl⟩:∃k,n2=k+1:=⟨n2-1,by omega⟩
 rw [XC,XE];unfold Ca Ib;simp only [fi,tU,ag2,ai,show¬ bH=9 by omega,am9,am_]
 by_cases aj:bH=3
 ·subst aj;simp only [am8,am',show((3:Nat):Int)=3 from rfl,true_and,show¬ (3:Int)=8 by omega,show¬ 3=8 by omega,false_and,ann]
  cases h:bk l i [110,111,116]
  ·simp only [am_,Bool.false_eq_true,ann,am8,ana];have hn:=bK i 4 d n1 n2 hi (by omega) (by omega) hd (by omega) (by omega) (by omega)
   rw [show anq ((3:Int)+1)=((4:Nat):Int)from rfl]
   refine IU ?_;rcases hn with⟨a,k,e1,e2,jU,eV,iS⟩|⟨k,c,z,a,e1,e2,hc,hk⟩
   ·refine Or.inl ⟨a,k,e1,?_,jU,eV,iS⟩;rw [e2];obtain⟨Dp,sd⟩:∃j,n2=j+1:=⟨n2-1,by omega⟩
    simp only [ai]
    conv=>lhs;arg 8;rw [sd]
    simp only [qG,tE,am8,am'];rw [PS l k 3 (by omega) (by decide),if_neg (XB l k).1]
    simp only [ai,am8,am',fI]
   ·refine Or.inr ⟨k,c,z,⟨0,0,[],[]⟩,e1,?_,hc,hk⟩;rw [e2];obtain⟨Dp,sd⟩:∃j,n2=j+1:=⟨n2-1,by omega⟩
    simp only [ai]
    conv=>lhs;arg 8;rw [sd]
    simp only [qG,tE,yW,hc,am9,am_]
  ·simp only [am',anm,show¬ (18:Int)=0 by omega,am9,anb]
   exact IU (XH ab bK i 3 d n1 n2 18 (gq h) (by omega) (by omega) hd (by omega) (by omega) (by omega))
 ·by_cases dI:bH=8
  ·subst dI;simp only [am8,am',am9,am_,show¬ 8=3 by omega,show((8:Nat):Int)=8 from rfl,true_and,show¬ (8:Int)=3 by omega,false_and,ann]
   cases h:bk l i [45]
   ·simp only [am_,Bool.false_eq_true,ann,am8,ana];obtain⟨Dp,sd⟩:∃j,n2=j+1:=⟨n2-1,by omega⟩
    have hn:=aha i d n1 Dp hi hd (by omega) (by omega) (by omega)
    rw [show anq ((8:Int)+1)=(9:Int)from rfl]
    refine IU ?_
    have ahb:oQ n2 l (i:Int) 9 (d:Int)=Option.bind (tF Dp l (i:Int) (d:Int)) λr2=>some (r2.1,r2.2.1,r2.2.2):=by
     rw [sd,XE];unfold Ib;simp only [am8,am']
    rw [ahb];rcases hn with⟨a,k,e1,e2,jU,eV,iS⟩|⟨k,c,z,a,e1,e2,hc,hk⟩
    ·refine Or.inl ⟨a,k,e1,?_,jU,eV,iS⟩;rw [e2];simp only [ai]
     conv=>lhs;arg 8;rw [sd]
     simp only [qG,tE,am8,am'];rw [PS l k 8 (by omega) (by decide),if_neg (XB l k).2]
     simp only [ai,am8,am',fI]
    ·refine Or.inr ⟨k,c,z,⟨0,0,[],[]⟩,e1,?_,hc,hk⟩;rw [e2];simp only [ai]
     conv=>lhs;arg 8;rw [sd]
     simp only [qG,tE,yW,hc,am9,am_]
   ·simp only [am',anm,show¬ (9:Int)=0 by omega,am9,anb]
    exact IU (XH ab bK i 8 d n1 n2 9 (gq h) (by omega) (by omega) hd (by omega) (by omega) (by omega))
  ·have hn:=bK i (bH+1) d n1 n2 hi (by omega) (by omega) hd (by omega) (by omega) (by omega)
   simp only [aj,dI,am9,am_,fi,false_and,ann,am8,ana];rw [bg (by omega)]
   rcases hn with⟨a,k,e1,e2,jU,eV,iS⟩|⟨k,c,z,a,e1,e2,hc,hk⟩
   ·rw [e1,e2];simp only [ai,ax.on];exact ag' ab bK i bH d n1 n2 gQ (by omega) hd (by omega) (by omega) (by omega) n1 n2 k a (by omega) (by omega) jU eV iS
   ·rw [e1,e2];obtain⟨Dp,sd⟩:∃j,n2=j+1:=⟨n2-1,by omega⟩
    simp only [ai,ax.on];refine Or.inr ⟨k,c,_,⟨0,0,[],[]⟩,rfl,?_,hc,hk⟩
    conv=>lhs;arg 8;rw [sd]
    simp only [qG,tE,yW,hc,am9,am_]
theorem Dq(ab:l.length≤1000000000)(hg:jT l):∀cY,zd l cY∧PV l cY∧IS l cY
 | 0=>⟨λi bH d n1 n2 hi Z aa hd hm=>by omega,λi d n1 n2 hi hd hm=>by omega,λi d n1 n2 hi hd hm Z aa=>by
  obtain⟨n1,rfl⟩:∃k,n1=k+1:=⟨n1-1,by omega⟩
  obtain⟨n2,rfl⟩:∃k,n2=k+1:=⟨n2-1,by omega⟩
  rw [PU,XF];unfold tn Ie;rw [np n1 l i _ (by omega) (by omega),qO l i _ (by omega) (by omega)]
  have h:bk l i [40]=false:=by
   cases ak:bk l i [40]
   ·rfl
   ·have:=gq ak;omega
  simp only [ai,h,am_,ax.on,hq l i,am9,anb,am'];exact Or.inr ⟨i,_,_,_,rfl,rfl,hq l i,hi⟩⟩
 |cY+1=>⟨ag_ ab (Dq ab hg cY).1 (Dq ab hg cY).2.1,ag9 ab hg (Dq ab hg cY).2.2,ag5 ab (Dq ab hg cY).1⟩
end
open Go Go.Ab Go.Proofs
def XI(n:Nat)(l:List Token)(k:Nat)(ab:l.length≤1000000000)(hk:k≤l.length):O4 n l (k:Int)=some (Dn l k):=by
 unfold O4 Dn;by_cases h0:l.length=0
 ·simp only [h0,fi,am8,am',anm,show¬ k<0 by omega,ann]
 ·have e:anq (((l.length:Nat):Int)-1)=((l.length-1:Nat):Int):=by rw [wr]<;>omega
  rw [e];simp only [fi,h0,am9,am_,ang];by_cases h:k<l.length
  ·simp only [show¬ l.length-1<k by omega,am9,am_,b3 h,aM,anf,h,anm]
  ·simp only [show l.length-1<k by omega,am8,am',b3 (show l.length-1<l.length by omega),aM,anf,h,ann]
def IW(l:List Token)(k:Nat)(c:Int):AU 332 (mp l k c)=some (Dn l k,c):=rfl
open Go Go.Ab Go.Proofs
def zf(n:Nat)(l:List Token)(i:Nat)(eA:Int)(ab:l.length≤1000000000)(hi:i≤l.length):
 m8 n eA ⟨l,(i:Int)⟩=some (if i<l.length∧(l.getD i default).Kind=eA then .ret (l.getD i default) ((i+1:Nat):Int)else .az (mp l i (h6 l i 5)) (i:Int)):=by
 unfold m8 G'
 (rw [bg (by omega),IT (by omega)];simp only [anf])
 simp only [Int.ofNat_le,eo];by_cases h:i<l.length
 ·simp only [show¬ l.length≤i by omega,am9,Bool.false_or,b3 h,aM,h,true_and]
  by_cases hk:(l.getD i default).Kind=eA
  ·rw [if_pos hk];simp only [hk,am8,ana,am_]
  ·rw [if_neg hk];simp only [hk,am9,anb,am',tV n l i 5 (by omega),ai,ax.on]
 ·rw [if_neg (λx=>h x.1)]
  simp only [show l.length≤i by omega,am8,Bool.true_or,aM,am',tV n l i 5 (by omega),ai,ax.on]
def IX(n:Nat)(l:List Token)(i:Nat)(eA:Int)(ab:l.length≤1000000000)(hi:i≤l.length):
 r' n l (i:Int) eA=some (if i<l.length∧(l.getD i default).Kind=eA then(l.getD i default,((i+1:Nat):Int),0) else(⟨0,[],0,0⟩,(i:Int),h6 l i 5)):=by
 unfold r'
 (rw [bg (by omega)];simp only [anf])
 simp only [Int.ofNat_le,eo,zc,ai];by_cases h:i<l.length
 ·simp only [show¬ l.length≤i by omega,am9,Bool.false_or,b3 h,aM,h,true_and]
  by_cases hk:(l.getD i default).Kind=eA
  ·rw [if_pos hk];simp only [hk,am8,ana,am_]
  ·rw [if_neg hk];simp only [hk,am9,anb,am']
 ·rw [if_neg (λx=>h x.1)]
  simp only [show l.length≤i by omega,am8,Bool.true_or,aM,am']
section
variable {α:Type} {wt:α→Nat} {l:List Token}
theorem tY{β:Type}{XJ:β→Nat}{i j:Nat}{p:Option (ax β Int)}{q:Option (β×Int×Int)}(h:gX XJ l j p q)
 {F:β→Int→Option (ax α Int)} {R:β×Int×Int→Option (α×Int×Int)}
 (dD:∀a (k:Nat),j<k→k≤l.length→XJ a+ed l j≤ed l k→gX wt l i (F a (k:Int)) (R (a,(k:Int),0)))
 (Dr:∀a (k:Int) c,c≠0→∃dc,R (a,k,c)=some (dc,k,c)):
 gX wt l i (Option.bind p λr=>ax.on r (λa b=>F a b) (λx b=>some (.az x b))) (Option.bind q R):=by
 rcases h with⟨a,k,e1,e2,Z,aa,aj⟩|⟨k,c,z,a,e1,e2,Z,aa⟩
 ·rw [e1,e2];exact dD a k Z aa aj
 ·rw [e1,e2];obtain⟨dc,sR⟩:=Dr a (k:Int) c Z;exact Or.inr ⟨k,c,z,dc,rfl,sR,Z,aa⟩
theorem zg{i j n1 n2:Nat}{w:ano}(ab:l.length≤1000000000)(hj:j≤l.length)(hn:2≤n2)
 {F:Unit→Int→Option (ax α Int)} {R:Int×Int→Option (α×Int×Int)}
 (dD:bk l j w=true→j<l.length→ed l (j+1)=ed l j+60+(l.getD j default).Text.length→gX wt l i (F () ((j+1:Nat):Int)) (R (((j+1:Nat):Int),0)))
 (Dr:∀(k:Int) c,c≠0→∃dc,R (k,c)=some (dc,k,c)):
 gX wt l i (Option.bind (ii n1 w ⟨l,(j:Int)⟩) λr=>ax.on r (λa b=>F a b) (λx b=>some (.az x b))) (Option.bind (jR n2 l (j:Int) [w]) R):=by
 rw [np n1 l j w (by omega) (by omega),qO l j w hn (by omega)]
 cases h:bk l j w
 ·obtain⟨dc,sR⟩:=Dr (j:Int) (h6 l j 5) (hq l j);exact Or.inr ⟨j,_,_,dc,rfl,sR,hq l j,hj⟩
 ·exact dD h (gq h) (hB l j (gq h))
theorem PY{i j n1 n2:Nat}{eA:Int}(ab:l.length≤1000000000)(hj:j≤l.length)
 {F:Token→Int→Option (ax α Int)} {R:Token×Int×Int→Option (α×Int×Int)}
 (dD:j<l.length→ed l (j+1)=ed l j+60+(l.getD j default).Text.length→gX wt l i (F (l.getD j default) ((j+1:Nat):Int)) (R (l.getD j default,((j+1:Nat):Int),0)))
 (Dr:∀t (k:Int) c,c≠0→∃dc,R (t,k,c)=some (dc,k,c)):
 gX wt l i (Option.bind (m8 n1 eA ⟨l,(j:Int)⟩) λr=>ax.on r (λa b=>F a b) (λx b=>some (.az x b))) (Option.bind (r' n2 l (j:Int) eA) R):=by
 rw [zf n1 l j eA ab hj,IX n2 l j eA ab hj];by_cases h:j<l.length∧(l.getD j default).Kind=eA
 ·rw [if_pos h,if_pos h];exact dD h.1 (hB l j h.1)
 ·rw [if_neg h,if_neg h];obtain⟨dc,sR⟩:=Dr ⟨0,[],0,0⟩ (j:Int) (h6 l j 5) (hq l j);exact Or.inr ⟨j,_,_,dc,rfl,sR,hq l j,hj⟩
end
mutual
def fst:Stmt→Nat
 |⟨_,Name,_,A,B,Body,bx⟩=>80+Name.length+cm A+cm B+di Body+di bx
def di:List Stmt→Nat
 |[]=>0
 |x::l=>fst x+1+di l
end
def iT(s:Stmt):(⟨s.Op,s.Name,s.Max,s.A,s.B,s.Body,s.bx⟩:Stmt)=s:=by cases s;rfl
def fst_eq(s:Stmt):fst s=80+s.Name.length+cm s.A+cm s.B+di s.Body+di s.bx:=by cases s;rfl
def IY:∀l m:List Stmt,di (l++m)=di l+di m
 |[],m=>by simp [di]
 |x::l,m=>by rw [List.cons_append,di,di,IY l m];omega
def wu:∀l:List Stmt,80*l.length≤di l
 |[]=>Nat.le_refl _
 |x::l=>by have:=wu l;have:=fst_eq x;simp only [di,anc];omega
def PZ(n:Nat)(s:Stmt)(l:List Token)(i:Nat)(hi:i≤4611686018427387904)(ab:l.length≤4611686018427387904):
 lD n s ⟨l,(i:Int)⟩=some (bif bk l i [59]then .ret s ((i+1:Nat):Int)else .az (mp l i (h6 l i 5)) (i:Int)):=by
 unfold lD;rw [np n l i _ hi ab];cases bk l i [59]
 ·rfl
 ·simp only [ai,am',ax.on,fI,iT]
def l7:List (ano×Int):=[([108,101,116],1),([112,117,116],3),([100,101,108,101,116,101],4),([105,102],5),([102,111,114],6),([101,109,105,116],7),([97,98,111,114,116],8)]
def P0(l:List Token)(i:Nat):Int:=call2 (l7.find? λr=>bk l i r.1)
def ahc(n:Nat)(l:List Token)(at_:Int)(al:Int→ant)(v5:Int):VQ n l at_ al v5 =
 bif (decide (v5<((l7.length:Nat):Int))) then(
  aq (aH v5 l7.length)<|
  Option.bind (kl n l at_ ((l7.map (·.1)).getD (v5).toNat default)) λbD=>
  bif bD then(
   aq (aH v5 l7.length)<|
   some ((l7.map (·.2)).getD (v5).toNat default))
  else(
   al (anq (v5+1))))
 else VP n:=rfl
def ahd(n:Nat)(l:List Token)(a:Nat):∀m i,l7.length<i+m→i≤l7.length→If n l (a:Int) m (i:Int)=some (call2 ((l7.drop i).find? λr=>bk l a r.1)):=by
 have hlen:l7.length=7:=rfl;intro m;induction m with
 |zero=>intro i h aa;omega
 |succ m aF=>
  intro i hm hi;rw [If,ahc];by_cases h:i<l7.length
  ·(rw [eS l7 i default h,bg (by omega),aF (i+1) (by omega) (by omega)];simp only [anf];rw [getD_map _ _ _ h,getD_map _ _ _ h])
   generalize l7.getD i default=t
   simp only [h,b3 h,ang,am8,am',aM,n9,ai,List.find?_cons];cases bk l a t.1<;>rfl
  ·rw [gi l7 i h];simp only [h,ang,am9,am_];rfl
def ahe{n:Nat}(l:List Token)(a:Nat)(hn:8<n):VR n l (a:Int)=some (P0 l a):=by
 have hlen:l7.length=7:=rfl;exact ahd n l a n 0 (by omega) (by omega)
def Ds{l:List Token}{i:Nat}{v w:ano}(h:bk l i v=true)(ahf:v≠w):bk l i w=false:=by
 unfold bk at h ⊢;simp only [Bool.and_eq_true,decide_eq_true_eq]at h;rw [decide_eq_false (show¬ (l.getD i default).Text=w by rw [h.2.2];exact ahf)]
 simp
open Go Go.Ab Go.Proofs
def XK(n:Nat):nb (n+1)=Ci n (nb n) (qD n) (pF n):=rfl
def XL(n:Nat):qD (n+1)=Ck n (nb n) (qD n) (pF n):=rfl
def XM(n:Nat):pF (n+1)=Cu n (nb n) (qD n) (pF n):=rfl
def ahg(n:Nat):mB (n+1)=O9 n (mB n) (n0 n) (oR n) (ni n):=rfl
def ahh(n:Nat):n0 (n+1)=O' n (mB n) (n0 n) (oR n) (ni n):=rfl
def XN(n:Nat):oR (n+1)=Ii n (mB n) (n0 n) (oR n) (ni n):=rfl
def P1(n:Nat):ni (n+1)=CT n (mB n) (n0 n) (oR n) (ni n):=rfl
section
variable {l:List Token}
theorem wv(ab:l.length≤1000000000)(hg:jT l){i n1 n2:Nat}(hi:i≤l.length)(Z:40*l.length+200≤n1)(aa:40*l.length+200≤n2):
 gX cm l i (fe n1 1 0 ⟨l,(i:Int)⟩) (oQ n2 l (i:Int) 1 0):=
 (Dq ab hg (20*l.length+18)).1 i 1 0 n1 n2 hi (by omega) (by omega) (by omega) (by omega) (by omega) (by omega)
def Dt(l:List Token)(cY:Nat):Prop:=∀(i d n1 n2:Nat),i≤l.length→d≤13→2*(l.length-i)+2≤cY→40*l.length+200+6*cY≤n1→40*l.length+200+6*cY≤n2→
 gX (λb=>di b+120) l i (nb n1 (d:Int) ⟨l,(i:Int)⟩) (mB n2 l (i:Int) (d:Int))
def IZ(l:List Token)(cY:Nat):Prop:=∀(i d n1 n2:Nat),i≤l.length→d≤12→2*(l.length-i)+1≤cY→40*l.length+200+6*cY≤n1→40*l.length+200+6*cY≤n2→
 gX (λs=>fst s+1) l i (qD n1 ((d+1:Nat):Int) ⟨l,(i:Int)⟩) (n0 n2 l (i:Int) (d:Int))
theorem ahi{k:Nat}(h:k≤100000000000):room k 192=true:=by simp [room];omega
theorem ahj{cY:Nat}(ab:gv l≤1000000000)(zh:IZ l cY)(i d n1 n2:Nat)(hd:d≤12)(hm:2*(l.length-i)≤cY+1)(Z:40*l.length+200+6*cY≤n1)(aa:40*l.length+200+6*cY≤n2):
 ∀(m1 m2 k:Nat) (acc:List Stmt),l.length-k<m1→l.length-k<m2→i<k→k≤l.length→di acc+60+ed l i≤ed l k→
 gX (λb=>di b+120) l i (tp n1 (nb n1) (qD n1) (pF n1) (d:Int) ⟨l,(i:Int)⟩ m1 (k:Int) acc)
  (Ig n2 (mB n2) (n0 n2) (oR n2) (ni n2) l (d:Int) m2 (k:Int) acc):=by
 have lJ:=l6 l;have pg:ed l l.length=gv l:=by unfold ed;rw [List.take_length]
 intro m1;induction m1 with
 |zero=>intro m2 k acc h;omega
 |succ m1 aF=>
  intro m2 k acc XG PM qo hk ha;obtain⟨m2,rfl⟩:∃j,m2=j+1:=⟨m2-1,by omega⟩
  have ahk:=tW l k l.length hk;have tR:=wu acc;simp only [tp,Ha,G_,Ig,VT,VS,fI,iT];rw [kr n1 l k _ (by omega),n9,bg (by omega),bg (by omega)]
  simp only [ai];cases h:bk l k [125]
  ·simp only [anb,am',am_];rcases zh k d n1 n2 hk hd (by omega) Z aa with⟨a,k',e1,e2,jU,eV,iS⟩|⟨k',c,z,a,e1,e2,hc,kE⟩
   ·rw [e1,e2];simp only at iS
    simp only [ai,ax.on,am8,ana,am_,anc,ane,ahi (show acc.length+(0+1)≤100000000000 by omega),aM]
    exact aF m2 k' (acc++[a]) (by omega) (by omega) (by omega) eV (by rw [IY];simp only [di];omega)
   ·rw [e1,e2];simp only [ai,ax.on,hc,am9,anb,am'];exact Or.inr ⟨k',c,_,_,rfl,rfl,hc,kE⟩
  ·have bm:=gq h;have iE:=hB l k bm;simp only [ana,am',am_];exact Or.inl ⟨acc,k+1,rfl,rfl,by omega,by omega,by simp only;omega⟩
theorem ahl{cY:Nat}(ab:gv l≤1000000000)(zh:IZ l cY):Dt l (cY+1):=by
 have lJ:=l6 l;intro i d n1 n2 hi hd hm Z aa;obtain⟨n1,rfl⟩:∃k,n1=k+1:=⟨n1-1,by omega⟩
 obtain⟨n2,rfl⟩:∃k,n2=k+1:=⟨n2-1,by omega⟩
 rw [XK,ahg];unfold Ci O9 Cg;rw [tU,np n1 l i _ (by omega) (by omega),qO l i _ (by omega) (by omega),tV n1 l i 2 (by omega)]
 simp only [ai,f'];cases h:bk l i [123]
 ·simp only [am_,ax.on,hq l i,am9,anb,am'];exact Or.inr ⟨i,_,_,_,rfl,rfl,hq l i,hi⟩
 ·have bm:=gq h;have iE:=hB l i bm;simp only [am',am8,ana,am_,ax.on];by_cases f6:12<d
  ·simp only [f6,am8,am'];rw [IT (by omega),show h6 l i 2=2 from if_pos bm]
   exact Or.inr ⟨i,2,_,_,rfl,rfl,by decide,hi⟩
  ·simp only [f6,am9,am_];exact ahj ab zh i d n1 n2 (by omega) (by omega) (by omega) (by omega) n1 n2 (i+1) [] (by omega) (by omega) (by omega) (by omega) (by simp only [di];omega)
end
open Go Go.Ab Go.Proofs
section
variable {l:List Token}
theorem ahm{α:Type}{wt:α→Nat}{i:Nat}{p:Option (ax α Int)}{q:Option (α×Int×Int)}(h:gX wt l i p q):
 gX wt l i (Option.bind p λr=>ax.on r (λa b=>some (.ret a b)) (λx b=>some (.az x b))) (Option.bind q λr=>some (r.1,r.2.1,r.2.2)):=by
 rcases h with⟨a,k,e1,e2,h⟩|⟨k,c,z,a,e1,e2,h⟩
 ·rw [e1,e2];exact Or.inl ⟨a,k,rfl,rfl,h⟩
 ·rw [e1,e2];exact Or.inr ⟨k,c,z,a,rfl,rfl,h⟩
theorem ahn{n:Nat}(k:Nat)(s:Stmt)(d:Int)(hn:2≤n)(hk:k≤1000000000)(aV:s.Op≠5)(bP:s.Op≠6):
 ni (n+1) l (k:Int) s d=some (bif bk l k [59] then(s,((k+1:Nat):Int),0) else(s,(k:Int),h6 l k 5)):=by
 rw [P1];unfold CT;simp only [aV,bP,am9,am_,fI,iT];rw [qO l k _ hn (by omega)]
 simp only [ai];cases bk l k [59]<;>rfl
theorem P2{i k n1 n2:Nat}(ab:l.length≤1000000000)(hn:3≤n2)(s:Stmt)(d:Int)(qo:i<k)(hk:k≤l.length)(aV:s.Op≠5)(bP:s.Op≠6)(hw:fst s+1+ed l i≤ed l k+60):
 gX (λs=>fst s+1) l i (Option.bind (lD n1 s ⟨l,(k:Int)⟩) λr=>ax.on r (λa b=>some (.ret a b)) (λx b=>some (.az x b)))
  (Option.bind (ni n2 l (k:Int) s d) λr=>some (r.1,r.2.1,r.2.2)):=by
 obtain⟨n2,rfl⟩:∃j,n2=j+1:=⟨n2-1,by omega⟩
 refine ahm ?_;rw [PZ n1 s l k (by omega) (by omega),ahn k s d (by omega) (by omega) aV bP]
 cases h:bk l k [59]
 ·exact Or.inr ⟨k,_,_,_,rfl,rfl,hq l k,hk⟩
 ·have bm:=gq h;have iE:=hB l k bm;exact Or.inl ⟨s,k+1,rfl,rfl,by omega,by omega,by simp only;omega⟩
theorem Du:cm ⟨0,0,[],[]⟩=30:=by simp [cm,jA]
theorem zi:di []=0:=rfl
theorem aho(l:List Token)(i:Nat):P0 l i=bif bk l i [108,101,116]then 1 else bif bk l i [112,117,116]then 3 else bif bk l i [100,101,108,101,116,101]then 4 else bif bk l i [105,102]then 5 else bif bk l i [102,111,114]then 6 else bif bk l i [101,109,105,116]then 7 else bif bk l i [97,98,111,114,116]then 8 else 0:=by
 unfold P0 l7;simp only [List.find?_cons,List.find?_nil];cases bk l i [108,101,116]
 ·cases bk l i [112,117,116]
  ·cases bk l i [100,101,108,101,116,101]
   ·cases bk l i [105,102]
    ·cases bk l i [102,111,114]
     ·cases bk l i [101,109,105,116]
      ·cases bk l i [97,98,111,114,116]<;>rfl
      ·rfl
     ·rfl
    ·rfl
   ·rfl
  ·rfl
 ·rfl
theorem ahp{i:Nat}(h:i≤1000000000):anq (anq ((i:Int)-1)+1)=(i:Int):=by
 rw [wr (x:=(i:Int)-1) (by omega) (by omega),wr (by omega) (by omega)];omega
theorem XO(ab:gv l≤1000000000)(hg:jT l)(i j d n1 n2:Nat)(op:Int)(fC:op=1∨op=2)(rk:i≤j)(hj:j≤l.length)(Z:40*l.length+200≤n1)(aa:40*l.length+204≤n2):
 gX (
  λs=>fst s+1) l i
  (Option.bind (m8 n1 1 ⟨l,(j:Int)⟩) λr3=>ax.on r3 (λbc bQ=>Option.bind (ii n1 [61] ⟨l,bQ⟩) λbD=>ax.on bD (λcH b4=>
   Option.bind (fe n1 1 0 ⟨l,b4⟩) λbz=>ax.on bz (λb9 cK=>Option.bind (lD n1 ⟨op,bc.Text,0,b9,⟨0,0,[],[]⟩,[],[]⟩ ⟨l,cK⟩) λda=>
   ax.on da (λct cL=>some (.ret ct cL)) (λkL cL=>some (.az kL cL))) (λr0 cK=>some (.az r0 cK))) (λCl b4=>some (.az Cl b4))) (λrV bQ=>some (.az rV bQ)))
  (Option.bind (r' n2 l (j:Int) 1) λbe=>
   bif (!decide (be.2.2=0))then some ((⟨op,[],0,⟨0,0,[],[]⟩,⟨0,0,[],[]⟩,[],[]⟩:Stmt),be.2.1,be.2.2)
   else Option.bind (jR n2 l be.2.1 [[61]]) λbD=>
    bif (!decide (bD.2=0))then some ((⟨op,be.1.Text,0,⟨0,0,[],[]⟩,⟨0,0,[],[]⟩,[],[]⟩:Stmt),bD.1,bD.2)
    else nh n2 (mB n2) (n0 n2) (oR n2) (ni n2) l (d:Int) op be.1.Text bD.1):=by
 have lJ:=l6 l;have amT:=tW l i j rk;have P3:¬ op=8:=by omega
 have P4:¬ op=3:=by omega
 have P5:¬ op=6:=by omega
 refine PY (by omega) hj (λbm iE=>?_) (λt k c hc=>⟨_,by simp only [hc,am9,anb,am'];rfl⟩)
 generalize l.getD j default=t at iE
 simp only [am8,ana,am_];refine zg (by omega) (by omega) (by omega) (λaA zj ze=>?_) (λk c hc=>⟨_,by simp only [hc,am9,anb,am'];rfl⟩)
 simp only [am8,ana,am_,nh,v',P3,P4,P5,am9,fI,iT];refine tY (wv (by omega) hg (by omega) Z (by omega)) (λa k jU eV iS=>?_) (λa k c hc=>⟨_,by simp only [hc,am9,anb,am'];rfl⟩)
 simp only [am8,ana,am_];refine P2 (by omega) (by omega) _ _ (by omega) eV (by simp only;omega) (by simp only;omega) ?_
 simp only [fst,Du,zi];omega
end
open Go Go.Ab Go.Proofs
section
variable {l:List Token}
theorem XP(ab:gv l≤1000000000)(hg:jT l)(i j d n1 n2:Nat)(op:Int)(fC:op=4∨op=7)(rk:i<j)(hw:ed l i+60≤ed l j)(hj:j≤l.length)(Z:40*l.length+200≤n1)(aa:40*l.length+204≤n2):
 gX (λs=>fst s+1) l i
  (Option.bind (fe n1 1 0 ⟨l,(j:Int)⟩) λbz=>ax.on bz (λb9 cK=>Option.bind (lD n1 ⟨op,[],0,b9,⟨0,0,[],[]⟩,[],[]⟩ ⟨l,cK⟩) λda=>
   ax.on da (λct cL=>some (.ret ct cL)) (λkL cL=>some (.az kL cL))) (λr0 cK=>some (.az r0 cK)))
  (nh n2 (mB n2) (n0 n2) (oR n2) (ni n2) l (d:Int) op [] (j:Int)):=by
 have lJ:=l6 l;have P3:¬ op=8:=by omega
 have P4:¬ op=3:=by omega
 have P5:¬ op=6:=by omega
 simp only [nh,v',P3,P4,P5,am9,am_,fI,iT];refine tY (wv (by omega) hg (by omega) Z (by omega)) (λa k jU eV iS=>?_) (λa k c hc=>⟨_,by simp only [hc,am9,anb,am'];rfl⟩)
 simp only [am8,ana,am_];refine P2 (by omega) (by omega) _ _ (by omega) eV (by simp only;omega) (by simp only;omega) ?_
 simp only [fst,Du,zi,ane];omega
theorem ahq(ab:gv l≤1000000000)(hg:jT l)(i j d n1 n2:Nat)(rk:i<j)(hw:ed l i+60≤ed l j)(hj:j≤l.length)(Z:40*l.length+200≤n1)(aa:40*l.length+204≤n2):
 gX (λs=>fst s+1) l i
  (Option.bind (fe n1 1 0 ⟨l,(j:Int)⟩) λe8=>ax.on e8 (λcR dU=>Option.bind (ii n1 [61] ⟨l,dU⟩) λfa=>ax.on fa (λr26 r27=>
   Option.bind (fe n1 1 0 ⟨l,r27⟩) λfc=>ax.on fc (λhA fp=>Option.bind (lD n1 ⟨3,[],0,cR,hA,[],[]⟩ ⟨l,fp⟩) λnT=>
   ax.on nT (λct cL=>some (.ret ct cL)) (λkL cL=>some (.az kL cL))) (λr4 fp=>some (.az r4 fp))) (λr5 r27=>some (.az r5 r27))) (λnW dU=>some (.az nW dU)))
  (nh n2 (mB n2) (n0 n2) (oR n2) (ni n2) l (d:Int) 3 [] (j:Int)):=by
 have lJ:=l6 l;simp only [nh,Ih,v',show¬ (3:Int)=8 by omega,show¬ (3:Int)=6 by omega,am8,am9,am',am_,fI,iT]
 refine tY (wv (by omega) hg (by omega) Z (by omega)) (λa k jU eV iS=>?_) (λa k c hc=>⟨_,by simp only [hc,am9,anb,am'];rfl⟩)
 simp only [am8,ana,am_];refine zg (by omega) eV (by omega) (λaA zj ze=>?_) (λk c hc=>⟨_,by simp only [hc,am9,anb,am'];rfl⟩)
 simp only [am8,ana,am_];refine tY (wv (by omega) hg (by omega) Z (by omega)) (λb al XQ Dv P6=>?_) (λa k c hc=>⟨_,by simp only [hc,am9,anb,am'];rfl⟩)
 simp only [am8,ana,am_,fI];refine P2 (by omega) (by omega) _ _ (by omega) Dv (by simp only;omega) (by simp only;omega) ?_
 simp only [fst,zi,ane];omega
theorem ahr(ab:gv l≤1000000000)(i j d n1 n2:Nat)(rk:i<j)(hw:ed l i+60≤ed l j)(hj:j≤l.length)(aa:10≤n2):
 gX (λs=>fst s+1) l i
  (Option.bind (m8 n1 3 ⟨l,(j:Int)⟩) λnY=>ax.on nY (λHe vR=>Option.bind (lD n1 ⟨8,[],He.N,⟨0,0,[],[]⟩,⟨0,0,[],[]⟩,[],[]⟩ ⟨l,vR⟩) λvA=>
   ax.on vA (λct cL=>some (.ret ct cL)) (λkL cL=>some (.az kL cL))) (λr0 cK=>some (.az r0 cK)))
  (nh n2 (mB n2) (n0 n2) (oR n2) (ni n2) l (d:Int) 8 [] (j:Int)):=by
 have lJ:=l6 l;obtain⟨n2,rfl⟩:∃k,n2=k+1:=⟨n2-1,by omega⟩
 simp only [nh,am8,am',fI,iT]
 conv=>rhs;rw [XN]
 unfold Ii;simp only [am8,am',fI,iT];rw [zf n1 l j 3 (by omega) hj,IX n2 l j 3 (by omega) hj]
 by_cases h:j<l.length∧(l.getD j default).Kind=3
 ·have iE:=hB l j h.1;rw [if_pos h,if_pos h];generalize l.getD j default=t at iE
  simp only [ai,ax.on,am8,ana,am_];rw [PZ n1 _ l (j+1) (by omega) (by omega),qO l (j+1) _ (by omega) (by omega)]
  cases cq:bk l (j+1) [59]
  ·exact Or.inr ⟨j+1,_,_,_,rfl,rfl,hq l _,by omega⟩
  ·have bm:=gq cq;have ze:=hB l (j+1) bm;refine Or.inl ⟨⟨8,[],t.N,⟨0,0,[],[]⟩,⟨0,0,[],[]⟩,[],[]⟩,j+1+1,rfl,rfl,by omega,by omega,?_⟩
   simp only [fst,Du,zi,ane];omega
 ·rw [if_neg h,if_neg h];simp only [ai,ax.on,hq l j,am9,anb,am'];exact Or.inr ⟨j,_,_,_,rfl,rfl,hq l j,hj⟩
theorem ahs{cY:Nat}(ab:gv l≤1000000000)(hg:jT l)(cJ:Dt l cY)(i j d n1 n2:Nat)(rk:i<j)(hw:ed l i+60≤ed l j)(hj:j≤l.length)(hd:d≤12)(hm:2*(l.length-i)≤cY+1)(Z:40*l.length+200+6*cY≤n1)(aa:40*l.length+204+6*cY≤n2):
 gX (λs=>fst s+1) l i
  (Option.bind (fe n1 1 0 ⟨l,(j:Int)⟩) λNJ=>ax.on NJ (λnX r7=>Option.bind (nb n1 ((d+1:Nat):Int) ⟨l,r7⟩) λNK=>ax.on NK (λqB r8=>
   Option.bind (ki n1 [101,108,115,101] ⟨l,r8⟩) λtq=>
   bif tq.1 then Option.bind (nb n1 ((d+1:Nat):Int) ⟨l,tq.2⟩) λNL=>ax.on NL (λHg r9=>some (.ret (⟨5,[],0,nX,⟨0,0,[],[]⟩,qB,Hg⟩:Stmt) r9)) (λCn r9=>some (.az Cn r9))
   else some (.ret (⟨5,[],0,nX,⟨0,0,[],[]⟩,qB,[]⟩:Stmt) tq.2)) (λCo r8=>some (.az Co r8))) (λCp r7=>some (.az Cp r7)))
  (nh n2 (mB n2) (n0 n2) (oR n2) (ni n2) l (d:Int) 5 [] (j:Int)):=by
 have lJ:=l6 l;obtain⟨n2,rfl⟩:∃k,n2=k+1:=⟨n2-1,by omega⟩
 simp only [nh,v',show¬ (5:Int)=8 by omega,show¬ (5:Int)=6 by omega,show¬ (5:Int)=3 by omega,am9,am_,fI,iT]
 refine tY (wv (by omega) hg (by omega) (by omega) (by omega)) (λa k jU eV iS=>?_) (λa k c hc=>⟨_,by simp only [hc,am9,anb,am'];rfl⟩)
 simp only [am8,ana,am_,P1,CT,O_,show¬ (5:Int)=6 by omega,am9,am',fI,iT]
 rw [bg (by omega)]
 rcases cJ k (d+1) n1 n2 eV (by omega) (by omega) (by omega) (by omega) with⟨b,k',e1,e2,XQ,Dv,P6⟩|⟨k',c,z,b,e1,e2,hc,kE⟩
 ·simp only at P6
  rw [e1,e2];simp only [ai,ax.on,am8,am'];rw [kr n1 l k' _ (by omega),n9,bg (by omega)]
  simp only [ai];cases h:bk l k' [101,108,115,101]
  ·simp only [am_,ai];refine Or.inl ⟨⟨5,[],0,a,⟨0,0,[],[]⟩,b,[]⟩,k',rfl,rfl,by omega,Dv,?_⟩
   simp only [fst,Du,zi,ane];omega
  ·have bm:=gq h;have iE:=hB l k' bm;simp only [am'];rcases cJ (k'+1) (d+1) n1 n2 (by omega) (by omega) (by omega) (by omega) (by omega) with⟨gz,al,e1,e2,aht,P7,I0⟩|⟨al,c,z,gz,e1,e2,hc,ahu⟩
   ·simp only at I0
    rw [e1,e2];refine Or.inl ⟨⟨5,[],0,a,⟨0,0,[],[]⟩,b,gz⟩,al,rfl,rfl,by omega,P7,?_⟩
    simp only [fst,Du,ane];omega
   ·rw [e1,e2];exact Or.inr ⟨al,c,_,_,rfl,rfl,hc,ahu⟩
 ·rw [e1,e2];simp only [ai,ax.on,hc,am9,am_];exact Or.inr ⟨k',c,_,_,rfl,rfl,hc,kE⟩
end
open Go Go.Ab Go.Proofs
section
variable {l:List Token}
theorem ahv{cY:Nat}(ab:gv l≤1000000000)(hg:jT l)(cJ:Dt l cY)(i j d n1 n2:Nat)(rk:i<j)(hw:ed l i+60≤ed l j)(hj:j≤l.length)(hd:d≤12)(hm:2*(l.length-i)≤cY+1)(Z:40*l.length+202+6*cY≤n1)(aa:40*l.length+204+6*cY≤n2):
 gX (
  λs=>fst s+1) l i
  (Option.bind (pF n1 ((d+1:Nat):Int) ⟨l,(j:Int)⟩) λr=>ax.on r (λa b=>some (.ret a b)) (λx b=>some (.az x b)))
  (Option.bind (r' n2 l (j:Int) 1) λbe=>
   bif (!decide (be.2.2=0))then some ((⟨6,[],0,⟨0,0,[],[]⟩,⟨0,0,[],[]⟩,[],[]⟩:Stmt),be.2.1,be.2.2)
   else Option.bind (jR n2 l be.2.1 [[61]]) λbD=>
    bif (!decide (bD.2=0))then some ((⟨6,be.1.Text,0,⟨0,0,[],[]⟩,⟨0,0,[],[]⟩,[],[]⟩:Stmt),bD.1,bD.2)
    else nh n2 (mB n2) (n0 n2) (oR n2) (ni n2) l (d:Int) 6 be.1.Text bD.1):=by
 have lJ:=l6 l;obtain⟨n1,rfl⟩:∃k,n1=k+1:=⟨n1-1,by omega⟩
 obtain⟨n2,rfl⟩:∃k,n2=k+2:=⟨n2-2,by omega⟩
 suffices h:gX (λs=>fst s+1) l i (pF (n1+1) ((d+1:Nat):Int) ⟨l,(j:Int)⟩) _ by
  rcases h with⟨a,k,e1,e2,h⟩|⟨k,c,z,a,e1,e2,h⟩
  ·rw [e1];exact Or.inl ⟨a,k,rfl,e2,h⟩
  ·rw [e1];exact Or.inr ⟨k,c,z,a,rfl,e2,h⟩
 rw [XM];unfold Cu;refine PY (by omega) hj (λbm iE=>?_) (λt k c hc=>⟨_,by simp only [hc,am9,anb,am'];rfl⟩)
 generalize l.getD j default=t at iE
 simp only [am8,ana,am_];refine zg (by omega) (by omega) (by omega) (λaA zj ze=>?_) (λk c hc=>⟨_,by simp only [hc,am9,anb,am'];rfl⟩)
 simp only [am8,ana,am_,nh,Ih,v',show¬ (6:Int)=8 by omega,am9,am',fI,iT]
 refine tY (wv (by omega) hg (by omega) (by omega) (by omega)) (λa k jU eV iS=>?_) (λa k c hc=>⟨_,by simp only [hc,am9,anb,am'];rfl⟩)
 have kC:(bif decide ((6:Int)=3)then true else decide ((6:Int)=6))=true:=rfl
 simp only [am8,ana,am_,kC,am'];refine zg (by omega) eV (by omega) (λaA ahw PW=>?_) (λk c hc=>⟨_,by simp only [hc,am9,anb,am'];rfl⟩)
 simp only [am8,ana,am_];refine tY (wv (by omega) hg (by omega) (by omega) (by omega)) (λb al XQ Dv P6=>?_) (λa k c hc=>⟨_,by simp only [hc,am9,anb,am'];rfl⟩)
 simp only [am8,ana,am_,fI];rw [show n2+2=n2+1+1 from rfl,P1]
 unfold CT;simp only [am8,am',fI,iT]
 -- lu word max
 rw [np n1 l al _ (by omega) (by omega),qO l al _ (by omega) (by omega)]
 simp only [ai];cases ahx:bk l al [109,97,120]
 ·simp only [am_,ax.on,hq l al,am9,anb,am',ai];exact Or.inr ⟨al,_,_,_,rfl,rfl,hq l al,Dv⟩
 ·have P8:=gq ahx;have ahy:=hB l al P8;simp only [am',ax.on,am8,ana,am_];rw [XN];unfold Ii;rw [zf n1 l (al+1) 3 (by omega) (by omega),IX n2 l (al+1) 3 (by omega) (by omega)]
  by_cases h:al+1<l.length∧(l.getD (al+1) default).Kind=3
  ·have ahz:=hB l (al+1) h.1;rw [if_pos h,if_pos h];generalize l.getD (al+1) default=t2 at ahz
   simp only [ai,ax.on,am8,ana,am_,show¬ (6:Int)=8 by omega,am9,fI,iT]
   rw [bg (by omega)]
   rcases cJ (al+1+1) (d+1) n1 n2 (by omega) (by omega) (by omega) (by omega) (by omega) with⟨p6,k',e1,e2,aht,P7,I0⟩|⟨k',c,z,p6,e1,e2,hc,kE⟩
   ·simp only at I0
    rw [e1,e2];refine Or.inl ⟨⟨6,t.Text,t2.N,a,b,p6,[]⟩,k',rfl,rfl,by omega,P7,?_⟩
    simp only [fst,zi];omega
   ·rw [e1,e2];exact Or.inr ⟨k',c,_,_,rfl,rfl,hc,kE⟩
  ·rw [if_neg h,if_neg h];simp only [ai,ax.on,hq l (al+1),am9,anb,am'];exact Or.inr ⟨al+1,_,_,_,rfl,rfl,hq l _,by omega⟩
theorem ahA{cY:Nat}(ab:gv l≤1000000000)(hg:jT l)(cJ:Dt l cY):IZ l (cY+1):=by
 have lJ:=l6 l;intro i d n1 n2 hi hd hm Z aa;obtain⟨n1,rfl⟩:∃k,n1=k+1:=⟨n1-1,by omega⟩
 obtain⟨n2,rfl⟩:∃k,n2=k+1:=⟨n2-1,by omega⟩
 rw [XL,ahh];unfold Ck O' Cj;rw [ahe l i (by omega)]
 have hle:i≤4611686018427387904:=by omega
 simp only [kr n1 l i _ hle,ai,fI,iT];have hk:=aho l i;by_cases I1:bk l i [108,101,116]=true
 ·have bm:=gq I1;have iE:=hB l i bm;rw [I1]at hk;simp only [am']at hk;simp only [I1,am',hk,show¬ (1:Int)=0 by omega,am9,am_,qH]
  rw [bg (by omega)]
  simp only [am8,am'];exact XO ab hg i (i+1) d n1 n2 1 (Or.inl rfl) (by omega) (by omega) (by omega) (by omega)
 have ahB:bk l i [108,101,116]=false:=by simpa using I1
 simp only [ahB,am_]at hk ⊢;simp only [kr n1 l i _ hle,ai];by_cases I2:bk l i [112,117,116]=true
 ·have bm:=gq I2;have iE:=hB l i bm;rw [I2]at hk;simp only [am']at hk;simp only [I2,am',hk,show¬ (3:Int)=0 by omega,am9,am_,qH]
  rw [bg (by omega)]
  have kC:(bif (bif decide ((3:Int)=1)then true else decide ((3:Int)=2))then true else decide ((3:Int)=6))=false:=rfl
  simp only [kC,am_];exact ahq ab hg i (i+1) d n1 n2 (by omega) (by omega) (by omega) (by omega) (by omega)
 have ahC:bk l i [112,117,116]=false:=by simpa using I2
 simp only [ahC,am_]at hk ⊢;simp only [kr n1 l i _ hle,ai];by_cases I3:bk l i [100,101,108,101,116,101]=true
 ·have bm:=gq I3;have iE:=hB l i bm;rw [I3]at hk;simp only [am']at hk;simp only [I3,am',hk,show¬ (4:Int)=0 by omega,am9,am_,qH]
  rw [bg (by omega)]
  have kC:(bif (bif decide ((4:Int)=1)then true else decide ((4:Int)=2))then true else decide ((4:Int)=6))=false:=rfl
  simp only [kC,am_];exact XP ab hg i (i+1) d n1 n2 4 (Or.inl rfl) (by omega) (by omega) (by omega) (by omega) (by omega)
 have ahD:bk l i [100,101,108,101,116,101]=false:=by simpa using I3
 simp only [ahD,am_]at hk ⊢;simp only [kr n1 l i _ hle,ai];by_cases zk:bk l i [101,109,105,116]=true
 ·have bm:=gq zk;have iE:=hB l i bm;rw [Ds zk (w:=[105,102]) (by decide),Ds zk (w:=[102,111,114]) (by decide),zk]at hk
  simp only [am',am_]at hk;simp only [zk,am',hk,show¬ (7:Int)=0 by omega,am9,am_,qH]
  rw [bg (by omega)]
  have kC:(bif (bif decide ((7:Int)=1)then true else decide ((7:Int)=2))then true else decide ((7:Int)=6))=false:=rfl
  simp only [kC,am_];exact XP ab hg i (i+1) d n1 n2 7 (Or.inr rfl) (by omega) (by omega) (by omega) (by omega) (by omega)
 have ahE:bk l i [101,109,105,116]=false:=by simpa using zk
 simp only [ahE,am_]at hk ⊢;simp only [kr n1 l i _ hle,ai];by_cases zl:bk l i [97,98,111,114,116]=true
 ·have bm:=gq zl;have iE:=hB l i bm;rw [Ds zl (w:=[105,102]) (by decide),Ds zl (w:=[102,111,114]) (by decide),zl]at hk
  simp only [am',am_]at hk;simp only [zl,am',hk,show¬ (8:Int)=0 by omega,am9,am_,qH]
  rw [bg (by omega)]
  have kC:(bif (bif decide ((8:Int)=1)then true else decide ((8:Int)=2))then true else decide ((8:Int)=6))=false:=rfl
  simp only [kC,am_];exact ahr ab i (i+1) d n1 n2 (by omega) (by omega) (by omega) (by omega)
 have ahF:bk l i [97,98,111,114,116]=false:=by simpa using zl
 simp only [ahF,am_]at hk ⊢;simp only [kr n1 l i _ hle,ai];by_cases I4:bk l i [105,102]=true
 ·have bm:=gq I4;have iE:=hB l i bm;rw [I4]at hk;simp only [am',am_]at hk;simp only [I4,am',hk,show¬ (5:Int)=0 by omega,am9,am_,qH]
  rw [bg (by omega)]
  have kC:(bif (bif decide ((5:Int)=1)then true else decide ((5:Int)=2))then true else decide ((5:Int)=6))=false:=rfl
  simp only [kC,am_];exact ahs ab hg cJ i (i+1) d n1 n2 (by omega) (by omega) (by omega) hd (by omega) (by omega) (by omega)
 have ahG:bk l i [105,102]=false:=by simpa using I4
 simp only [ahG,am_]at hk ⊢;simp only [kr n1 l i _ hle,ai];by_cases I5:bk l i [102,111,114]=true
 ·have bm:=gq I5;have iE:=hB l i bm;rw [I5]at hk;simp only [am',am_]at hk;simp only [I5,am',hk,show¬ (6:Int)=0 by omega,am9,am_,qH]
  rw [bg (by omega)]
  simp only [am8,am9,am',am_,show¬ (6:Int)=1 by omega,show¬ (6:Int)=2 by omega]
  exact ahv ab hg cJ i (i+1) d n1 n2 (by omega) (by omega) (by omega) hd (by omega) (by omega) (by omega)
 have ahH:bk l i [102,111,114]=false:=by simpa using I5
 simp only [ahH,am_]at hk ⊢;simp only [hk,am8,am',anf,Int.ofNat_le,eo,zc,ai,qH,show(decide ((2:Int)=1))=false from rfl,Bool.true_or,anl,Bool.false_or]
 rw [ahp (by omega)]
 by_cases aU:i<l.length∧(l.getD i default).Kind=1
 ·have hc:(decide (l.length≤i) || !decide ((l.getD i default).Kind=1))=false:=by
   rw [decide_eq_false (by omega),decide_eq_true aU.2];rfl
  simp only [hc,am_,b3 aU.1,anl,aM];exact XO ab hg i i d n1 n2 2 (Or.inr rfl) (by omega) (by omega) (by omega) (by omega)
 ·have hc:(decide (l.length≤i) || !decide ((l.getD i default).Kind=1))=true:=by
   by_cases bm:i<l.length
   ·rw [decide_eq_false (show¬ (l.getD i default).Kind=1 from λe=>aU ⟨bm,e⟩)];simp
   ·rw [decide_eq_true (show l.length≤i by omega)];rfl
  have hin:(decide (l.length≤i)||aH (i:Int) l.length)=true:=by
   by_cases bm:i<l.length
   ·rw [b3 bm];simp
   ·rw [decide_eq_true (show l.length≤i by omega)];rfl
  simp only [hc,hin,am',aM];rw [zf n1 l i 1 (by omega) hi,if_neg aU]
  exact Or.inr ⟨i,_,_,_,rfl,rfl,hq l i,hi⟩
theorem P9(ab:gv l≤1000000000)(hg:jT l):∀cY,Dt l cY∧IZ l cY
 | 0=>⟨λi d n1 n2 hi hd hm=>by omega,λi d n1 n2 hi hd hm=>by omega⟩
 |cY+1=>⟨ahl ab (P9 ab hg cY).2,ahA ab hg (P9 ab hg cY).1⟩
end
open Go Go.Ab Go.Proofs
def n_(l:List Token)(k:Nat):Param ⊕ Nat:=
 if k<l.length∧(l.getD k default).Kind=1 then
  bif bk l (k+1) [58] then
   bif bk l (k+2) [105,110,116]then .inl ⟨(l.getD k default).Text,1⟩
   else bif bk l (k+2) [115,116,114]then .inl ⟨(l.getD k default).Text,2⟩
   else bif bk l (k+2) [98,111,111,108]then .inl ⟨(l.getD k default).Text,3⟩
   else .inr (k+2)
  else .inr (k+1)
 else .inr k
def XR{l:List Token}{k:Nat}{p:Param}(h:n_ l k = .inl p):k+2<l.length∧p.Name.length+180+ed l k≤ed l (k+3):=by
 unfold n_ at h;split at h
 ·rename_i Z;cases aa:bk l (k+1) [58]
  ·rw [aa]at h;cases h
  ·rw [aa]at h;simp only [am']at h
   have aj:bk l (k+2) [105,110,116]=true∨bk l (k+2) [115,116,114]=true∨bk l (k+2) [98,111,111,108]=true:=by
    cases aD:bk l (k+2) [105,110,116]
    ·cases aV:bk l (k+2) [115,116,114]
     ·cases bP:bk l (k+2) [98,111,111,108]
      ·rw [aD,aV,bP]at h;cases h
      ·exact Or.inr (Or.inr rfl)
     ·exact Or.inr (Or.inl rfl)
    ·exact Or.inl rfl
   have bm:k+2<l.length:=by rcases aj with aj|aj|aj<;>exact gq aj
   have hn:p.Name=(l.getD k default).Text:=by
    cases aD:bk l (k+2) [105,110,116]
    ·cases aV:bk l (k+2) [115,116,114]
     ·cases bP:bk l (k+2) [98,111,111,108]
      ·rw [aD,aV,bP]at h;cases h
      ·rw [aD,aV,bP]at h;simp only [am',am_,Sum.inl.injEq]at h;rw [←h]
     ·rw [aD,aV]at h;simp only [am',am_,Sum.inl.injEq]at h;rw [←h]
    ·rw [aD]at h;simp only [am',Sum.inl.injEq]at h;rw [←h]
   have e1:=hB l k Z.1;have e2:ed l (k+2)=_:=hB l (k+1) (by omega)
   have e3:ed l (k+3)=_:=hB l (k+2) bm;rw [hn];exact⟨bm,by omega⟩
 ·cases h
def XS{l:List Token}{k e:Nat}(hk:k≤l.length)(h:n_ l k = .inr e):e≤l.length:=by
 unfold n_ at h;split at h
 ·rename_i Z;cases aa:bk l (k+1) [58]
  ·rw [aa]at h;simp only [am_,Sum.inr.injEq]at h;omega
  ·have:=gq aa
   rw [aa]at h;simp only [am']at h;cases aD:bk l (k+2) [105,110,116]
   ·cases aV:bk l (k+2) [115,116,114]
    ·cases bP:bk l (k+2) [98,111,111,108]
     ·rw [aD,aV,bP]at h;simp only [am_,Sum.inr.injEq]at h;omega
     ·rw [aD,aV,bP]at h;cases h
    ·rw [aD,aV]at h;cases h
   ·rw [aD]at h;cases h
 ·simp only [Sum.inr.injEq]at h;omega
section
variable {l:List Token}
theorem P'(n k:Nat)(ab:l.length≤1000000000)(hk:k≤l.length):yC n ⟨l,(k:Int)⟩ =
 some (match n_ l k with|.inl p=>.ret p ((k+3:Nat):Int)|.inr e=>.az (mp l e (h6 l e 5)) (e:Int)):=by
 unfold yC yB n_;rw [zf n l k 1 ab hk];by_cases h:k<l.length∧(l.getD k default).Kind=1
 ·rw [if_pos h,if_pos h];generalize l.getD k default=t
  simp only [ai,ax.on];rw [np n l (k+1) _ (by omega) (by omega)]
  cases aa:bk l (k+1) [58]
  ·rfl
  ·have:=gq aa
   have hle:k+1+1≤4611686018427387904:=by omega
   simp only [am',ai,ax.on,kr n l (k+1+1) _ hle];cases aD:bk l (k+1+1) [105,110,116]
   ·simp only [am_,ai,kr n l (k+1+1) _ hle];cases aV:bk l (k+1+1) [115,116,114]
    ·simp only [am_,ai,kr n l (k+1+1) _ hle];cases bP:bk l (k+1+1) [98,111,111,108]
     ·simp only [am_,ai,tV n l (k+1+1) 5 (by omega),ax.on]
     ·rfl
    ·rfl
   ·rfl
 ·rw [if_neg h,if_neg h];rfl
def zm(n:Nat)(l:List Token)(db:Int→List Param→Option (List Param×Int×Int))(k:Nat)(acc:List Param):Option (List Param×Int×Int):=
 bif bk l k [41]then some (acc,((k+1:Nat):Int),0)else bif bk l k [44]then db ((k+1:Nat):Int) acc else some ([],(k:Int),h6 l k 5)
theorem P_{k:Nat}(h:k≤100000000000):room k 24=true:=by simp [room];omega
theorem XT(n k:Nat)(db:Int→List Param→Option (List Param×Int×Int))(acc:List Param)(hn:3≤n)(ab:l.length≤1000000000)(hk:k≤l.length)(ha:acc.length≤1000000000):Ik n l db (k:Int) acc =
 match n_ l k with|.inl p=>zm n l db (k+3) (acc++[p])|.inr e=>some ([],(e:Int),h6 l e 5):=by
 unfold Ik Ij n_;rw [IX n l k 1 ab hk];by_cases h:k<l.length∧(l.getD k default).Kind=1
 ·rw [if_pos h,if_pos h];generalize l.getD k default=t
  simp only [ai,am8,ana,am_];rw [qO l (k+1) _ (by omega) (by omega)]
  cases aa:bk l (k+1) [58]
  ·simp only [am_,ai,hq l (k+1),am9,anb,am']
  ·have:=gq aa
   simp only [am',ai,am8,ana,am_,n9,zc,anc,ane,P_ (show acc.length+(0+1)≤100000000000 by omega),aM]
   have fin:∀ty:Int,(Option.bind (kl n l (anq (((k+1+1:Nat):Int)+1)) [41]) λfa=>
    bif fa then some ((acc++[(⟨t.Text,ty⟩:Param)]),(anq ((anq (((k+1+1:Nat):Int)+1))+1)),0)
    else Option.bind (jR n l (anq (((k+1+1:Nat):Int)+1)) [[44]]) λr26=>
     bif (!decide (r26.2=0))then some (([]:List Param),r26.1,r26.2)else db r26.1 (acc++[(⟨t.Text,ty⟩:Param)]))=zm n l db (k+3) (acc++[⟨t.Text,ty⟩]):=by
    intro ty;unfold zm;rw [bg (by omega),bg (by omega),n9,qO l (k+1+1+1) _ (by omega) (by omega)]
    simp only [ai];cases bk l (k+1+1+1) [41]
    ·simp only [am_];cases bk l (k+1+1+1) [44]
     ·simp only [am_,hq l (k+1+1+1),am9,anb,am']
     ·rfl
    ·rfl
   cases aD:bk l (k+1+1) [105,110,116]
   ·simp only [am_,ai];cases aV:bk l (k+1+1) [115,116,114]
    ·simp only [am_,ai];cases bP:bk l (k+1+1) [98,111,111,108]
     ·rfl
     ·exact fin 3
    ·exact fin 2
   ·exact fin 1
 ·rw [if_neg h,if_neg h];simp only [ai,hq l k,am9,anb,am']
end
open Go Go.Ab Go.Proofs
def fw:List Param→Nat
 |[]=>0
 |p::l=>60+p.Name.length+fw l
def XU:∀l m:List Param,fw (l++m)=fw l+fw m
 |[],m=>by simp [fw]
 |t::l,m=>by rw [List.cons_append,fw,fw,XU l m];omega
def ww:∀l:List Param,60*l.length≤fw l
 |[]=>Nat.le_refl _
 |t::l=>by have:=ww l;simp only [fw,anc];omega
section
variable {l:List Token}
theorem ahI(ab:gv l≤1000000000)(n1 n2 i:Nat)(b:Int)(t:Token)(aa:3≤n2):
 ∀(m1 m2 k:Nat) (acc:List Param),l.length-k<m1→l.length-k<m2→i<k→k≤l.length→fw acc+ed l i≤ed l k→
 (∃bi k',tu n1 ⟨l,b⟩ t m1 (k:Int) acc=tr n1 ⟨l,b⟩ t ((k':Nat):Int) bi∧zm n2 l (v_ n2 l m2) k acc=some (bi,((k':Nat):Int),0)∧i<k'∧k'≤l.length∧fw bi+ed l i≤ed l k')∨
 (∃k' c z bi,tu n1 ⟨l,b⟩ t m1 (k:Int) acc=some (.az (mp l k' c) z)∧zm n2 l (v_ n2 l m2) k acc=some (bi,((k':Nat):Int),c)∧c≠0∧k'≤l.length):=by
 have lJ:=l6 l;have pg:ed l l.length=gv l:=by unfold ed;rw [List.take_length]
 intro m1;induction m1 with
 |zero=>intro m2 k acc h;omega
 |succ m1 aF=>
  intro m2 k acc XG PM qo hk ha;obtain⟨m2,rfl⟩:∃j,m2=j+1:=⟨m2-1,by omega⟩
  have ahk:=tW l k l.length hk;have tR:=ww acc;unfold zm;simp only [tu,Hl,Hk,v_];rw [kr n1 l k _ (by omega)]
  simp only [ai];cases XV:bk l k [44]
  ·simp only [am_];rw [np n1 l k _ (by omega) (by omega)]
   cases Qa:bk l k [41]
   ·right
    exact⟨k,_,_,_,rfl,rfl,hq l k,hk⟩
   ·have bm:=gq Qa;have iE:=hB l k bm;left
    exact⟨acc,k+1,rfl,rfl,by omega,by omega,by omega⟩
  ·have bm:=gq XV;have iE:=hB l k bm;rw [Ds XV (w:=[41]) (by decide)]
   simp only [am',am_];rw [P' n1 (k+1) (by omega) (by omega),XT n2 (k+1) _ acc aa (by omega) (by omega) (by omega)]
   cases hp:n_ l (k+1) with
   |inl p=>
    obtain⟨aj,aD⟩:=XR hp;simp only [ai,ax.on,anc,ane,P_ (show acc.length+(0+1)≤100000000000 by omega),aM]
    exact aF m2 (k+1+3) (acc++[p]) (by omega) (by omega) (by omega) (by omega) (by rw [XU];simp only [fw];omega)
   |inr e=>
    have:=XS (l:=l) (k:=k+1) (by omega) hp
    right
    exact⟨e,_,_,_,rfl,rfl,hq l e,this⟩
def se(p:aZ):Nat:=p.Name.length+fw p.Params+di p.Body
theorem XW(ab:gv l≤1000000000)(hg:jT l){i k n1 n2:Nat}(b:Int)(t:Token)(bi:List Param)(qo:i<k)(hk:k≤l.length)(Z:60*l.length+300≤n1)(aa:60*l.length+300≤n2)(hw:t.Text.length+fw bi+ed l i≤ed l k):
 gX se l i (tr n1 ⟨l,b⟩ t (k:Int) bi) (Option.bind (mB n2 l (k:Int) 0) λb4=>some ((⟨t.Text,bi,b4.1⟩:aZ),b4.2.1,b4.2.2)):=by
 have lJ:=l6 l;unfold tr;have cJ:=(P9 ab hg (2*l.length+2)).1 k 0 n1 n2 hk (by omega) (by omega) (by omega) (by omega)
 refine tY (F:=λa b=>some (.ret (⟨t.Text,bi,a⟩:aZ) b)) cJ (λa k' jU eV iS=>?_) (λa k c hc=>⟨_,rfl⟩)
 refine Or.inl ⟨⟨t.Text,bi,a⟩,k',rfl,rfl,by omega,eV,?_⟩
 have iS:di a+120+ed l k≤ed l k':=iS;simp only [se];omega
theorem XX(ab:gv l≤1000000000)(hg:jT l){i n1 n2:Nat}(hi:i≤l.length)(Z:60*l.length+300≤n1)(aa:60*l.length+300≤n2):
 gX se l i (qE n1 ⟨l,(i:Int)⟩) (CU n2 l (i:Int)):=by
 have lJ:=l6 l;have pg:ed l l.length=gv l:=by unfold ed;rw [List.take_length]
 unfold qE CU;refine zg (by omega) hi (by omega) (λaA bm iE=>?_) (λk c hc=>⟨_,by simp only [hc,am9,anb,am'];rfl⟩)
 simp only [am8,ana,am_];refine PY (by omega) (by omega) (λzj ze=>?_) (λt k c hc=>⟨_,by simp only [hc,am9,anb,am'];rfl⟩)
 generalize l.getD (i+1) default=t at ze
 simp only [am8,ana,am_];refine zg (by omega) (by omega) (by omega) (λXY ahw PW=>?_) (λk c hc=>⟨_,by simp only [hc,am9,anb,am'];rfl⟩)
 simp only [am8,ana,am_];generalize hj:i+1+1+1=j at PW
 unfold VU;rw [kr n1 l j _ (by omega),n9,bg (by omega)]
 simp only [ai];cases Qa:bk l j [41]
 ·simp only [anb,am',am_]
  have eJ:v_ n2 l n2=Ik n2 l (v_ n2 l (n2-1)):=by
   obtain⟨m,rfl⟩:∃m,n2=m+1:=⟨n2-1,by omega⟩
   rfl
  rw [eJ,P' n1 j (by omega) (by omega),XT n2 j _ [] (by omega) (by omega) (by omega) (by simp)]
  cases hp:n_ l j with
  |inl p=>
   obtain⟨aj,aD⟩:=XR hp;simp only [ai,ax.on,anc,ane,P_ (show 0+(0+1)≤100000000000 by omega),aM,List.nil_append]
   have XZ:fw [p]+ed l (i+1+1)≤ed l (j+3):=by
    have:=tW l (i+1+1) j (by omega)
    simp only [fw];omega
   rcases ahI ab n1 n2 (i+1+1) (i:Int) t (by omega) n1 (n2-1) (j+3) [p] (by omega) (by omega) (by omega) (by omega) XZ with⟨bi,k',e1,e2,jU,eV,iS⟩|⟨k',c,z,bi,e1,e2,hc,kE⟩
   ·rw [e1,e2];simp only [ai,am8,ana,am_];exact XW ab hg (i:Int) t bi (by omega) eV Z aa (by omega)
   ·rw [e1,e2];simp only [ai,hc,am9,anb,am'];exact Or.inr ⟨k',c,_,_,rfl,rfl,hc,kE⟩
  |inr e=>
   have:=XS (l:=l) (k:=j) (by omega) hp
   simp only [ai,ax.on,hq l e,am9,anb,am'];exact Or.inr ⟨e,_,_,_,rfl,rfl,hq l e,this⟩
 ·have P8:=gq Qa;have ahy:=hB l j P8;simp only [ana,am',am_,ai,am8];exact XW ab hg (i:Int) t [] (by omega) (by omega) Z aa (by simp only [fw];omega)
end
open Go Go.Ab Go.Proofs
mutual
def gw:Expr→Int→Int
 |⟨Op,N,S,ao⟩,d=>if oU ⟨Op,N,S,ao⟩ d=0 then sf ao (anq (d+1))else oU ⟨Op,N,S,ao⟩ d
def sf:List Expr→Int→Int
 |[],d=>0
 |x::l,d=>if gw x d=0 then sf l d else gw x d
end
def X0(e:Expr)(d:Int):gw e d=if oU e d=0 then sf e.ao (anq (d+1))else oU e d:=by cases e;rfl
def X1:∀(n:Nat) (e:Expr) (d:Int),cm e≤n→cm e≤140737488351232→xX n e d=some (gw e d)∧CH n e d=some (gw e d):=by
 intro n;induction n with
 |zero=>intro e d h;rw [pK]at h;omega
 |succ n aF=>
  intro e d h ab;have tQ:=pK e;have tR:=Di e.ao;simp only [xX,CH,Mq,U4];rw [af' e d (by omega) (by omega),af_ e d (by omega) (by omega) (by omega),X0]
  simp only [ai];by_cases h0:oU e d=0
  ·rw [if_pos h0];simp only [h0,am8,ana,am_]
   have gD:∀m i,e.ao.length<i+m→i≤e.ao.length→Bo n (xX n) d e m (i:Int)=some (sf (e.ao.drop i) (anq (d+1)))∧HS n (CH n) d e m (i:Int)=some (sf (e.ao.drop i) (anq (d+1))):=by
    intro m;induction m with
    |zero=>intro i Z aa;omega
    |succ m jk=>
     intro i Z aa;simp only [Bo,Mp,Mo,HS,U3,U2];by_cases hi:i<e.ao.length
     ·have hg:=Dj e.ao i hi;obtain⟨iZ,i7⟩:=aF (e.ao.getD i default) (anq (d+1)) (by omega) (by omega)
      obtain⟨ahJ,Dm⟩:=jk (i+1) (by omega) (by omega)
      (rw [eS e.ao i default hi,bg (by omega)];simp only [anf];rw [iZ,i7,ahJ,Dm])
      simp only [hi,b3 hi,ang,am8,am',aM,ai,sf];by_cases ah:gw (e.ao.getD i default) (anq (d+1))=0
      ·simp only [ah,am8,ana,am_,anm,and_self]
      ·simp only [ah,am9,anb,am',ann,and_self]
     ·rw [gi e.ao i hi];simp only [hi,ang,am9,am_,sf,and_self]
   exact gD n 0 (by omega) (by omega)
  ·rw [if_neg h0];simp only [h0,am9,anb,am',and_self]
def X2{n:Nat}(e:Expr)(h:cm e≤n)(ab:cm e≤140737488351232):Bp n e=some (gw e 1):=by
 simp only [Bp,(X1 n e 1 h ab).1,ai]
def X3{n:Nat}(e:Expr)(h:cm e≤n)(ab:cm e≤140737488351232):HT n e=some (gw e 1):=by
 simp only [HT,(X1 n e 1 h ab).2,ai]
def mG(e:Expr):Bool:=decide (e.Op=0)&&decide (e.N=0)&&decide (e.S=[])&&decide (e.ao.length=0)
def X4(n:Nat)(e:Expr):xY n e=some (mG e):=by
 simp only [xY,mG,eT,fi]
def X5(n:Nat)(e:Expr):tw n e=some (mG e):=by
 simp only [tw,mG,eT,fi]
def jB(op:Int):kJ×Bool:=
 if op=1∨op=2 then(⟨true,true,false,false,false,false⟩,true)
 else if op=3 then(⟨false,true,true,false,false,false⟩,true)
 else if op=4∨op=7 then(⟨false,true,false,false,false,false⟩,true)
 else if op=5 then(⟨false,true,false,false,true,true⟩,true)
 else if op=6 then(⟨true,true,true,true,true,false⟩,true)
 else if op=8 then(⟨false,false,false,true,false,false⟩,true)
 else(⟨false,false,false,false,false,false⟩,false)
def ahK(n:Nat)(op:Int):FY n op=some (jB op):=by
 by_cases h:1≤op∧op≤8
 ·obtain rfl|rfl|rfl|rfl|rfl|rfl|rfl|rfl:op=1∨op=2∨op=3∨op=4∨op=5∨op=6∨op=7∨op=8:=by omega
  all_goals rfl
 ·have e:jB op=(⟨false,false,false,false,false,false⟩,false):=by
   unfold jB;rw [if_neg (by omega),if_neg (by omega),if_neg (by omega),if_neg (by omega),if_neg (by omega),if_neg (by omega)]
  rw [e];simp only [FY,FX,FW,Mr,show¬ op=1 by omega,show¬ op=2 by omega,show¬ op=3 by omega,show¬ op=4 by omega,show¬ op=5 by omega,show¬ op=6 by omega,show¬ op=7 by omega,show¬ op=8 by omega,am9,am_]
def ahL(n:Nat)(op:Int)(h:1≤op∧op≤8):HU n op=some ((jB op).1.name,(jB op).1.max,(jB op).1.a,(jB op).1.b,(jB op).1.body,(jB op).1.other):=by
 obtain rfl|rfl|rfl|rfl|rfl|rfl|rfl|rfl:op=1∨op=2∨op=3∨op=4∨op=5∨op=6∨op=7∨op=8:=by omega
 all_goals rfl
def ahM(n:Nat)(op:Int)(h:¬ (1≤op∧op≤8)):HU n op=some (false,true,false,false,false,false):=by
 simp only [HU,Ow,Ov,U5,show¬ op=1 by omega,show¬ op=2 by omega,show¬ op=3 by omega,show¬ op=4 by omega,show¬ op=5 by omega,show¬ op=6 by omega,show¬ op=7 by omega,am9,am_]
def zn(s:Stmt)(u:kJ):Bool:=
 (!u.name && !decide (s.Name=[]))||(!u.a && !mG s.A)||(!u.b && !mG s.B)||(!u.max && !decide (s.Max=0))||(!u.body&&decide (0<s.Body.length))||(!u.other&&decide (0<s.bx.length))
def qQ(s:Stmt):Bool:=if s.Op=6 then decide (1≤s.Max)&&decide (s.Max≤16)else if s.Op=8 then decide (0≤s.Max)&&decide (s.Max≤999)else true
def jV(s:Stmt)(d:Int):Int:=
 if(jB s.Op).2=false∨zn s (jB s.Op).1=true∨qQ s=false then 1
 else if(jB s.Op).1.name=true∧gC s.Name=false then 7
 else if(jB s.Op).1.a=true∧gw s.A 1≠0 then gw s.A 1
 else if(jB s.Op).1.b=true∧gw s.B 1≠0 then gw s.B 1
 else if 12<d then 2 else 0
end Go.Ab.Y

/- The plain law: what the functions compute answers as the statement says. -/
import Derived.Test.YtbncfepdlmnmiaaGreatDoorCtrB
set_option linter.all false
namespace Go.Ab.Y
open Go Go.Ab Go.Proofs
def aus{h:Decidable True}:@decide True h=true:=_root_.decide_true h
def aut{h:Decidable False}:@decide False h=false:=_root_.decide_false h
def auA:(∀n:Nat,(n:Int).toNat=n)∧∀(α:Type)(_:Inhabited α)(l:List α)(n:Nat),auM l n=l.getD n default:=⟨λ_=>rfl,λ_ _ _ _=>rfl⟩
def auu{α:Type}{a b:α}:cond true a b=a:=rfl
def auv{α:Type}{a b:α}:cond false a b=b:=rfl
def auw:(!true)=false:=rfl
def aux:(!false)=true:=rfl
def auy{α:Type}{a:α}{l:List α}:(a::l).length=l.length+1:=rfl
def auz{α:Type}:([]:List α).length=0:=rfl
def auB{a b:Nat}:((a:Int)<b)↔a<b:=_root_.Int.ofNat_lt
def auC{α:Type}{a b:List α}:(a++b).length=a.length+b.length:=_root_.List.length_append
def auD{α:Type}{a:α}:[a].length=1:=rfl
def auE{α:Type}{b:Bool}{x y:α}:cond b x y=if b then x else y:=_root_.Bool.cond_eq_ite b x y
def auF(a:Int):¬a<a:=_root_.Int.lt_irrefl a
def auG(a:Bool):(a||true)=true:=_root_.Bool.or_true a
def auH{α:Type}{a b:α}{h:Decidable True}:@ite α True h a b=a:=_root_.if_true a b
def auI{α:Type}{a b:α}{h:Decidable False}:@ite α False h a b=b:=_root_.if_false a b
def wr{x:Int}(Z : -9223372036854775808≤x)(ad:x≤9223372036854775807):auL x=x:=by(try unfold auL);rw [IntKind.wrap_i64];omega
def dp{i:Nat}(h:i≤4611686018427387904):auL ((i:Int)+1)=((i+1:Nat):Int):=by rw [wr]<;>omega
def dj{i:Nat}(h:i≤9223372036854775806):auL ((i:Int)+1)=((i+1:Nat):Int):=by rw [wr]<;>omega
def cv{i n:Nat}(h:i<n):aN (i:Int) n=true:=by simp [aN];omega
def mo{n:Nat}(h:0<n):aN 0 n=true:=by simp [aN];omega
def Bi{i n:Nat}(h:i≤n):hE (i:Int) n=true:=by simp [hE];omega
def FH{i j n:Nat}(h:i≤j)(ad:j≤n):lF (i:Int) (j:Int) n=true:=by simp [lF];omega
@[simp] def bd {α : Type} (x : Option α) : ar true x = x := rfl
def fH{α:Type}(l:List α)(i:Nat)(d:α)(h:i<l.length):l.drop i=l.getD i d::l.drop (i+1):=by
 rw [List.drop_eq_getElem_cons h];simp [List.getD,h]
def hf{α:Type}(l:List α)(i:Nat)(h:¬ i<l.length):l.drop i=[]:=List.drop_of_length_le (by omega)
def pF(a k:Nat):((a:Int)<(no_index (OfNat.ofNat k):Int))↔a<k:=Int.ofNat_lt
def l1(a k:Nat):((a:Int)≤(no_index (OfNat.ofNat k):Int))↔a≤k:=Int.ofNat_le
def gc(a k:Nat):((no_index (OfNat.ofNat k):Int)<(a:Int))↔k<a:=Int.ofNat_lt
def th(a k:Nat):((no_index (OfNat.ofNat k):Int)≤(a:Int))↔k≤a:=Int.ofNat_le
def fv(a k:Nat):((a:Int)=(no_index (OfNat.ofNat k):Int))↔a=k:=Int.ofNat_inj
def dL(a b:Bool):(bif a then true else b)=(a||b):=by cases a<;>rfl
def ee(a b:Bool):(bif a then b else false)=(a&&b):=by cases a<;>rfl
def al{α β:Type}(a:α)(f:α→Option β):Option.bind (some a) f=f a:=rfl
def okB(c:UInt8):Bool:=decide (32≤c.toNat)&&decide (c.toNat≤126)
def jP(s:auJ):Bool:=s.all okB&&decide (s.length≤64)
def Bj(c:UInt8):(decide (c.toNat<32)||decide (126<c.toNat)) = !okB c:=by
 unfold okB;by_cases h:c.toNat<32
 ·simp [h]
 ·by_cases ad:c.toNat≤126
  ·simp [ad,show 32≤c.toNat by omega,h]
  ·simp [ad];omega
def am5(n:Nat)(s:auJ)(hs:s.length≤9223372036854775807):∀m i,s.length<i+m→i≤s.length→zk n s m (i:Int)=some ((s.drop i).all okB&&decide (s.length≤64)):=by
 intro m;induction m with
 |zero=>intro i h ad;omega
 |succ m aW=>
  intro i hm hi;simp only [zk,P3,P2];by_cases h:i<s.length
  ·rw [fH s i 0 h,dj (by omega),aW (i+1) (by omega) (by omega)]
   simp only [h,cv h,auA,auB,aus,auu,bd,auG,List.all_cons,pF,gc,dL,Bj];cases okB (s.getD i 0)<;>simp
  ·rw [hf s i h];simp [h,l1]
def acI{n:Nat}{s:auJ}(h:s.length<n)(hs:s.length≤9223372036854775807):P4 n s=some (jP s):=am5 n s hs n 0 (by omega) (by omega)
def am6(n:Nat)(s:auJ)(hs:s.length≤9223372036854775807):∀m i,s.length<i+m→i≤s.length→Es n s m (i:Int)=some ((s.drop i).all okB):=by
 intro m;induction m with
 |zero=>intro i h ad;omega
 |succ m aW=>
  intro i hm hi;simp only [Es,S1,S0];by_cases h:i<s.length
  ·rw [fH s i 0 h,dj (by omega),aW (i+1) (by omega) (by omega)]
   simp only [h,cv h,auA,auB,aus,auu,bd,auG,List.all_cons,pF,gc,dL,Bj];cases okB (s.getD i 0)<;>simp
  ·rw [hf s i h];simp [h,l1]
def am7{n:Nat}{s:auJ}(h:s.length<n)(hs:s.length≤9223372036854775807):KH n s=some (jP s):=by
 unfold KH;rw [show(0:Int)=((0:Nat):Int)from rfl,am6 n s hs n 0 (by omega) (by omega)]
 unfold jP;simp only [List.drop_zero,gc];by_cases h:64<s.length
 ·simp [h]
 ·simp [h];omega
def uZ:List auJ:=[[112,114,111,99],[108,101,116],[112,117,116],[100,101,108,101,116,101],[105,102],[101,108,115,101],[102,111,114],[116,111],[109,97,120],[101,109,105,116],[97,98,111,114,116],[110,111,116],[97,110,100],[111,114],[105,110,116],[115,116,114],[98,111,111,108],[116,101,120,116],[108,101,110],[103,101,116,105,110,116],[103,101,116,115,116,114],[104,97,115],[110,111,119],[114,97,110,100,111,109],[110,111,100,101]]
def u0(s:auJ):Bool:=decide (s∈uZ)
def acJ(n:Nat)(s:auJ):C' n s=some (u0 s):=by
 unfold u0;by_cases h:s∈uZ
 ·simp only [h,aus];simp only [uZ,List.mem_cons,List.not_mem_nil,or_false]at h;rcases h with rfl|rfl|rfl|rfl|rfl|rfl|rfl|rfl|rfl|rfl|rfl|rfl|rfl|rfl|rfl|rfl|rfl|rfl|rfl|rfl|rfl|rfl|rfl|rfl|rfl<;>rfl
 ·simp only [h,aut];simp only [uZ,List.mem_cons,List.not_mem_nil,or_false,not_or]at h;simp only [C',iD,PI,h,aut,auv]
def am8(n:Nat)(l:List auJ)(s:auJ)(hs:l.length≤4611686018427387904):∀m i,l.length<i+m→i≤l.length→El n l s m (i:Int)=some (decide (s∈l.drop i)):=by
 intro m;induction m with
 |zero=>intro i h ad;omega
 |succ m aW=>
  intro i hm hi;simp only [El,SI,SH];by_cases h:i<l.length
  ·rw [fH l i default h,dp (by omega),aW (i+1) (by omega) (by omega)]
   simp only [h,cv h,auA,auB,aus,auu,bd,List.mem_cons];by_cases he:l.getD i default=s
   ·simp only [he,aus,auu,true_or]
   ·simp only [he,aut,auv,show¬ s=l.getD i default from λx=>he x.symm,false_or]
  ·rw [hf l i h];simp [h]
def am9(n:Nat):SG n=some uZ:=rfl
def am'{n:Nat}(l:List auJ)(s:auJ)(h:l.length<n)(hs:l.length≤4611686018427387904):SJ n l s=some (decide (s∈l)):=am8 n l s hs n 0 (by omega) (by omega)
def acK{n:Nat}(s:auJ)(h:25<n):Em n s=some (u0 s):=by
 unfold Em;simp only [am9,al];rw [am' uZ s (by show 25<_;omega) (by decide)]
 rfl
def oM(c:UInt8):Bool:=decide (97≤c.toNat)&&decide (c.toNat≤122)
def UI(n:Nat)(c:UInt8):AA n ((c.toNat:Nat):Int)=some (oM c):=by
 simp only [AA,ee,th,l1,oM]
def am_{x:Nat}(h:x<256):IntKind.i32.wrap (x:Int)=x:=by rw [IntKind.wrap_i32];omega
def acL(n:Nat)(c:UInt8):C_ n (IntKind.i32.wrap ((c.toNat:Nat):Int))=some (oM c):=by
 rw [am_ c.toNat_lt];simp only [C_,ee,th,l1,oM]
def acM(n:Nat)(c:UInt8):En n ((c.toNat:Nat):Int)=some (iC c):=by
 simp only [En,UI,al,SK,ee,dL,th,l1,fv];unfold iC oM;by_cases h:97≤c.toNat∧c.toNat≤122
 ·simp [h.1,h.2]
 ·have:(decide (97≤c.toNat)&&decide (c.toNat≤122))=false:=by simpa using h
  rw [this];simp only [aux,auu,al,Bool.false_or,h,false_or,Bool.decide_or,Bool.decide_and]
def Mh(s:auJ):hO s≤s.length:=by unfold hO;exact(List.takeWhile_prefix _).length_le
def Bk(c:UInt8)(s:auJ):hO (c::s)=bif iC c then hO s+1 else 0:=by
 unfold hO;cases h:iC c<;>simp [List.takeWhile,h]
def ana(n:Nat)(s:auJ)(hs:s.length≤4611686018427387904):∀m i,s.length<i+m→i≤s.length→Eo n s m (i:Int)=some (((i+hO (s.drop i):Nat):Int)):=by
 intro m;induction m with
 |zero=>intro i h ad;omega
 |succ m aW=>
  intro i hm hi;simp only [Eo,SM,SL];by_cases h:i<s.length
  ·rw [fH s i 0 h,dp (by omega),aW (i+1) (by omega) (by omega)]
   simp only [h,cv h,auA,auB,aus,auu,bd,auG,acM,al,Bk];cases iC (s.getD i 0)
   ·rfl
   ·simp only [auu,Option.some.injEq];omega
  ·rw [hf s i h];simp [h,hO]
def acN{n:Nat}{s:auJ}(i:Nat)(h:s.length<n)(hi:i≤s.length)(hs:s.length≤4611686018427387904):KD n s (i:Int)=some (((i+hO (s.drop i):Nat):Int)):=ana n s hs n i (by omega) hi
def hh(s:auJ):Bool:=
 match s with
 |[]=>false
 |c::l=>decide (l.length≤15)&&oM c&&decide (hO (c::l)=l.length+1) && !u0 (c::l)
def Bl{n:Nat}(s:auJ)(h:s.length<n)(ad:25<n)(hs:s.length≤4611686018427387904):s6 n s=some (hh s):=by
 unfold s6;cases s with
 |nil=>rfl
 |cons c l=>
  simp only [acK _ ad,ee,th,l1,auy,show 1≤l.length+1 by omega,aus,Bool.true_and,mo (show 0<l.length+1 by omega),auG,bd,List.getD_cons_zero,UI]
  rw [show(0:Int)=((0:Nat):Int)from rfl,acN 0 h (by omega) hs]
  simp only [List.drop_zero,Nat.zero_add,hh,Int.ofNat_inj,show(l.length+1≤16)=(l.length≤15)by rw [eq_iff_iff];omega]
  cases decide (l.length≤15)<;>simp only [Bool.false_and,auv,al,Bool.true_and,auu]
  cases oM c<;>simp only [Bool.false_and,auv,al,Bool.true_and,auu,Int.ofNat_inj]
  cases decide (hO (c::l)=l.length+1)<;>simp only [Bool.false_and,auv,al,Bool.true_and,auu]
def acO(n:Nat)(s:auJ)(h:s.length≤140737488351232):y9 n s=some ((hO s:Nat):Int):=by
 unfold y9;simp only [h,aus,bd]
def Bm(n:Nat)(s:auJ)(h:s.length≤140737488351232):sM n s=some (hh s):=by
 unfold sM;cases s with
 |nil=>rfl
 |cons c l=>
  simp only [acJ,ee,th,l1,auy,reduceCtorEq,aut,aux,Bool.true_and,mo (show 0<l.length+1 by omega),auG,bd,List.getD_cons_zero,acL,acO _ _ h]
  simp only [hh,Int.ofNat_inj,show(l.length+1≤16)=(l.length≤15)by rw [eq_iff_iff];omega]
  cases decide (l.length≤15)<;>simp only [Bool.false_and,auv,al,Bool.true_and,auu]
  cases oM c<;>simp only [Bool.false_and,auv,al,Bool.true_and,auu,Int.ofNat_inj]
  cases decide (hO (c::l)=l.length+1)<;>simp only [Bool.false_and,auv,al,Bool.true_and,auu]
def jQ(op:Int):Int:=bif decide (op<1)||decide (27<op)then -1 else bif decide (op≤3)||decide (25≤op)then 0 else bif decide (op=9)||decide (op=18)||decide (20≤op)then 1 else 2
def anb(n:Nat)(op:Int):Ip n op=some (jQ op):=by
 simp only [Ip,jQ,dL];cases decide (op<1)||decide (27<op)<;>simp only [auu,auv]
 cases decide (op≤3)||decide (25≤op)<;>simp only [auu,auv]
 cases decide (op=9)||decide (op=18)||decide (20≤op)<;>rfl
def anc(n:Nat)(op:Int):Er n op=some (jQ op):=by
 by_cases h:1≤op∧op≤27
 ·obtain rfl|rfl|rfl|rfl|rfl|rfl|rfl|rfl|rfl|rfl|rfl|rfl|rfl|rfl|rfl|rfl|rfl|rfl|rfl|rfl|rfl|rfl|rfl|rfl|rfl|rfl|rfl:op=1∨op=2∨op=3∨op=4∨op=5∨op=6∨op=7∨op=8∨op=9∨op=10∨op=11∨op=12∨op=13∨op=14∨op=15∨op=16∨op=17∨op=18∨op=19∨op=20∨op=21∨op=22∨op=23∨op=24∨op=25∨op=26∨op=27:=by omega
  all_goals rfl
 ·have ha:jQ op = -1:=by
   unfold jQ;by_cases Z:op<1
   ·simp [Z]
   ·simp [show 27<op by omega]
  have hb:(decide (4≤op)&&decide (op≤19))=false:=by
   by_cases Z:4≤op
   ·simp [Z];omega
   ·simp [Z]
  simp only [Er,uI,s9,SZ,ee,hb,ha,show¬ op=1 by omega,show¬ op=2 by omega,show¬ op=3 by omega,show¬ op=25 by omega,show¬ op=26 by omega,show¬ op=27 by omega,show¬ op=9 by omega,show¬ op=18 by omega,show¬ op=20 by omega,show¬ op=21 by omega,show¬ op=22 by omega,show¬ op=23 by omega,show¬ op=24 by omega,aut,auv]
def pG(e:Expr)(depth:Int):Int:=
 if jQ e.Op<0∨(e.Op≠1∧e.N≠0)∨(e.Op≠2∧e.Op≠3∧e.S≠[])then 1
 else if e.Op=3∧hh e.S=false then 7
 else if e.N<0∨(e.Op=2∧jP e.S=false)∨(e.an.length:Int)≠jQ e.Op then 1
 else if 12<depth then 2 else 0
def ane{n:Nat}(e:Expr)(depth:Int)(h:e.S.length<n)(hs:e.S.length≤140737488351232):Iq n e depth=some (pG e depth):=by
 obtain⟨Op,N,S,an⟩:=e;simp only at h hs
 simp only [Iq,anb,al,Bm _ _ hs,acI h (by omega),pG]
 by_cases Z:jQ Op<0
 ·simp [Z]
 by_cases ad:Op=1
 ·subst ad;by_cases bv:S=[]
  ·by_cases cz:N<0
   ·simp [Z,bv,cz]
   ·by_cases eG:(an.length:Int)=jQ 1
    ·by_cases eD:12<depth<;>simp [Z,bv,cz,eG,eD]
    ·simp [Z,bv,cz,eG]
  ·simp [Z,bv]
 ·by_cases am:N=0
  ·by_cases aR:Op=3
   ·subst aR;cases hn:hh S
    ·simp [Z,am,hn]
    ·by_cases eG:(an.length:Int)=jQ 3
     ·by_cases eD:12<depth<;>simp [Z,am,hn,eG,eD]
     ·simp [Z,am,hn,eG]
   ·by_cases bv:Op=2
    ·subst bv;cases hn:jP S
     ·simp [Z,am,hn]
     ·by_cases eG:(an.length:Int)=jQ 2
      ·by_cases eD:12<depth<;>simp [Z,am,hn,eG,eD]
      ·simp [Z,am,hn,eG]
    ·by_cases cz:S=[]
     ·by_cases eG:(an.length:Int)=jQ Op
      ·by_cases eD:12<depth<;>simp [Z,ad,am,aR,bv,cz,eG,eD]
      ·simp [Z,ad,am,aR,bv,cz,eG]
     ·simp [Z,ad,am,aR,bv,cz]
  ·simp [Z,ad,am]
def anf{n:Nat}(e:Expr)(depth:Int)(h:e.S.length<n)(ad:25<n)(hs:e.S.length≤140737488351232):KI n e depth=some (pG e depth):=by
 obtain⟨Op,N,S,an⟩:=e;simp only at h hs
 simp only [KI,anc,al,Bl S h ad (by omega),am7 h (by omega),pG]
 clear ad;by_cases Z:jQ Op<0
 ·simp [Z]
 by_cases ad:Op=1
 ·subst ad;by_cases bv:S=[]
  ·by_cases cz:N<0
   ·simp [Z,bv,cz]
   ·by_cases eG:(an.length:Int)=jQ 1
    ·by_cases eD:12<depth<;>simp [Z,bv,cz,eG,eD]
    ·simp [Z,bv,cz,eG]
  ·simp [Z,bv]
 ·by_cases am:N=0
  ·by_cases aR:Op=3
   ·subst aR;cases hn:hh S
    ·simp [Z,am,hn]
    ·by_cases eG:(an.length:Int)=jQ 3
     ·by_cases eD:12<depth<;>simp [Z,am,hn,eG,eD]
     ·simp [Z,am,hn,eG]
   ·by_cases bv:Op=2
    ·subst bv;cases hn:jP S
     ·simp [Z,am,hn]
     ·by_cases eG:(an.length:Int)=jQ 2
      ·by_cases eD:12<depth<;>simp [Z,am,hn,eG,eD]
      ·simp [Z,am,hn,eG]
    ·by_cases cz:S=[]
     ·by_cases eG:(an.length:Int)=jQ Op
      ·by_cases eD:12<depth<;>simp [Z,ad,am,aR,bv,cz,eG,eD]
      ·simp [Z,ad,am,aR,bv,cz,eG]
     ·simp [Z,ad,am,aR,bv,cz]
  ·simp [Z,ad,am]
def hR(x:Int):Nat:=if -9223372036854775808≤x∧x≤9223372036854775807 then 0 else 1000000000000000000000000
def l2:hR 0=0:=rfl
def acP{x:Int}(h:hR x<1000000000000000000000000) : -9223372036854775808≤x∧x≤9223372036854775807:=by
 unfold hR at h;split at h
 ·assumption
 ·omega
def UJ{x:Int}(h : -9223372036854775808≤x∧x≤9223372036854775807):hR x=0:=if_pos h
mutual
def cN:Expr→Nat
 |⟨_,N,S,an⟩=>30+S.length+hR N+iU an
def iU:List Expr→Nat
 |[]=>0
 |x::l=>cN x+1+iU l
end
def qH(e:Expr):cN e=30+e.S.length+hR e.N+iU e.an:=by cases e;rfl
def Bn:∀l:List Expr,l.length≤iU l
 |[]=>Nat.le_refl _
 |x::l=>by have:=Bn l;simp only [iU,auy];omega
def FI:∀(l:List Expr) (i:Nat),i<l.length→cN (l.getD i default)<iU l
 |[],i,h=>by simp at h
 |x::l,0,h=>by simp only [iU,List.getD_cons_zero];omega
 |x::l,i+1,h=>by have:=FI l i (by simpa using h);simp only [iU,List.getD_cons_succ];omega
def acQ:∀(n:Nat) (e:Expr),cN e≤n→cN e≤140737488351232→xb n e e=some true:=by
 intro n;induction n with
 |zero=>intro e h;rw [qH]at h;omega
 |succ n aW=>
  intro e h ae;have u1:=qH e;have u2:=Bn e.an;simp only [xb,Sf,aus,auw,auv]
  have ib:∀m i,e.an.length<i+m→i≤e.an.length→Eb n (xb n) e e m (i:Int)=some true:=by
   intro m;induction m with
   |zero=>intro i Z ad;omega
   |succ m lB=>
    intro i Z ad;simp only [Eb,Se,Sd];by_cases hi:i<e.an.length
    ·have hg:=FI e.an i hi;simp only [hi,cv hi,auA,auB,aus,auu,bd,aW (e.an.getD i default) (by omega) (by omega),al,dp (show i≤4611686018427387904 by omega),auw,auv]
     exact lB (i+1) (by omega) (by omega)
    ·simp only [hi,auB,aut,auv]
  exact ib n 0 (by omega) (by omega)
open Go Go.Ab Go.Proofs
def jR(c:UInt8):Bool:=decide (48≤c.toNat)&&decide (c.toNat≤57)
def val(u:Nat)(l:auJ):Nat:=l.foldl (λu c=>u*10+(c.toNat-48)) u
def UK(u:Nat):val u []=u:=rfl
def UL(u:Nat)(c:UInt8)(l:auJ):val u (c::l)=val (u*10+(c.toNat-48)) l:=by unfold val;rw [List.foldl_cons]
def acR(l:auJ):∀(u:Nat),u≤val u l:=by
 induction l with
 |nil=>intro u;simp only [UK,Nat.le_refl]
 |cons c l aW=>
  intro u;rw [UL];have Z:u≤u*10+(c.toNat-48):=by omega
  exact Nat.le_trans Z (aW _)
def xI(c:UInt8):jR c=true↔48≤c.toNat∧c.toNat≤57:=by simp [jR]
def ang(l:auJ):∀u,l.all jR=true→Lib.parseUintM 18446744073709551615 u l=(if val u l≤18446744073709551615 then .ok (val u l)else .range)∨18446744073709551615<u:=by
 induction l with
 |nil=>
  intro u _;by_cases h:u≤18446744073709551615
  ·left;rw [UK,if_pos h];rfl
  ·right;omega
 |cons c l aW=>
  intro u h;simp only [List.all_cons,Bool.and_eq_true,xI]at h;left
  rw [UL];simp only [Lib.parseUintM,h.1,and_self,auH];have hg:=acR l (u*10+(c.toNat-48));have nf:=aW (u*10+(c.toNat-48)) h.2;generalize val (u*10+(c.toNat-48)) l=w at hg nf ⊢
  by_cases Z:1844674407370955162≤u
  ·rw [if_pos Z,if_neg (by omega)]
  ·rw [if_neg Z];by_cases ad:18446744073709551615<u*10+(c.toNat-48)
   ·rw [if_pos ad,if_neg (by omega)]
   ·rw [if_neg ad];rcases nf with am|am
    ·exact am
    ·exact absurd am ad
def pH(w:auJ):Int×Int:=
 if w.all jR=true∧(w.head? ≠ some 48∨w.length=1) then
  if val 0 w≤9223372036854775807 then(((val 0 w:Nat):Int),0) else(0,3)
 else(0,5)
def acS(c:UInt8)(l:auJ)(h:(c::l).all jR=true):C7 (c::l)=if val 0 (c::l)≤9223372036854775807 then .inl (val 0 (c::l):Nat)else .inr 9223372036854775807:=by
 have hc:48≤c.toNat∧c.toNat≤57:=by
  simp only [List.all_cons,Bool.and_eq_true,xI]at h;exact h.1
 have Z:Lib.parseIntB 64 (c::l)=_:=Lib.parseIntB_plain 64 c l (by omega) (by omega)
 have ad:Lib.parseUintB 64 (c::l)=(if val 0 (c::l)≤18446744073709551615 then .ok (val 0 (c::l))else .range):=by
  unfold Lib.parseUintB;rw [if_neg (by simp)]
  rcases ang (c::l) 0 h with am|am
  ·exact am
  ·omega
 have aR:Lib.intSat 64 (c::l)=9223372036854775807:=by rw [Lib.intSat_other 64 c l (by omega)];rfl
 rw [ad]at Z;unfold C7;rw [Z,aR];by_cases bv:val 0 (c::l)≤18446744073709551615
 ·rw [if_pos bv];by_cases cz:val 0 (c::l)≤9223372036854775807
  ·rw [if_pos cz];simp only [Lib.signlessC];rw [if_neg (by omega)]
  ·rw [if_neg cz];simp only [Lib.signlessC];rw [if_pos (by omega)]
 ·rw [if_neg bv,if_neg (by omega)];rfl
def anh{c:UInt8}(h:48≤c.toNat∧c.toNat≤57):IntKind.u8.wrap (((c.toNat:Nat):Int)-48)=((c.toNat-48:Nat):Int):=by rw [IntKind.wrap_u8];omega
def acT{x:Nat}(h:x≤18446744073709551615):IntKind.u64.wrap (x:Int)=x:=by rw [IntKind.wrap_u64];omega
def ani{x:Nat}(h:x≤9223372036854775807):auL (x:Int)=x:=by(try unfold auL);rw [IntKind.wrap_i64];omega
def anj(n:Nat)(s:auJ)(hs:s.length≤4611686018427387904)(hd:s.all jR=true)(h0:s.head? ≠ some 45):
 ∀(m i u:Nat),s.length<i+m→i≤s.length→u≤9223372036854775807→EP n s s 9223372036854775807 m (u:Int) (i:Int)=some (if val u (s.drop i)≤9223372036854775807 then(((val u (s.drop i):Nat):Int),(0:Int)) else(0,3)):=by
 intro m;induction m with
 |zero=>intro i u h ad;omega
 |succ m aW=>
  intro i u hm hi hu;simp only [EP,TJ];by_cases h:i<s.length
  ·have hc:48≤(s.getD i 0).toNat∧(s.getD i 0).toNat≤57:=by
    rw [←xI];have:=List.all_eq_true.1 hd s[i] (List.getElem_mem h)
    simpa [List.getD,h]using this
   have av:=acR (s.drop (i+1)) (u*10+((s.getD i 0).toNat-48));rw [fH s i 0 h,dp (by omega),UL]
   simp only [h,cv h,auA,auB,aus,auu,bd,anh hc];rw [acT (show(s.getD i 0).toNat-48≤18446744073709551615 by omega)]
   have e1:IntKind.u64.wrap (9223372036854775807-(((s.getD i 0).toNat-48:Nat):Int))=((9223372036854775807-((s.getD i 0).toNat-48):Nat):Int):=by rw [IntKind.wrap_u64];omega
   have e2:IntKind.u64.wrap (Int.tdiv ((9223372036854775807-((s.getD i 0).toNat-48):Nat):Int) 10)=(((9223372036854775807-((s.getD i 0).toNat-48)) / 10:Nat):Int):=by
    rw [show(Int.tdiv ((9223372036854775807-((s.getD i 0).toNat-48):Nat):Int) 10)=(((9223372036854775807-((s.getD i 0).toNat-48)) / 10:Nat):Int)from rfl]
    exact acT (by omega)
   rw [e1,e2];simp only [auB];by_cases am:(9223372036854775807-((s.getD i 0).toNat-48)) / 10<u
   ·simp only [am,aus,auu];rw [if_neg (by omega)]
   ·simp only [am,aut,auv]
    have e3:IntKind.u64.wrap (IntKind.u64.wrap ((u:Int)*10)+(((s.getD i 0).toNat-48:Nat):Int))=((u*10+((s.getD i 0).toNat-48):Nat):Int):=by
     rw [IntKind.wrap_u64,IntKind.wrap_u64];omega
    rw [e3];exact aW (i+1) _ (by omega) (by omega) (by omega)
  ·rw [hf s i h,UK];simp only [h,auB,aut,auv,hu,auH,TI]
   have:(bif (decide (0<((s.length:Nat):Int))) then(decide ((((s.getD 0 0).toNat:Nat):Int)=45))else false)=false:=by
    cases s with
    |nil=>rfl
    |cons c l=>
     simp only [List.head?_cons,ne_eq,Option.some.injEq]at h0;simp only [List.getD_cons_zero,fv];have:¬ c.toNat=45:=λe=>h0 (UInt8.toNat_inj.1 e)
     simp [this]
   rw [this];simp only [auv,ani hu]
def ank(n:Nat)(s:auJ)(hs:s.length≤4611686018427387904):∀m i,s.length<i+m→i≤s.length→AV n s m (i:Int)=some ((s.drop i).all jR&&decide (0<s.length)&&(!decide (s.head? = some 48)||decide (s.length=1))):=by
 intro m;induction m with
 |zero=>intro i h ad;omega
 |succ m aW=>
  intro i hm hi;simp only [AV,TG,TF];by_cases h:i<s.length
  ·rw [fH s i 0 h,dp (by omega),aW (i+1) (by omega) (by omega)]
   simp only [h,cv h,auA,auB,aus,auu,bd,auG,List.all_cons,pF,gc,dL];cases hd:jR (s.getD i 0)
   ·have:(decide ((s.getD i 0).toNat<48)||decide (57<(s.getD i 0).toNat))=true:=by
     have:¬ (48≤(s.getD i 0).toNat∧(s.getD i 0).toNat≤57):=λx=>by rw [(xI _).2 x]at hd;cases hd
     by_cases Z:(s.getD i 0).toNat<48
     ·simp only [Z,aus,Bool.true_or]
     ·simp only [show 57<(s.getD i 0).toNat by omega,aus,auG]
    rw [this];rfl
   ·have Z:=(xI _).1 hd
    have:(decide ((s.getD i 0).toNat<48)||decide (57<(s.getD i 0).toNat))=false:=by
     simp only [show¬ (s.getD i 0).toNat<48 by omega,show¬ 57<(s.getD i 0).toNat by omega,aut,Bool.or_self]
    rw [this];simp only [auv,Bool.true_and]
  ·rw [hf s i h];cases s with
   |nil=>
    simp only [auz,auB,Nat.not_lt_zero,aut,auv];rfl
   |cons c l=>
    rw [auy]at h;simp only [h,aut,auv,auB,auy,gc,show 0<l.length+1 by omega,aus,auw,Bool.false_or,mo (show 0<l.length+1 by omega),bd,auu,List.getD_cons_zero,fv,List.all_nil,Bool.true_and,List.head?_cons,Option.some.injEq,dL]
    have:decide (c.toNat=48)=decide (c=48):=by
     rw [decide_eq_decide];exact⟨λe=>UInt8.toNat_inj.1 e,λe=>by subst e;rfl⟩
    rw [this]
def anl{n:Nat}(c:UInt8)(l:auJ)(h:l.length+1<n)(hs:l.length+1≤4611686018427387904)(hc:c.toNat≠45):Lt n (c::l)=some (pH (c::l)):=by
 unfold Lt Ls TH;have hd:=ank n (c::l) hs n 0 (by simp only [auy];omega) (by omega)
 have UM:(bif (decide (0<(((c::l).length:Nat):Int))) then(decide (((((c::l).getD 0 0).toNat:Nat):Int)=45))else false)=false:=by
  simp only [List.getD_cons_zero,fv,hc,aut];cases decide (0<(((c::l).length:Nat):Int))<;>rfl
 have hd:AV n (c::l) n 0=_:=hd;have hin:(!(decide ((0:Int)<(((c::l).length:Nat):Int)))||aN 0 (c::l).length)=true:=by rw [mo (show 0<(c::l).length by simp)];simp only [auG]
 rw [UM,hd,hin];simp only [aux,auy,mo (show 0<l.length+1 by omega),auG,bd,auv,al,List.drop_zero,show(0<l.length+1)=True by simp,aus,Bool.and_true]
 unfold pH;by_cases Z:(c::l).all jR=true∧((c::l).head? ≠ some 48∨(c::l).length=1)
 ·rw [if_pos Z]
  have:((c::l).all jR&&(!decide ((c::l).head? = some 48)||decide (l.length+1=1)))=true:=by
   rw [Z.1];rcases Z.2 with ad|ad
   ·simp only [ad,aut,aux,Bool.true_or,Bool.and_self]
   ·simp only [show l.length+1=1 from ad,aus,auG,Bool.and_self]
  rw [this]
  have bB:(c::l).head? ≠ some 45:=by
   intro e;simp only [List.head?_cons,Option.some.injEq]at e;subst e;exact hc rfl
  have:=anj n (c::l) hs Z.1 bB n 0 0 (by simp only [auy];omega) (by omega) (by omega)
  simpa using this
 ·rw [if_neg Z]
  have:((c::l).all jR&&(!decide ((c::l).head? = some 48)||decide (l.length+1=1)))=false:=by
   cases ad:(c::l).all jR
   ·rfl
   ·by_cases am:(c::l).head? = some 48
    ·by_cases aR:l.length+1=1
     ·exact absurd ⟨ad,Or.inr aR⟩ Z
     ·simp only [am,aR,aus,aut,auw,Bool.or_self,Bool.and_false]
    ·exact absurd ⟨ad,Or.inl am⟩ Z
  rw [this];rfl
open Go Go.Ab Go.Proofs
def dl(l:auJ):Nat:=(l.takeWhile jR).length
def UN(c:UInt8)(l:auJ):dl (c::l)=bif jR c then dl l+1 else 0:=by
 unfold dl;cases h:jR c<;>simp [List.takeWhile,h]
def anm(l:auJ):dl l≤l.length:=by unfold dl;exact(List.takeWhile_prefix _).length_le
def acU(l:auJ):dl l=l.length↔l.all jR=true:=by
 induction l with
 |nil=>simp [dl]
 |cons c l aW=>
  rw [UN];cases h:jR c
  ·simp [h]
  ·simp [h,aW]
def ann(n:Nat)(s:auJ)(b:Bool)(hs:s.length≤4611686018427387904):∀m i,s.length<i+m→i≤s.length→zQ n s s b m (i:Int)=DP n s s b ((i+dl (s.drop i):Nat):Int):=by
 intro m;induction m with
 |zero=>intro i h ad;omega
 |succ m aW=>
  intro i hm hi;simp only [zQ,Q2];by_cases h:i<s.length
  ·rw [fH s i 0 h,dp (by omega),aW (i+1) (by omega) (by omega),UN]
   simp only [h,cv h,auA,auB,aus,auu,bd,th,l1,ee];rw [show(decide (48≤(s.getD i 0).toNat)&&decide ((s.getD i 0).toNat≤57))=jR (s.getD i 0)from rfl]
   cases jR (s.getD i 0)
   ·rfl
   ·simp only [auu];rw [show i+1+dl (s.drop (i+1))=i+(dl (s.drop (i+1))+1)by omega]
  ·rw [hf s i h];simp only [h,auB,aut,auv];rfl
def ano{n:Nat}{s:auJ}(h:s.length≤281474976710656):y' n s 10 64=some (C7 s):=by
 unfold y';rw [decide_eq_true (show(10:Int)=10∧(64:Int)=64∧s.length≤281474976710656 from⟨rfl,rfl,h⟩)]
 rfl
def anp{n:Nat}(c:UInt8)(l:auJ)(h:l.length+1<n)(hs:l.length+1≤140737488351232)(hc:jR c=true):Jk n (c::l)=some (pH (c::l)):=by
 have l_:=(xI c).1 hc;have dY:¬ c.toNat=45:=by omega
 unfold Jk Jj
 have UM:(bif (decide (0<(((c::l).length:Nat):Int))) then(decide (((((c::l).getD 0 0).toNat:Nat):Int)=45))else false)=false:=by
  simp only [List.getD_cons_zero,fv,dY,aut];cases decide (0<(((c::l).length:Nat):Int))<;>rfl
 have hin:(!(decide ((0:Int)<(((c::l).length:Nat):Int)))||aN 0 (c::l).length)=true:=by rw [mo (show 0<(c::l).length by simp)];simp only [auG]
 have ib:=ann n (c::l) false (by simp only [auy];omega) n 0 (by simp only [auy];omega) (by omega)
 have ib:zQ n (c::l) (c::l) false n 0=_:=ib;rw [UM,hin,ib];simp only [bd,auv,List.drop_zero,Nat.zero_add];have Z:1≤dl (c::l):=by rw [UN,hc];simp
 have hlen:(c::l).length=l.length+1:=rfl;have hle:=anm (c::l);unfold DP;simp only [mo (show 0<(c::l).length by simp),auG,bd,fv,show¬ dl (c::l)=0 by omega,aut,auv,auB,List.getD_cons_zero,gc,dL]
 unfold pH;by_cases ha:(c::l).all jR=true
 ·have hd:=(acU _).2 ha;simp only [hd,Nat.lt_irrefl,aut,Bool.false_or,ha,true_and];by_cases UO:c=48
  ·subst UO;by_cases e7:l=[]
   ·subst e7;simp only [List.head?_cons,auy,auz];rw [if_pos (by simp)]
    simp only [y',acS _ _ ha];rw [if_pos (by decide)]
    rfl
   ·have:1<((48::l:auJ)).length:=by
     cases l with
     |nil=>exact absurd rfl e7
     |cons _ _=>simp
    simp only [this,aus,auu];rw [if_neg (by simp [e7])]
    rfl
  ·have anq:¬ c.toNat=48:=λe=>UO (UInt8.toNat_inj.1 e)
   simp only [anq,aut,auv];rw [if_pos (show(c::l).head? ≠ some 48∨(c::l).length=1 from Or.inl (by simpa using UO))]
   rw [ano (by simp only [auy];omega),acS _ _ ha]
   by_cases ao:val 0 (c::l)≤9223372036854775807
   ·rw [if_pos ao,if_pos ao];rfl
   ·rw [if_neg ao,if_neg ao];rfl
 ·have hd:dl (c::l)<(c::l).length:=by
   have:¬ dl (c::l)=(c::l).length:=λe=>ha ((acU _).1 e)
   omega
  simp only [hd,aus,Bool.true_or,auu];rw [if_neg (λx=>ha x.1)]
def pI(w:auJ):Token×Int:=
 match w with
 |[]=>(⟨0,[],0,0⟩,0)
 |c::_=>
  if oM c=true then
   if u0 w=true then(⟨2,w,0,0⟩,0)else if hh w=true then(⟨1,w,0,0⟩,0) else(⟨0,[],0,0⟩,2)
  else if(pH w).2=0 then(⟨3,[],(pH w).1,0⟩,0) else(⟨0,[],0,0⟩,(pH w).2)
def anr{n:Nat}(c:UInt8)(l:auJ)(h:l.length+1<n)(hs:l.length+1≤140737488351232)(hw:iC c=true):Jl n (c::l)=some (pI (c::l)):=by
 unfold Jl pI;simp only [mo (show 0<(c::l).length by simp),bd,List.getD_cons_zero,fv,acL,al,acJ,Bm _ _ (show(c::l).length≤140737488351232 from hs)]
 by_cases Z:c.toNat=95
 ·have e:c=95:=UInt8.toNat_inj.1 Z;subst e
  have ans:pH (95::l)=(0,5):=by
   unfold pH;rw [if_neg (by simp [show jR 95=false from rfl])]
  simp only [Z,aus,auu];rw [if_neg (by decide),ans]
  rfl
 ·simp only [Z,aut,auv];cases ae:oM c
  ·have hd:jR c=true:=by
    unfold iC at hw;have hw:=of_decide_eq_true hw;unfold oM at ae;rw [xI];simp only [Bool.and_eq_false_iff,decide_eq_false_iff_not]at ae;omega
   simp only [auv,anp c l h hs hd,al,Bool.false_eq_true,auI];by_cases bv:(pH (c::l)).2=0
   ·simp only [bv,aus,auw,auv,auH]
   ·simp only [bv,aut,aux,auu,auI]
  ·simp only [auu,auH];cases u0 (c::l)
   ·cases hh (c::l)<;>rfl
   ·rfl
def ant{n:Nat}(c:UInt8)(l:auJ)(h:l.length+1<n)(ad:25<n)(hs:l.length+1≤140737488351232)(hw:iC c=true):Lu n (c::l)=some (pI (c::l)):=by
 unfold Lu pI
 have hc:c.toNat≠45:=by
  unfold iC at hw;have hw:=of_decide_eq_true hw;omega
 simp only [mo (show 0<(c::l).length by simp),bd,List.getD_cons_zero,fv,UI,al,acK _ ad,Bl (c::l) h ad (show(c::l).length≤4611686018427387904 by simp only [auy];omega),anl c l h (by omega) hc]
 cases ae:oM c
 ·simp only [auv,al,Bool.false_eq_true,auI];by_cases bv:(pH (c::l)).2=0
  ·simp only [bv,aus,auw,auv,auH]
  ·simp only [bv,aut,aux,auu,auI]
 ·simp only [auu,auH];cases u0 (c::l)
  ·cases hh (c::l)<;>rfl
  ·rfl
open Go Go.Ab Go.Proofs
def up(k:Nat):Int ⊕ (auJ×Nat)→Int ⊕ (auJ×Nat)
 |.inl e=>.inl e
 |.inr p=>.inr (p.1,p.2+k)
def gN:auJ→auJ→Int ⊕ (auJ×Nat)
 |[],acc=>.inl 6
 |[c],acc=>if c.toNat=34 then .inr (acc,1)else if c.toNat=92 then .inl 6 else if okB c=false then .inl 5 else if acc.length=64 then .inl 2 else .inl 6
 |c::d::l,acc=>
  if c.toNat=34 then .inr (acc,1)
  else if c.toNat=92 then
   if d.toNat≠34∧d.toNat≠92 then .inl 5 else if acc.length=64 then .inl 2 else up 2 (gN l (acc++[d]))
  else if okB c=false then .inl 5
  else if acc.length=64 then .inl 2
  else up 1 (gN (d::l) (acc++[c]))
def f7(l:auJ):List Int:=l.map λc=>((c.toNat:Nat):Int)
def UP(l:auJ):kf (f7 l)=l:=by
 unfold kf f7;rw [List.map_map]
 conv=>rhs;rw [←List.map_id l]
 refine List.map_congr_left λc _=>?_
 simp
def UQ(l:auJ):nz (f7 l)=true:=by
 unfold nz f7;rw [List.all_eq_true];intro x hx;obtain⟨c,_,rfl⟩:=List.mem_map.1 hx;have:=c.toNat_lt
 simp only [Bool.and_eq_true,decide_eq_true_eq];omega
def Mi(l:auJ):(f7 l).length=l.length:=by simp [f7]
def UR(l:auJ)(c:UInt8):f7 l++[((c.toNat:Nat):Int)]=f7 (l++[c]):=by simp [f7]
def xJ(z:Int)(i:Nat):Int ⊕ (auJ×Nat)→auJ×Int×Int
 |.inl e=>([],z,e)
 |.inr p=>(p.1,((i+p.2:Nat):Int),0)
def Mj(z:Int)(i k:Nat)(r:Int ⊕ (auJ×Nat)):xJ z i (up k r)=xJ z (i+k) r:=by
 cases r with
 |inl e=>rfl
 |inr p=>simp only [up,xJ];rw [show i+(p.2+k)=i+k+p.2 by omega]
def acV{k:Nat}(h:k≤65):room k 1=true:=by simp [room];omega
def Mk(c:UInt8)(l acc:auJ)(h:c.toNat≠92):gN (c::l) acc=if c.toNat=34 then .inr (acc,1)else if okB c=false then .inl 5 else if acc.length=64 then .inl 2 else up 1 (gN l (acc++[c])):=by
 cases l with
 |nil=>
  simp only [gN];by_cases Z:c.toNat=34
  ·simp only [Z,auH]
  ·simp only [Z,h,auI,up]
 |cons d l =>
  simp only [gN];by_cases Z:c.toNat=34
  ·simp only [Z,auH]
  ·simp only [Z,h,auI]
def anu{d:UInt8}(h:¬ (d.toNat≠34∧d.toNat≠92)):okB d=true:=by
 unfold okB;simp only [Bool.and_eq_true,decide_eq_true_eq];omega
def acW(p:Prop)[Decidable p]:(!decide p)=decide (¬ p):=by by_cases h:p<;>simp [h]
def anv(n:Nat)(s:auJ)(hs:s.length≤4611686018427387904):∀(m i:Nat) (acc:auJ),s.length<i+m→i≤s.length→acc.length≤64→
 zP n s m (f7 acc) (i:Int)=some (xJ 0 i (gN (s.drop i) acc)):=by
 intro m;induction m with
 |zero=>intro i acc h ad;omega
 |succ m aW=>
  intro i acc hm hi ha;simp only [zP,QZ,Jh,QY,Jg];by_cases h:i<s.length
  ·rw [fH s i 0 h,dp (by omega)]
   simp only [h,cv h,auA,auB,Int.ofNat_inj,aus,auu,bd,pF,gc,fv,dL,Bj,Mi];generalize hc:s.getD i 0=c
   by_cases hA:c.toNat=34
   ·simp only [hA,aus,auu,UQ,bd,UP];rw [Mk c _ _ (by omega),if_pos hA]
    rfl
   ·by_cases nZ:c.toNat=92
    ·simp only [nZ,aus,auu,show¬ (92=34)by omega,aut,auv]
     by_cases FJ:i+1=s.length
     ·simp only [FJ,aus,auu];rw [hf s s.length (by omega)]
      simp only [gN,hA,auI,nZ,auH];rfl
     ·have cO:i+1<s.length:=by omega
      rw [fH s (i+1) 0 cO,dp (by omega)]
      simp only [FJ,aut,auv,cv cO,bd];generalize s.getD (i+1) 0=d
      simp only [gN,hA,auI,nZ,auH,ee,acW,show¬ (92=34)by omega]
      by_cases hd:d.toNat≠34∧d.toNat≠92
      ·rw [if_pos hd];simp only [hd.1,hd.2,aus,not_false_eq_true,Bool.and_self,auu];rfl
      ·rw [if_neg hd];have:(decide (¬ d.toNat=34)&&decide (¬ d.toNat=92))=false:=by rw [←Bool.decide_and];exact decide_eq_false hd
       simp only [this,auv,anu hd,auw];by_cases qI:acc.length=64
       ·simp only [qI,aus,auu,auH];rfl
       ·simp only [qI,aut,auv,auI,auy,auz,acV (show acc.length+(0+1)≤65 by omega),bd,UR]
        rw [aW (i+1+1) (acc++[d]) (by omega) (by omega) (by simp only [auC,auy,auz];omega),Mj]
    ·simp only [hA,nZ,aut,auv];rw [Mk c _ _ nZ,if_neg hA];cases ew:okB c
     ·simp only [aux,auu,auH];rfl
     ·simp only [auw,auv,auI,Bool.true_eq_false];by_cases qI:acc.length=64
      ·simp only [qI,aus,auu,auH];rfl
      ·simp only [qI,aut,auv,auI,auy,auz,acV (show acc.length+(0+1)≤65 by omega),bd,UR]
       rw [aW (i+1) (acc++[c]) (by omega) (by omega) (by simp only [auC,auy,auz];omega),Mj]
  ·rw [hf s i h];simp only [h,auB,aut,auv];rfl
def US{k:Nat}(h:k≤9223372036854775807):cq k=true:=by simp [cq];omega
def acX(s:auJ)(i:Nat)(h:i<s.length):(s.take (i+1)).drop i=[s.getD i 0]:=by
 rw [fH (s.take (i+1)) i 0 (by simp;omega),hf _ _ (by simp;omega)]
 simp [List.getD,h]
def anw(n:Nat)(s:auJ)(hs:s.length≤4611686018427387904):∀(m i:Nat) (acc:auJ),s.length<i+m→i≤s.length→acc.length≤64→
 ∃z,EQ n s m (i:Int) acc=some (xJ z i (gN (s.drop i) acc)):=by
 intro m;induction m with
 |zero=>intro i acc h ad;omega
 |succ m aW=>
  intro i acc hm hi ha;simp only [EQ,TL,Lv,TK];by_cases h:i<s.length
  ·rw [fH s i 0 h,dp (by omega)]
   simp only [h,cv h,auA,auB,Int.ofNat_inj,aus,auu,bd,pF,gc,fv,dL,Bj,Mi,FH (Nat.le_succ i) h,acX s i h];generalize hc:s.getD i 0=c
   by_cases hA:c.toNat=34
   ·simp only [hA,aus,auu];rw [Mk c _ _ (by omega),if_pos hA]
    exact⟨0,rfl⟩
   ·by_cases nZ:c.toNat=92
    ·simp only [nZ,aus,auu,show¬ (92=34)by omega,aut,auv]
     by_cases FJ:i+1=s.length
     ·simp only [FJ,aus,auu];rw [hf s s.length (by omega)]
      simp only [gN,hA,auI,nZ,auH];exact⟨_,rfl⟩
     ·have cO:i+1<s.length:=by omega
      rw [fH s (i+1) 0 cO,dp (by omega)]
      simp only [FJ,aut,auv,cv cO,bd,auG,auA,acX s (i+1) cO,FH (Nat.le_succ (i+1)) cO];generalize s.getD (i+1) 0=d
      simp only [gN,hA,auI,nZ,auH,ee,acW,show¬ (92=34)by omega]
      by_cases hd:d.toNat≠34∧d.toNat≠92
      ·rw [if_pos hd];simp only [hd.1,hd.2,aus,not_false_eq_true,Bool.and_self,auu];exact⟨_,rfl⟩
      ·rw [if_neg hd];have:(decide (¬ d.toNat=34)&&decide (¬ d.toNat=92))=false:=by rw [←Bool.decide_and];exact decide_eq_false hd
       simp only [this,auv];by_cases qI:acc.length=64
       ·simp only [qI,aus,auu,auH];exact⟨_,rfl⟩
       ·simp only [qI,aut,auv,auI,auy,auz,US (show acc.length+(0+1)≤9223372036854775807 by omega),bd]
        obtain⟨z,dG⟩:=aW (i+1+1) (acc++[d]) (by omega) (by omega) (by simp only [auC,auy,auz];omega)
        exact⟨z,by rw [dG,Mj]⟩
    ·simp only [hA,nZ,aut,auv];rw [Mk c _ _ nZ,if_neg hA];cases ew:okB c
     ·simp only [aux,auu,auH];exact⟨_,rfl⟩
     ·simp only [auw,auv,auI,Bool.true_eq_false];by_cases qI:acc.length=64
      ·simp only [qI,aus,auu,auH];exact⟨_,rfl⟩
      ·simp only [qI,aut,auv,auI,auy,auz,US (show acc.length+(0+1)≤9223372036854775807 by omega),bd]
       obtain⟨z,dG⟩:=aW (i+1) (acc++[c]) (by omega) (by omega) (by simp only [auC,auy,auz];omega)
       exact⟨z,by rw [dG,Mj]⟩
  ·rw [hf s i h];simp only [h,auB,aut,auv];exact⟨_,rfl⟩
open Go Go.Ab Go.Proofs
def two:List auJ:=[[61,61],[33,61],[60,61],[62,61],[43,43]]
def ti:auJ:=[40,41,123,125,44,59,58,61,60,62,43,45,42,47,37]
def marks:List auJ:=two++ti.map λc=>[c]
def la(l w:auJ):Bool:=decide (w.length≤l.length∧l.take w.length=w)
def mL(l:auJ):auJ:=(marks.find? (la l)).getD []
def find_eq{α β:Type}[DecidableEq β](x:β)(p:α→Bool)(f:α→β)(L:List α)(h:∀w,w∈L→p w=decide (x=f w))(cc:∀v w,v∈L→w∈L→f v=f w→v=w):
 (∃v,v∈L∧x=f v∧L.find? p=some v)∨((∀v,v∈L→x≠f v)∧L.find? p=none):=by
 cases av:L.find? p with
 |none=>
  right
  rw [List.find?_eq_none]at av;refine⟨λv ao e=>av v ao ?_,rfl⟩
  rw [h v ao];exact decide_eq_true e
 |some v=>
  left
  have ao:=List.mem_of_find?_eq_some av;have:=List.find?_some av
  rw [h v ao]at this;exact⟨v,ao,of_decide_eq_true this,rfl⟩
def anx(a c:UInt8)(t:auJ):la (a::t) [c]=decide (a=c):=by
 unfold la;rw [decide_eq_decide];simp
def anz(a b:UInt8)(t:auJ)(w:auJ)(h:w∈two):la (a::b::t) w=decide ([a,b]=w):=by
 have:w.length=2:=by
  simp only [two,List.mem_cons,List.not_mem_nil,or_false]at h;rcases h with rfl|rfl|rfl|rfl|rfl<;>rfl
 unfold la;rw [decide_eq_decide,this];simp
def anA(a:UInt8)(w:auJ)(h:w∈two):la [a] w=false:=by
 have:w.length=2:=by
  simp only [two,List.mem_cons,List.not_mem_nil,or_false]at h;rcases h with rfl|rfl|rfl|rfl|rfl<;>rfl
 unfold la;rw [this];simp
def acY(a:UInt8)(t:auJ):((ti.map λc=>[c]).find? (la (a::t))).getD []=if a∈ti then[a] else[]:=by
 rw [List.find?_map];have Z:((λw=>la (a::t) w)∘λc=>[c])=λc=>decide (a=c):=by funext c;exact anx a c t
 have Z:(la (a::t)∘λc=>[c])=λc=>decide (a=c):=Z
 rw [Z];rcases find_eq a (λc=>decide (a=c)) (λc=>c) ti (λ_ _=>rfl) (λ_ _ _ _ e=>e) with⟨v,ao,rfl,ad⟩|⟨hn,ad⟩
 ·rw [ad,if_pos ao];rfl
 ·rw [ad,if_neg λhm=>hn a hm rfl];rfl
def anB(a b:UInt8)(t:auJ):mL (a::b::t)=if[a,b]∈two then[a,b]else if a∈ti then[a] else[]:=by
 unfold mL marks;rw [List.find?_append];rcases find_eq [a,b] (la (a::b::t)) (λc=>c) two (λw hw=>anz a b t w hw) (λ_ _ _ _ e=>e) with⟨v,ao,rfl,ad⟩|⟨hn,ad⟩
 ·rw [ad,if_pos ao];rfl
 ·rw [ad,if_neg λhm=>hn _ hm rfl]
  exact acY a (b::t)
def anC(a:UInt8):mL [a]=if a∈ti then[a] else[]:=by
 unfold mL marks;rw [List.find?_append]
 have:two.find? (la [a])=none:=by
  rw [List.find?_eq_none];intro w hw;rw [anA a w hw];exact Bool.false_ne_true
 rw [this];exact acY a []
def acZ(a:UInt8):∀l:auJ,Lib.indexByte l a = -1∧a∉l∨0≤Lib.indexByte l a∧a∈l
 |[]=>Or.inl ⟨rfl,by simp⟩
 |b::l=>by
  unfold Lib.indexByte;by_cases h:b=a
  ·subst h;right;simp
  ·have cO:(b == a)=false:=by simp [h]
   rw [cO];simp only [Bool.false_eq_true,auI];rcases acZ a l with⟨Z,ad⟩|⟨Z,ad⟩
   ·left
    rw [Z];refine⟨rfl,?_⟩
    simp only [List.mem_cons,not_or];exact⟨λe=>h e.symm,ad⟩
   ·right
    have:(Lib.indexByte l a == -1)=false:=by
     simp only [beq_eq_false_iff_ne,ne_eq];omega
    rw [this];simp only [Bool.false_eq_true,auI];exact⟨by omega,List.mem_cons_of_mem _ ad⟩
def anD(a:UInt8):(((a.toNat:Nat):Int)).toNat.toUInt8=a:=by
 (simp only [auA]);exact UInt8.ofNat_toNat
def ac0(n:Nat)(a:UInt8)(t:auJ):DO n (a::t)=some (if a∈ti then[a] else[]):=by
 unfold DO Q1 Ia;simp only [reduceCtorEq,aut,aux,mo (show 0<(a::t).length by simp),auG,bd,auu,al,List.getD_cons_zero,anD]
 rw [show([40,41,123,125,44,59,58,61,60,62,43,45,42,47,37]:auJ)=ti from rfl]
 rcases acZ a ti with⟨Z,ad⟩|⟨Z,ad⟩
 ·rw [Z,if_neg ad];rfl
 ·rw [if_pos ad];have hu:hE 1 (a::t).length=true:=Bi (i:=1) (show 1≤(a::t).length by simp)
  simp only [Z,aus,auu,hu,bd,List.take_succ_cons,List.take_zero]
def anE(n:Nat)(a:UInt8)(t:auJ):Ji n (a::t)=some (mL (a::t)):=by
 unfold Ji;cases t with
 |nil=>
  rw [anC];exact ac0 n a []
 |cons b t=>
  rw [anB];have ad:decide ((2:Int)≤(((a::b::t).length:Nat):Int))=true:=decide_eq_true (by simp only [auy];omega)
  have hu:hE 2 (a::b::t).length=true:=Bi (i:=2) (show 2≤(a::b::t).length by simp)
  simp only [ad,auu,hu,bd,wW,ac0];rw [show(a::b::t).take 2=[a,b]from rfl]
  generalize [a,b]=w
  by_cases h:w∈two
  ·rw [if_pos h];simp only [two,List.mem_cons,List.not_mem_nil,or_false]at h;rcases h with rfl|rfl|rfl|rfl|rfl<;>rfl
  ·rw [if_neg h];simp only [two,List.mem_cons,List.not_mem_nil,or_false,not_or]at h;simp only [h,aut,auv]
def anF(n:Nat):TE n=some marks:=rfl
def UT(w:auJ)(h:w∈marks):1≤w.length∧w.length≤2:=by
 have:∀w,w∈marks→decide (1≤w.length∧w.length≤2)=true:=by decide
 exact of_decide_eq_true (this w h)
def anG(i:Nat):Option auJ→Token×Int×Int
 |none=>(⟨0,[],0,0⟩,(i:Int),5)
 |some w=>(⟨5,w,0,0⟩,((i+w.length:Nat):Int),0)
def ac1(s:auJ)(i k:Nat):(s.take (i+k)).drop i=(s.drop i).take k:=by
 rw [List.drop_take];congr 1;omega
def anH(n:Nat)(s:auJ)(at_:Nat)(L:List auJ)(hs:s.length≤4611686018427387904)(ha:at_≤s.length)(c7:L.length≤100)(hw:∀w,w∈L→w.length≤2):
 ∀m i,L.length<i+m→i≤L.length→AW n s (at_:Int) L m (i:Int)=some (anG at_ ((L.drop i).find? (la (s.drop at_)))):=by
 intro m;induction m with
 |zero=>intro i h ad;omega
 |succ m aW=>
  intro i hm hi;simp only [AW,TO,TN];by_cases h:i<L.length
  ·(rw [fH L i default h,dp (by omega),aW (i+1) (by omega) (by omega)];simp only [auA])
   have UU:(L.getD i default).length≤2:=hw _ (by simp [List.getD,h])
   generalize L.getD i default=w at UU
   simp only [h,cv h,auB,aus,auu,bd,auG];have e1:auL ((at_:Int)+((w.length:Nat):Int))=((at_+w.length:Nat):Int):=by rw [wr]<;>omega
   simp only [e1,auA,ac1,Int.ofNat_le];by_cases Z:at_+w.length≤s.length
   ·simp only [Z,aus,auw,Bool.false_or,FH (Nat.le_add_right at_ w.length) Z,bd,auu];by_cases ad:(s.drop at_).take w.length=w
    ·have:la (s.drop at_) w=true:=decide_eq_true ⟨by simp;omega,ad⟩
     simp only [ad,aus,auu,List.find?_cons,this];rfl
    ·have:la (s.drop at_) w=false:=decide_eq_false λx=>ad x.2
     simp only [ad,aut,auv,List.find?_cons,this]
   ·have:la (s.drop at_) w=false:=decide_eq_false λx=>by have:=x.1;simp at this;omega
    simp only [Z,aut,aux,Bool.true_or,bd,auv,List.find?_cons,this]
  ·rw [hf L i h];simp only [h,auB,aut,auv];rfl
open Go Go.Ab Go.Proofs
def xK:Int ⊕ (auJ×Nat)→Token×Nat×Int
 |.inl e=>(⟨4,[],0,0⟩,0,e)
 |.inr p=>(⟨4,p.1,0,0⟩,p.2+1,0)
def gH(l:auJ):Token×Nat×Int:=
 match l with
 |[]=>(⟨0,[],0,0⟩,0,0)
 |c::t=>
  if iC c=true then((pI ((c::t).take (hO (c::t)))).1,hO (c::t),(pI ((c::t).take (hO (c::t)))).2)
  else if c.toNat=34 then xK (gN t [])
  else if mL (c::t)=[] then(⟨0,[],0,0⟩,0,5) else(⟨5,mL (c::t),0,0⟩,(mL (c::t)).length,0)
def FK:∀(l acc:auJ) (e:Int),gN l acc = .inl e→e≠0
 |[],acc,e,h=>by simp only [gN,Sum.inl.injEq]at h;omega
 |[c],acc,e,h=>by
  simp only [gN]at h
  (repeat' split at h)<;>simp only [reduceCtorEq,Sum.inl.injEq]at h<;>omega
 |c::d::l,acc,e,h=>by
  simp only [gN]at h;split at h
  ·cases h
  ·split at h
   ·split at h
    ·simp only [Sum.inl.injEq]at h;omega
    ·split at h
     ·simp only [Sum.inl.injEq]at h;omega
     ·cases av:gN l (acc++[d]) with
      |inl a7=>rw [av]at h;simp only [up,Sum.inl.injEq]at h;subst h;exact FK l _ _ av
      |inr p=>rw [av]at h;cases h
   ·split at h
    ·simp only [Sum.inl.injEq]at h;omega
    ·split at h
     ·simp only [Sum.inl.injEq]at h;omega
     ·cases av:gN (d::l) (acc++[c]) with
      |inl a7=>rw [av]at h;simp only [up,Sum.inl.injEq]at h;subst h;exact FK (d::l) _ _ av
      |inr p=>rw [av]at h;cases h
def UV:∀(l acc:auJ) (p:auJ×Nat),gN l acc = .inr p→1≤p.2∧p.2≤l.length∧p.1.length≤acc.length+p.2
 |[],acc,e,h=>by simp only [gN,reduceCtorEq]at h
 |[c],acc,p,h=>by
  simp only [gN]at h;split at h
  ·simp only [Sum.inr.injEq]at h;subst h;simp
  ·(repeat' split at h)<;>simp only [reduceCtorEq]at h
 |c::d::l,acc,p,h=>by
  simp only [gN]at h;split at h
  ·simp only [Sum.inr.injEq]at h;subst h;simp
  ·split at h
   ·split at h
    ·simp only [reduceCtorEq]at h
    ·split at h
     ·simp only [reduceCtorEq]at h
     ·cases av:gN l (acc++[d]) with
      |inl a7=>rw [av]at h;simp only [up,reduceCtorEq]at h
      |inr q=>
       rw [av]at h;simp only [up,Sum.inr.injEq]at h;subst h;have:=UV l _ _ av
       simp only [auC,auy,auz]at this ⊢;omega
   ·split at h
    ·simp only [reduceCtorEq]at h
    ·split at h
     ·simp only [reduceCtorEq]at h
     ·cases av:gN (d::l) (acc++[c]) with
      |inl a7=>rw [av]at h;simp only [up,reduceCtorEq]at h
      |inr q=>
       rw [av]at h;simp only [up,Sum.inr.injEq]at h;subst h;have:=UV (d::l) _ _ av
       simp only [auC,auy,auz]at this ⊢;omega
def anI(l:auJ):mL l=[]∨(1≤(mL l).length∧(mL l).length≤l.length):=by
 unfold mL;cases h:marks.find? (la l) with
 |none=>left;rfl
 |some w=>
  right
  have Z:=UT w (List.mem_of_find?_eq_some h);have ad:=List.find?_some h;have:=(of_decide_eq_true ad).1
  exact⟨Z.1,this⟩
def anJ(w:auJ):(pI w).1.Text.length≤w.length:=by
 cases w with
 |nil=>simp [pI]
 |cons c l=>
  unfold pI;simp only
  (repeat' split)<;>simp
def anK(l:auJ)(ae:l≠[])(h:(gH l).2.2=0):1≤(gH l).2.1∧(gH l).2.1≤l.length∧(gH l).1.Text.length≤(gH l).2.1:=by
 cases l with
 |nil=>exact absurd rfl ae
 |cons c t=>
  unfold gH at h ⊢;simp only at h ⊢
  split at h
  ·rename_i hw;rw [if_pos hw];simp only
   have Z:=Mh (c::t);refine⟨by rw [Bk,hw];simp,Z,?_⟩
   refine Nat.le_trans (anJ _) ?_;simp only [List.length_take];omega
  ·rename_i hw;rw [if_neg hw];split at h
   ·rename_i hA;rw [if_pos hA];cases av:gN t [] with
    |inl e=>rw [av]at h;exact absurd h (FK t [] e av)
    |inr p=>
     have:=UV t [] p av
     simp only [xK,auy,auz]at this ⊢;omega
   ·rename_i hA;rw [if_neg hA];split at h
    ·simp only at h;omega
    ·rename_i hm;rw [if_neg hm];have:=(anI (c::t)).resolve_left hm
     simp only
     exact⟨this.1,this.2,Nat.le_refl _⟩
def ac2(c:UInt8)(t:auJ)(h:iC c=true):∃k,hO (c::t)=k+1∧(c::t).take (hO (c::t))=c::t.take k∧k≤t.length:=by
 refine⟨hO t,by rw [Bk,h];rfl,by rw [Bk,h];rfl,Mh t⟩
def anL{c:UInt8}(h:c.toNat=34):iC c=false:=by
 unfold iC;exact decide_eq_false (by omega)
def anM{n:Nat}(c:UInt8)(t:auJ)(h:t.length+1<n)(hs:t.length+1≤140737488351232):
 DQ n (c::t)=some ((gH (c::t)).1,(((gH (c::t)).2.1:Nat):Int),(gH (c::t)).2.2):=by
 unfold DQ;rw [acO n (c::t) hs,al];unfold gH;simp only
 cases hw:iC c
 ·have h0:hO (c::t)=0:=by rw [Bk,hw];rfl
  rw [h0];simp only [show decide ((0:Int)<((0:Nat):Int))=false from rfl,auv,mo (show 0<(c::t).length by simp),bd,List.getD_cons_zero,fv,Bool.false_eq_true,auI]
  by_cases hA:c.toNat=34
  ·rw [if_pos hA];simp only [hA,aus,auu];unfold Q0;have:=anv n (c::t) (by simp only [auy];omega) n 1 [] (by simp only [auy];omega) (by simp) (by simp)
   rw [show zP n (c::t) n ([]:List Int) 1=_ from this,List.drop_succ_cons,List.drop_zero]
   cases gN t [] with
   |inl e=>rfl
   |inr p=>simp only [xJ,xK,al];rw [Nat.add_comm 1 p.2]
  ·rw [if_neg hA];simp only [hA,aut,auv,anE,al];by_cases hm:mL (c::t)=[]
   ·rw [if_pos hm];simp only [hm,aus,auu];rfl
   ·rw [if_neg hm];simp only [hm,aut,auv]
 ·obtain⟨k,hk,xL,ul⟩:=ac2 c t hw;rw [if_pos rfl];simp only [gc,show 0<hO (c::t)by omega,aus,auu,Bi (Mh (c::t)),bd,auA]
  rw [xL,anr c (t.take k) (by simp only [List.length_take];omega) (by simp only [List.length_take];omega) hw]
  rfl
def anN{n:Nat}(s:auJ)(i:Nat)(hi:i<s.length)(h:s.length<n)(ad:100<n)(hs:s.length≤140737488351232):
 ∃t z,Lw n s (i:Int)=some (t,z,(gH (s.drop i)).2.2)∧((gH (s.drop i)).2.2=0→t=(gH (s.drop i)).1∧z=((i+(gH (s.drop i)).2.1:Nat):Int)):=by
 unfold Lw;have hd:=fH s i 0 hi
 (simp only [auA])
 generalize hc:s.getD i 0=c at hd
 generalize ax:s.drop (i+1)=t at hd
 have wc:t.length+(i+1)=s.length:=by rw [←ax,List.length_drop];omega
 rw [hd];unfold gH;simp only [cv hi,bd,fv];by_cases hA:c.toNat=34
 ·simp only [anL hA,Bool.false_eq_true,auI,hA,aus,auu,auH];unfold TM;rw [dp (by omega)]
  obtain⟨z,dG⟩:=anw n s (by omega) n (i+1) [] (by omega) (by omega) (by simp)
  rw [dG,ax];cases av:gN t [] with
  |inl e=>exact⟨_,_,rfl,λbO=>absurd bO (FK _ _ _ av)⟩
  |inr p=>exact⟨_,_,rfl,λ_=>⟨rfl,by simp only [xK,xJ];rw [show i+1+p.2=i+(p.2+1)by omega]⟩⟩
 ·simp only [hA,aut,auv,auI,acM,al];cases hw:iC c
  ·simp only [auv,Bool.false_eq_true,auI,anF,al];have:=anH n s i marks (by omega) (by omega) (by decide) (λw hw=>(UT w hw).2) n 0 (by have:marks.length=20:=rfl;omega) (by omega)
   rw [show AW n s (i:Int) marks n 0=_ from this,List.drop_zero,hd]
   unfold mL;cases av:marks.find? (la (c::t)) with
   |none=>exact⟨_,_,rfl,λbO=>absurd bO (by decide)⟩
   |some w=>
    have dY:¬ w=[]:=λe=>by have:=(UT w (List.mem_of_find?_eq_some av)).1;rw [e]at this;simp at this
    simp only [Option.getD_some,dY,auI];exact⟨_,_,rfl,λ_=>⟨rfl,rfl⟩⟩
  ·obtain⟨k,hk,xL,ul⟩:=ac2 c t hw;have UU:=Mh (c::t);simp only [auy]at UU;simp only [auu,auH,acN i h (by omega) (show s.length≤4611686018427387904 by omega),al,hd,FH (Nat.le_add_right i (hO (c::t))) (show i+hO (c::t)≤s.length by omega),bd,auA,ac1]
   rw [xL,ant c (t.take k) (by simp only [List.length_take];omega) (by omega) (by simp only [List.length_take];omega) hw]
   exact⟨_,_,rfl,λ_=>⟨rfl,rfl⟩⟩
open Go Go.Ab Go.Proofs
def ji:Bool→auJ→Nat
 |_,[]=>0
 |false,c::l=>if c.toNat=35 then 1+ji true l else if c.toNat=32∨c.toNat=9∨c.toNat=10 then 1+ji false l else 0
 |true,c::l=>if c.toNat=10 then 1+ji false l else 1+ji true l
def gT:auJ→Nat
 |[]=>0
 |c::l=>if c.toNat=10 then 0 else 1+gT l
def UW:∀l,gT l≤l.length
 |[]=>Nat.le_refl _
 |c::l=>by have:=UW l;simp only [gT];split<;>simp only [auy]<;>omega
def UX:∀l,ji true l=gT l+ji false (l.drop (gT l))
 |[]=>rfl
 |c::l=>by
  by_cases h:c.toNat=10
  ·simp only [ji,gT,h,auH,List.drop_zero,Nat.zero_add,show¬ (10=35)by omega,auI,or_true]
  ·simp only [ji,gT,h,auI];rw [UX l,Nat.add_comm 1 (gT l),List.drop_succ_cons];omega
def anO(n:Nat)(s:auJ)(aj:Int→auO)(hs:s.length≤4611686018427387904):∀m i,s.length<i+m→i≤s.length→EM n aj s m (i:Int)=aj ((i+gT (s.drop i):Nat):Int):=by
 intro m;induction m with
 |zero=>intro i h ad;omega
 |succ m aW=>
  intro i hm hi;simp only [EM,TC];by_cases h:i<s.length
  ·(rw [fH s i 0 h,dp (by omega),aW (i+1) (by omega) (by omega)];simp only [auA])
   generalize s.getD i 0=c
   simp only [h,cv h,auB,aus,auu,bd,auG,fv,gT];by_cases lr:c.toNat=10
   ·simp only [lr,aus,auw,auv,auH];rfl
   ·simp only [lr,aut,aux,auu,auI];rw [show i+(1+gT (s.drop (i+1)))=i+1+gT (s.drop (i+1))by omega]
  ·rw [hf s i h];simp only [h,auB,aut,auv,aux,Bool.true_or,bd];rfl
def anP(n:Nat)(s:auJ)(hs:s.length≤4611686018427387904)(hn:s.length<n):∀m i,s.length<i+m→i≤s.length→EN n s m (i:Int)=some ((i+ji false (s.drop i):Nat):Int):=by
 intro m;induction m with
 |zero=>intro i h ad;omega
 |succ m aW=>
  intro i hm hi;simp only [EN,TD,TB];by_cases h:i<s.length
  ·have gP:=UW (s.drop i);rw [anO n s _ hs n i (by omega) hi]
   rw [fH s i 0 h]at gP ⊢
   (rw [dp (by omega),aW (i+1) (by omega) (by omega)];simp only [auA])
   have wc:(s.drop (i+1)).length=s.length-(i+1):=List.length_drop;generalize s.getD i 0=c at gP ⊢
   simp only [h,cv h,auB,aus,auu,bd,auG,fv,dL];by_cases u3:c.toNat=35
   ·have e:gT (c::s.drop (i+1))=1+gT (s.drop (i+1)):=by simp only [gT,u3,show¬ (35=10)by omega,auI]
    rw [e]at gP ⊢;simp only [auy,wc]at gP;rw [aW (i+(1+gT (s.drop (i+1)))) (by omega) (by omega)]
    simp only [u3,aus,auu,ji,auH];rw [UX,List.drop_drop]
    congr 2
    rw [show i+(1+gT (s.drop (i+1)))=i+1+gT (s.drop (i+1))by omega]
    omega
   ·simp only [u3,aut,auv,ji,auI];by_cases hb:c.toNat=32∨c.toNat=9∨c.toNat=10
    ·have:(decide (c.toNat=32)||decide (c.toNat=9)||decide (c.toNat=10))=true:=by
      rcases hb with hb|hb|hb<;>simp [hb]
     rw [if_pos hb,this,auu]
     congr 2;omega
    ·have:(decide (c.toNat=32)||decide (c.toNat=9)||decide (c.toNat=10))=false:=by
      simp only [not_or]at hb;simp only [hb.1,hb.2.1,hb.2.2,aut,Bool.or_self]
     rw [if_neg hb,this,auv];rfl
  ·rw [hf s i h];simp only [h,auB,aut,auv];rfl
def fd(s:auJ)(i:Nat):Nat:=(s.take i).count 10
def ac3(s:auJ)(i k:Nat)(h:(10:UInt8)∉(s.drop i).take k):fd s (i+k)=fd s i:=by
 unfold fd;rw [List.take_add,List.count_append,List.count_eq_zero.2 h];rfl
def ac4(s:auJ)(i:Nat)(h:i<s.length):fd s (i+1)=fd s i+(if(s.getD i 0).toNat=10 then 1 else 0):=by
 unfold fd;rw [List.take_add,List.count_append,fH s i 0 h,List.take_succ_cons,List.take_zero]
 congr 1
 generalize s.getD i 0=c
 by_cases hc:c.toNat=10
 ·rw [if_pos hc];obtain rfl:c=10:=UInt8.toNat_inj.1 hc;rfl
 ·rw [if_neg hc];refine List.count_eq_zero.2 λhm=>?_
  simp only [List.mem_cons,List.not_mem_nil,or_false]at hm;exact hc (by rw [←hm];rfl)
def anQ(n:Nat)(s:auJ)(a:Nat)(hs:s.length≤4611686018427387904)(ha:a≤s.length):∀m i,a<i+m→i≤a→EL n s (a:Int) m ((fd s i:Nat):Int) (i:Int)=some ((fd s a:Nat):Int):=by
 intro m;induction m with
 |zero=>intro i h ad;omega
 |succ m aW=>
  intro i hm hi;simp only [EL,TA,Tz,Lq];by_cases h:i<a
  ·have hle:fd s i≤i:=by unfold fd;exact Nat.le_trans List.count_le_length (by simp;omega)
   have kz:=ac4 s i (by omega)
   have nf:=aW (i+1) (by omega) (by omega)
   rw [kz]at nf
   (rw [dp (by omega),dp (by omega)];simp only [auA])
   generalize s.getD i 0=c at nf
   simp only [h,cv (show i<s.length by omega),auB,aus,auu,bd,fv]
   by_cases lr:c.toNat=10
   ·rw [if_pos lr]at nf;simp only [lr,aus,auu];exact nf
   ·rw [if_neg lr]at nf;simp only [lr,aut,auv];exact nf
  ·obtain rfl:i=a:=by omega
   simp only [Nat.lt_irrefl,auB,aut,auv]
def anR{n:Nat}(s:auJ)(a:Nat)(hs:s.length≤4611686018427387904)(ha:a≤s.length)(hn:s.length<n):Lr n s (a:Int)=some ((fd s a:Nat):Int):=by
 unfold Lr;exact anQ n s a hs ha n 0 (by omega) (by omega)
def UY:∀(l acc:auJ) (p:auJ×Nat),gN l acc = .inr p→(10:UInt8)∉l.take p.2
 |[],acc,e,h=>by simp only [gN,reduceCtorEq]at h
 |[c],acc,p,h=>by
  simp only [gN]at h;split at h
  ·rename_i hc;simp only [Sum.inr.injEq]at h;subst h;intro hm;simp only [List.take_succ_cons,List.take_zero,List.mem_cons,List.not_mem_nil,or_false]at hm;rw [←hm]at hc;exact absurd hc (by decide)
  ·(repeat' split at h)<;>simp only [reduceCtorEq]at h
 |c::d::l,acc,p,h=>by
  simp only [gN]at h;split at h
  ·rename_i hc;simp only [Sum.inr.injEq]at h;subst h;intro hm;simp only [List.take_succ_cons,List.take_zero,List.mem_cons,List.not_mem_nil,or_false]at hm;rw [←hm]at hc;exact absurd hc (by decide)
  ·split at h
   ·rename_i hA nZ;split at h
    ·simp only [reduceCtorEq]at h
    ·rename_i hd;split at h
     ·simp only [reduceCtorEq]at h
     ·cases av:gN l (acc++[d]) with
      |inl a7=>rw [av]at h;simp only [up,reduceCtorEq]at h
      |inr q=>
       rw [av]at h;simp only [up,Sum.inr.injEq]at h;subst h;have:=UY l _ _ av
       intro hm;simp only [List.take_succ_cons,List.mem_cons]at hm;rcases hm with hm|hm|hm
       ·rw [←hm]at nZ;exact absurd nZ (by decide)
       ·rw [←hm]at hd;exact absurd (show(10:UInt8).toNat≠34∧(10:UInt8).toNat≠92 by decide) hd
       ·exact this hm
   ·split at h
    ·simp only [reduceCtorEq]at h
    ·rename_i ew;split at h
     ·simp only [reduceCtorEq]at h
     ·cases av:gN (d::l) (acc++[c]) with
      |inl a7=>rw [av]at h;simp only [up,reduceCtorEq]at h
      |inr q=>
       rw [av]at h;simp only [up,Sum.inr.injEq]at h;subst h;have:=UY (d::l) _ _ av
       intro hm;rw [List.take_succ_cons,List.mem_cons]at hm;rcases hm with hm|hm
       ·rw [←hm]at ew;exact ew (by decide)
       ·exact this hm
def anS(l:auJ)(ae:l≠[])(h:(gH l).2.2=0):(10:UInt8)∉l.take (gH l).2.1:=by
 cases l with
 |nil=>exact absurd rfl ae
 |cons c t=>
  unfold gH at h ⊢;simp only at h ⊢
  split at h
  ·rename_i hw;rw [if_pos hw];simp only
   intro hm
   have e:(c::t).take (hO (c::t))=(c::t).takeWhile iC:=by
    unfold hO;exact(List.prefix_iff_eq_take.1 (List.takeWhile_prefix iC)).symm
   rw [e]at hm;have:=List.all_eq_true.1 (List.all_takeWhile (p:=iC) (l:=c::t)) _ hm
   exact absurd this (by decide)
  ·rename_i hw;rw [if_neg hw];split at h
   ·rename_i hA;rw [if_pos hA];cases av:gN t [] with
    |inl e=>rw [av]at h;exact absurd h (FK t [] e av)
    |inr p=>
     simp only [xK];intro hm;rw [List.take_succ_cons,List.mem_cons]at hm;rcases hm with hm|hm
     ·rw [←hm]at hA;exact absurd hA (by decide)
     ·exact UY _ _ _ av hm
   ·rename_i hA;rw [if_neg hA];split at h
    ·simp only at h;omega
    ·rename_i hm;rw [if_neg hm];simp only
     unfold mL at hm ⊢;cases av:marks.find? (la (c::t)) with
     |none=>rw [av]at hm;exact absurd rfl hm
     |some w=>
      simp only [Option.getD_some];have ad:=List.find?_some av;rw [(of_decide_eq_true ad).2];have:∀w,w∈marks→decide ((10:UInt8)∉w)=true:=by decide
      exact of_decide_eq_true (this w (List.mem_of_find?_eq_some av))
def ac5:∀l:auJ,(10:UInt8)∉l.take (gT l)
 |[]=>by simp
 |c::l=>by
  by_cases h:c.toNat=10
  ·simp [gT,h]
  ·have:=ac5 l
   simp only [gT,h,auI];rw [Nat.add_comm,List.take_succ_cons,List.mem_cons];intro hm;rcases hm with hm|hm
   ·rw [←hm]at h;exact h rfl
   ·exact this hm
open Go Go.Ab Go.Proofs
def hB:List Token→Nat
 |[]=>0
 |t::l=>60+t.Text.length+hB l
def Ml:∀l m:List Token,hB (l++m)=hB l+hB m
 |[],m=>by simp [hB]
 |t::l,m=>by rw [List.cons_append,hB,hB,Ml l m];omega
def nh:∀l:List Token,60*l.length≤hB l
 |[]=>Nat.le_refl _
 |t::l=>by have:=nh l;simp only [hB,auy];omega
def anT(n:Nat)(src:auJ)(aj:List Token→Int→Int→Option (List Token×Int×Int))(out:List Token)(rU:Int)(hs:src.length≤4611686018427387904):
 ∀m i,src.length<i+m→i≤src.length→DR n aj src out rU m (i:Int)=aj out rU ((i+gT (src.drop i):Nat):Int):=by
 intro m;induction m with
 |zero=>intro i h ad;omega
 |succ m aW=>
  intro i hm hi;simp only [DR,Q6,Q5];by_cases h:i<src.length
  ·(rw [fH src i 0 h,dp (by omega),aW (i+1) (by omega) (by omega)];simp only [auA])
   generalize src.getD i 0=c
   simp only [h,cv h,auB,aus,auu,bd,auG,fv,gT];by_cases lr:c.toNat=10
   ·simp only [lr,aus,auw,auv,auH];rfl
   ·simp only [lr,aut,aux,auu,auI];rw [show i+(1+gT (src.drop (i+1)))=i+1+gT (src.drop (i+1))by omega]
  ·rw [hf src i h];simp only [h,auB,aut,auv,aux,Bool.true_or,bd];rfl
def clone{n:Nat}{s:auJ}(h:s.length≤281474976710656):Jm n s=some s:=by
 unfold Jm H_;simp only [h,aus,bd,al]
def anU{k:Nat}(h:k≤1000000000000):room k 40=true:=by simp [room];omega
def ac6{n:Nat}(s:auJ)(i:Nat)(hs:s.length≤4611686018427387904)(hn:s.length<n)(hi:i≤s.length):EO n s (i:Int)=some ((i+ji false (s.drop i):Nat):Int):=anP n s hs hn n i (by omega) hi
def anV(
 G:Token→Prop) (qm:∀(s:auJ) (rU:Int),s≠[]→(gH s).2.2=0→G ⟨(gH s).1.Kind,(gH s).1.Text,(gH s).1.N,rU⟩) (n:Nat) (src:auJ) (hs:src.length≤1000000000) (hn:src.length<n) (FL:100<n):∀(k i m m2:Nat) (out:List Token),src.length-i=k→i≤src.length→src.length<i+m→src.length<i+m2→hB out≤61*i→(∀t,t∈out→G t)→
 ∃r,DS n src m out ((fd src i+1:Nat):Int) (i:Int)=some r∧AX n src m2 out ((i+ji false (src.drop i):Nat):Int)=some r∧(r.2.2=0→hB r.1≤61*src.length∧∀t,t∈r.1→G t):=by
 intro k;induction k using Nat.strongRecOn with
 |_ k ac7=>
  intro i m m2 out hk hi hm FM hw UZ;cases m with
  |zero=>omega
  |succ m=>
   simp only [DS,Q7,Q3];by_cases h:i<src.length
   ·have hd:=fH src i 0 h;have kz:=ac4 src i h;have atP:fd src i≤i:=by unfold fd;exact Nat.le_trans List.count_le_length (by simp;omega)
    simp only [Jo,Q4]
    (rw [anT n src _ out _ (by omega) n i (by omega) hi,dp (by omega),dp (by omega)];simp only [auA])
    have wc:(src.drop (i+1)).length=src.length-(i+1):=List.length_drop;have gP:=UW (src.drop i);have anW:=ac5 (src.drop i);have U0:∀(j:Nat),i<j→j≤src.length→_:=λj hj vU=>ac7 (src.length-j) (by omega) j m m2 out rfl vU (by omega) (by omega) (by omega) UZ
    generalize hc:src.getD i 0=c at hd kz
    simp only [h,cv h,auB,aus,auu,bd,fv];by_cases lr:c.toNat=10
    ·simp only [lr,aus,auu];obtain⟨r,Z,ad,am⟩:=U0 (i+1) (by omega) (by omega)
     rw [kz,if_pos lr]at Z;refine⟨r,Z,?_,am⟩
     rw [hd];simp only [ji,lr,show¬ (10=35)by omega,auI,or_true,auH]
     rw [show i+(1+ji false (src.drop (i+1)))=i+1+ji false (src.drop (i+1))by omega]
     exact ad
    ·have anX:fd src (i+1)=fd src i:=by rw [kz,if_neg lr];rfl
     simp only [lr,aut,auv];by_cases hb:c.toNat=32∨c.toNat=9
     ·obtain⟨r,Z,ad,am⟩:=U0 (i+1) (by omega) (by omega)
      rw [anX]at Z;refine⟨r,?_,?_,am⟩
      ·rcases hb with hb|hb
       ·simp only [hb,aus,auu];exact Z
       ·simp only [hb,show¬ (9=32)by omega,aut,aus,auu,auv];exact Z
      ·rw [hd];simp only [ji];rw [if_neg (by omega),if_pos (by omega),show i+(1+ji false (src.drop (i+1)))=i+1+ji false (src.drop (i+1))by omega]
       exact ad
     ·have cP:¬ c.toNat=32:=λe=>hb (Or.inl e)
      have fk:¬ c.toNat=9:=λe=>hb (Or.inr e)
      simp only [cP,fk,aut,auv];by_cases u3:c.toNat=35
      ·simp only [u3,aus,auu];have e:gT (src.drop i)=1+gT (src.drop (i+1)):=by rw [hd];simp only [gT,lr,auI]
       obtain⟨r,Z,ad,am⟩:=U0 (i+gT (src.drop i)) (by omega) (by simp only [List.length_drop]at gP;omega)
       rw [ac3 src i _ anW]at Z;refine⟨r,Z,?_,am⟩
       rw [hd];simp only [ji,u3,auH]
       rw [UX,List.drop_drop,show i+(1+(gT (src.drop (i+1))+ji false (src.drop (i+1+gT (src.drop (i+1))))))=i+gT (src.drop i)+ji false (src.drop (i+gT (src.drop i))) by
        rw [e,show i+(1+gT (src.drop (i+1)))=i+1+gT (src.drop (i+1))by omega];omega]
       exact ad
      ·simp only [u3,aut,auv,Bi (Nat.le_of_lt h),bd]
       have anY:ji false (src.drop i)=0:=by
        rw [hd];simp only [ji];rw [if_neg u3,if_neg (by omega)]
       rw [anY,show i+0=i from rfl]
       cases m2 with
       |zero=>omega
       |succ m2=>
        simp only [AX,Lx];have dY:src.drop i≠[]:=by rw [hd];simp
        obtain⟨t,z,ii,jb⟩:=anN (n:=n) src i h (by omega) FL (by omega)
        have cc:DQ n (src.drop i)=some ((gH (src.drop i)).1,(((gH (src.drop i)).2.1:Nat):Int),(gH (src.drop i)).2.2):=by
         rw [hd];exact anM c (src.drop (i+1)) (by omega) (by omega)
        rw [cc,ii,anR src i (by omega) hi hn]
        simp only [h,auB,aus,auu,al];rw [dp (by omega)]
        by_cases he:(gH (src.drop i)).2.2=0
        ·have ew:=anK _ dY he;have U1:=anS _ dY he;have atQ:(src.drop i).length=src.length-i:=List.length_drop;obtain⟨rfl,rfl⟩:=jb he;have hY:=qm (src.drop i) ((fd src i+1:Nat):Int) dY he;generalize gH (src.drop i)=T at he ew U1 hY
         obtain⟨t,kk,e⟩:=T;simp only at he ew U1 hY
         subst he;have On:=nh out;simp only [aus,auw,auv,clone (show t.Text.length≤281474976710656 by omega),al,auy,auz,anU (show out.length+(0+1)≤1000000000000 by omega),bd]
         rw [show auL ((i:Int)+((kk:Nat):Int))=((i+kk:Nat):Int)by rw [wr]<;>omega,ac6 src (i+kk) (by omega) hn (by omega),al]
         obtain⟨r,Z,ad,am⟩:=ac7 (src.length-(i+kk)) (by omega) (i+kk) m m2 (out++[⟨t.Kind,t.Text,t.N,((fd src i+1:Nat):Int)⟩]) rfl (by omega) (by omega) (by omega) (by rw [Ml];simp only [hB];omega) (λbp dm=>by
          rcases List.mem_append.1 dm with cO|cO
          ·exact UZ bp cO
          ·obtain rfl:=List.mem_singleton.1 cO;exact hY)
         rw [ac3 src i _ U1]at Z;exact⟨r,Z,ad,am⟩
        ·simp only [he,aut,aux,auu];exact⟨_,rfl,rfl,λbO=>absurd bO he⟩
   ·rw [hf src i h];simp only [ji,Nat.add_zero];cases m2 with
    |zero=>omega
    |succ m2=>
     simp only [AX,Lx,TP,h,auB,aut,auv];exact⟨_,rfl,rfl,λ_=>⟨by simp only;omega,UZ⟩⟩
def anZ(G:Token→Prop)(qm:∀(s:auJ) (rU:Int),s≠[]→(gH s).2.2=0→G ⟨(gH s).1.Kind,(gH s).1.Text,(gH s).1.N,rU⟩){n:Nat}(src:auJ)(hn:src.length≤16384→src.length<n)(FL:100<n):
 ∃r,Jp n src=some r∧Ly n src=some r∧(r.2.2=0→hB r.1≤61*src.length∧src.length≤16384∧∀t,t∈r.1→G t):=by
 unfold Jp Ly;simp only [gc];by_cases h:16384<src.length
 ·simp only [h,aus,auu];exact⟨_,rfl,rfl,λe=>absurd e (by decide)⟩
 ·simp only [h,aut,auv];have hn:=hn (by omega)
  have:=ac6 (n:=n) src 0 (by omega) hn (by omega)
  rw [show EO n src 0=_ from this,al]
  obtain⟨r,Z,ad,am⟩:=anV G qm n src (by omega) hn FL (src.length-0) 0 n n [] rfl (by omega) (by omega) (by omega) (by simp [hB]) (λt ax=>by cases ax)
  exact⟨r,Z,ad,λe=>⟨(am e).1,by omega,(am e).2⟩⟩
def an0(s:auJ)(rU:Int)(hs:s≠[])(h:(gH s).2.2=0):(gH s).1.Kind=5→(gH s).1.Text∈marks:=by
 cases s with
 |nil=>exact absurd rfl hs
 |cons c t=>
  unfold gH at h ⊢;simp only at h ⊢
  split
  ·intro hk;exfalso
   revert hk
   generalize (c::t).take (hO (c::t))=w
   cases w with
   |nil=>intro hk;simp [pI]at hk
   |cons d w=>
    unfold pI;simp only
    (repeat' split)<;>(intro hk;simp at hk)
  ·split
   ·cases gN t []<;>(intro hk;exfalso;simp [xK]at hk)
   ·split
    ·rename_i hm;intro hk;exfalso;simp at hk
    ·rename_i hm;intro _;simp only
     unfold mL at hm ⊢;cases av:marks.find? (la (c::t)) with
     |none=>rw [av]at hm;exact absurd rfl hm
     |some w=>exact List.mem_of_find?_eq_some av
def an1(s:auJ):hR (gH s).1.N=0:=by
 cases s with
 |nil=>rfl
 |cons c t=>
  unfold gH;simp only
  split
  ·simp only
   generalize (c::t).take (hO (c::t))=w
   cases w with
   |nil=>rfl
   |cons d w=>
    unfold pI pH;simp only
    (repeat' split)<;>first|rfl|exact UJ (by simp only;omega)
  ·split
   ·unfold xK;split<;>rfl
   ·split<;>rfl
open Go Go.Ab Go.Proofs
def b8(l:List Token)(i:Nat)(w:auJ):Bool:=
 decide (i<l.length)&&((decide ((l.getD i default).Kind=2)||decide ((l.getD i default).Kind=5))&&decide ((l.getD i default).Text=w))
def hl{l:List Token}{i:Nat}{w:auJ}(h:b8 l i w=true):i<l.length:=by
 unfold b8 at h;simp only [Bool.and_eq_true,decide_eq_true_eq]at h;exact h.1
def Bo(n:Nat)(l:List Token)(i:Nat)(w:auJ):uB n w ⟨l,(i:Int)⟩=some (b8 l i w):=by
 unfold uB b8;simp only [auA,Int.ofNat_le,dL,ee];by_cases h:i<l.length
 ·simp only [show¬ l.length≤i by omega,aut,auv,cv h,bd,h,aus,Bool.true_and]
 ·simp only [show l.length≤i by omega,aus,auu,h,aut,Bool.false_and]
def oN(n:Nat)(l:List Token)(i:Nat)(w:auJ):kH n l (i:Int) w=some (b8 l i w):=by
 unfold kH b8;simp only [auA,auB,dL,ee];by_cases h:i<l.length
 ·simp only [h,cv h,auG,bd,aus,Bool.true_and]
 ·simp only [h,aut,aux,Bool.true_or,bd,Bool.false_and]
def FN(l:List Token)(i:Nat):Int:=
 if i<l.length then(l.getD i default).ls else if l.length=0 then 1 else(l.getD (l.length-1) default).ls
def ns(l:List Token)(i:Nat)(c:Int):V:=.iface 379 (.agg [.int .i64 (FN l i),.int .i64 c])
def iV(l:List Token)(i:Nat)(c:Int):Int:=if i<l.length then c else 6
def u4(n:Nat)(l:List Token)(i:Nat)(c:Int)(ae:l.length≤4611686018427387904):sX n c ⟨l,(i:Int)⟩=some (.bj (ns l i (iV l i c)) ()):=by
 unfold sX Q9 Q8 ns FN iV;simp only [auA,auB];by_cases h:i<l.length
 ·simp only [h,cv h,aus,auu,bd,auH]
 ·simp only [h,aut,auv,auI];by_cases h0:l.length=0
  ·simp only [h0,auH];rfl
  ·have:auL (((l.length:Nat):Int)-1)=((l.length-1:Nat):Int):=by rw [wr]<;>omega
   rw [this];simp only [fv,h0,aut,auv,cv (show l.length-1<l.length by omega),bd,auA,auI]
def an2(n:Nat)(l:List Token)(i:Nat)(c:Int)(ae:l.length≤4611686018427387904):RD n c ⟨l,(i:Int)⟩=some (.bj (ns l i (iV l i c)) ()):=u4 n l i c ae
def ni(n:Nat)(l:List Token)(i:Nat)(w:auJ)(hi:i≤4611686018427387904):lx n w ⟨l,(i:Int)⟩=some (b8 l i w,(((bif b8 l i w then i+1 else i):Nat):Int)):=by
 unfold lx;rw [Bo,al,dp hi];cases b8 l i w<;>rfl
def oO(n:Nat)(l:List Token)(i:Nat)(w:auJ)(hi:i≤4611686018427387904)(ae:l.length≤4611686018427387904):
 kg n w ⟨l,(i:Int)⟩=some (bif b8 l i w then .ret () ((i+1:Nat):Int)else .bj (ns l i (iV l i 5)) (i:Int)):=by
 unfold kg;rw [ni n l i w hi,al];cases b8 l i w
 ·simp only [aux,auu,auv];rw [u4 n l i 5 ae,al];rfl
 ·rfl
def Bp(n:Nat)(l:List Token)(i:Nat):uL n l (i:Int)=some (iV l i 5):=by
 unfold uL iV;simp only [Int.ofNat_le];by_cases h:i<l.length
 ·simp only [h,show¬ l.length≤i by omega,aut,auv,auH]
 ·simp only [h,show l.length≤i by omega,aus,auu,auI]
def hZ(l:List Token)(i:Nat):iV l i 5≠0:=by unfold iV;split<;>decide
def rV{n:Nat}(l:List Token)(i:Nat)(w:auJ)(hn:2≤n)(hi:i≤4611686018427387904):
 kj n l (i:Int) [w]=some (bif b8 l i w then(((i+1:Nat):Int),0) else((i:Int),iV l i 5)):=by
 obtain⟨n',rfl⟩:∃n',n=n'+2:=⟨n-2,by omega⟩
 unfold kj;simp only [ER,LC,LB,auy,auz];have Z:(decide ((0:Int)<((0+1:Nat):Int)))=true:=rfl;have ad:aN 0 (0+1)=true:=rfl;rw [Z,ad,show auL ((0:Int)+1)=1 from rfl,dp hi]
 simp only [auu,bd,show(0:Int).toNat=0 from rfl,List.getD_cons_zero,oN,Bp,al]
 cases b8 l i w<;>rfl
def an3{n:Nat}(l:List Token)(i:Nat)(v w:auJ)(hn:3≤n)(hi:i≤4611686018427380000):
 kj n l (i:Int) [v,w]=some (bif b8 l i v then(bif b8 l (i+1) w then(((i+1+1:Nat):Int),0) else(((i+1:Nat):Int),iV l (i+1) 5)) else((i:Int),iV l i 5)):=by
 obtain⟨n',rfl⟩:∃n',n=n'+3:=⟨n-3,by omega⟩
 unfold kj;simp only [ER,LC,LB,auy,auz];have Z:(decide ((0:Int)<((0+1+1:Nat):Int)))=true:=rfl;have ad:aN 0 (0+1+1)=true:=rfl;have am:(decide ((1:Int)<((0+1+1:Nat):Int)))=true:=rfl;have aR:aN 1 (0+1+1)=true:=rfl;rw [Z,ad,show auL ((0:Int)+1)=1 from rfl,dp (by omega)]
 rw [am,aR,show auL ((1:Int)+1)=2 from rfl,dp (by omega)]
 simp only [auu,bd,show(0:Int).toNat=0 from rfl,show(1:Int).toNat=1 from rfl,List.getD_cons_zero,List.getD_cons_succ,oN,Bp,al]
 cases b8 l i v
 ·rfl
 ·cases b8 l (i+1) w<;>rfl
def gA:List (auJ×Int×Int):=[([111,114],1,17),([97,110,100],2,16),([61,61],4,10),([33,61],4,11),([60],4,12),([60,61],4,13),([62],4,14),([62,61],4,15),([43,43],5,19),([43],6,4),([45],6,5),([42],7,6),([47],7,7),([37],7,8)]
def Bq:Option (auJ×Int×Int)→Int×Int
 |none=>(0,0)
 |some r=>r.2
def mM(l:List Token)(i:Nat):Int×Int:=Bq (gA.find? λr=>b8 l i r.1)
def ac8(l:List Token)(i:Nat)(dv:Int):Int:=(Bq (gA.find? λr=>decide (r.2.1=dv)&&b8 l i r.1)).2
def Mm{l:List Token}{i:Nat}(h:i<l.length)(hk:(l.getD i default).Kind=2∨(l.getD i default).Kind=5)(w:auJ):b8 l i w=decide ((l.getD i default).Text=w):=by
 unfold b8;have:(decide ((l.getD i default).Kind=2)||decide ((l.getD i default).Kind=5))=true:=by rcases hk with hk|hk<;>rw [decide_eq_true hk]<;>simp
 rw [this,decide_eq_true h];rfl
def FO{l:List Token}{i:Nat}(h:¬ (i<l.length∧((l.getD i default).Kind=2∨(l.getD i default).Kind=5)))(w:auJ):b8 l i w=false:=by
 unfold b8;by_cases Z:i<l.length
 ·by_cases ad:(l.getD i default).Kind=2
  ·exact absurd ⟨Z,Or.inl ad⟩ h
  ·by_cases am:(l.getD i default).Kind=5
   ·exact absurd ⟨Z,Or.inr am⟩ h
   ·rw [decide_eq_false ad,decide_eq_false am];simp
 ·rw [decide_eq_false Z];rfl
def ac9(n:Nat)(l:List Token)(i:Nat):Jq n ⟨l,(i:Int)⟩=some (mM l i):=by
 unfold Jq mM
 (simp only [auA])
 simp only [Int.ofNat_le,ee];by_cases h:i<l.length
 ·simp only [show¬ l.length≤i by omega,aut,auv,cv h,bd]
  by_cases hk:(l.getD i default).Kind=2∨(l.getD i default).Kind=5
  ·have im:((!decide ((l.getD i default).Kind=2)) && !decide ((l.getD i default).Kind=5))=false:=by
    rcases hk with hk|hk<;>rw [decide_eq_true hk]<;>simp
   rw [im];simp only [auv,Mm h hk];generalize (l.getD i default).Text=w
   by_cases hw:w∈gA.map (·.1)
   ·simp only [gA,List.map_cons,List.map_nil,List.mem_cons,List.not_mem_nil,or_false]at hw;rcases hw with rfl|rfl|rfl|rfl|rfl|rfl|rfl|rfl|rfl|rfl|rfl|rfl|rfl|rfl<;>rfl
   ·simp only [gA,List.map_cons,List.map_nil,List.mem_cons,List.not_mem_nil,or_false,not_or]at hw;simp only [hw,aut,auv,gA,List.find?_cons,List.find?_nil];rfl
  ·have im:((!decide ((l.getD i default).Kind=2)) && !decide ((l.getD i default).Kind=5))=true:=by
    simp only [not_or]at hk;rw [decide_eq_false hk.1,decide_eq_false hk.2];rfl
   rw [im];simp only [auu,FO (λx=>hk x.2),gA,List.find?_cons,List.find?_nil]
   rfl
 ·simp only [show l.length≤i by omega,aus,auu,FO (λx=>h x.1),gA,List.find?_cons,List.find?_nil]
  rfl
def an4(l:List Token)(i:Nat)(dv:Int)(h0:dv≠0):ac8 l i dv=if(mM l i).1=dv then(mM l i).2 else 0:=by
 unfold ac8 mM;by_cases h:i<l.length∧((l.getD i default).Kind=2∨(l.getD i default).Kind=5)
 ·simp only [Mm h.1 h.2];generalize (l.getD i default).Text=w
  by_cases hw:w∈gA.map (·.1)
  ·simp only [gA,List.map_cons,List.map_nil,List.mem_cons,List.not_mem_nil,or_false]at hw;by_cases ae:dv=1∨dv=2∨dv=4∨dv=5∨dv=6∨dv=7
   ·rcases ae with rfl|rfl|rfl|rfl|rfl|rfl<;>rcases hw with rfl|rfl|rfl|rfl|rfl|rfl|rfl|rfl|rfl|rfl|rfl|rfl|rfl|rfl<;>rfl
   ·simp only [not_or]at ae;have e1:¬ (1:Int)=dv:=λe=>ae.1 e.symm
    have e2:¬ (2:Int)=dv:=λe=>ae.2.1 e.symm
    have gZ:¬ (4:Int)=dv:=λe=>ae.2.2.1 e.symm
    have lQ:¬ (5:Int)=dv:=λe=>ae.2.2.2.1 e.symm
    have pJ:¬ (6:Int)=dv:=λe=>ae.2.2.2.2.1 e.symm
    have oP:¬ (7:Int)=dv:=λe=>ae.2.2.2.2.2 e.symm
    have dG:∀w:auJ,gA.find? (λr=>decide (r.2.1=dv)&&decide (w=r.1))=none:=by
     intro w;simp only [gA,List.find?_cons,List.find?_nil,e1,e2,gZ,lQ,pJ,oP,aut,Bool.false_and]
    rw [dG];rcases hw with rfl|rfl|rfl|rfl|rfl|rfl|rfl|rfl|rfl|rfl|rfl|rfl|rfl|rfl
    ·exact(if_neg e1).symm
    ·exact(if_neg e2).symm
    ·exact(if_neg gZ).symm
    ·exact(if_neg gZ).symm
    ·exact(if_neg gZ).symm
    ·exact(if_neg gZ).symm
    ·exact(if_neg gZ).symm
    ·exact(if_neg gZ).symm
    ·exact(if_neg lQ).symm
    ·exact(if_neg pJ).symm
    ·exact(if_neg pJ).symm
    ·exact(if_neg oP).symm
    ·exact(if_neg oP).symm
    ·exact(if_neg oP).symm
  ·simp only [gA,List.map_cons,List.map_nil,List.mem_cons,List.not_mem_nil,or_false,not_or]at hw;simp only [hw,aut,gA,List.find?_cons,List.find?_nil,Bool.and_false,Bq];rw [if_neg (λe=>h0 e.symm)]
 ·simp only [FO h,gA,List.find?_cons,List.find?_nil,Bool.and_false,Bq];rw [if_neg (λe=>h0 e.symm)]
open Go Go.Ab Go.Proofs
def getD_map{α β:Type}[Inhabited α][Inhabited β](f:α→β):∀(l:List α) (i:Nat),i<l.length→(l.map f).getD i default=f (l.getD i default)
 |[],i,h=>by simp at h
 |x::l,0,h=>rfl
 |x::l,i+1,h=>getD_map f l i (by simpa using h)
def an5(n:Nat)(l:List Token)(at_ dv:Int)(aj:Int→auO)(v6:Int):TR n l at_ dv aj v6 =
 bif (decide (v6<((gA.length:Nat):Int))) then(
  ar (aN v6 gA.length)<|
  ar (!(decide (((gA.map (·.2.1)).getD (v6).toNat default)=dv))||aN v6 gA.length)<|
  Option.bind (bif (decide (((gA.map (·.2.1)).getD (v6).toNat default)=dv))then kH n l at_ ((gA.map (·.1)).getD (v6).toNat default)else some default) λb9=>
  bif (bif (decide (((gA.map (·.2.1)).getD (v6).toNat default)=dv))then b9 else false) then(
   ar (aN v6 gA.length)<|
   some ((gA.map (·.2.2)).getD (v6).toNat default))
  else(
   aj (auL (v6+1))))
 else TQ n:=rfl
def an6(n:Nat)(l:List Token)(a:Nat)(dv:Int):∀m i,gA.length<i+m→i≤gA.length→ES n l (a:Int) dv m (i:Int)=some (Bq ((gA.drop i).find? λr=>decide (r.2.1=dv)&&b8 l a r.1)).2:=by
 have hlen:gA.length=14:=rfl;intro m;induction m with
 |zero=>intro i h ad;omega
 |succ m aW=>
  intro i hm hi;rw [ES,an5];by_cases h:i<gA.length
  ·(rw [fH gA i default h,dp (by omega),aW (i+1) (by omega) (by omega)];simp only [auA];rw [getD_map _ _ _ h,getD_map _ _ _ h,getD_map _ _ _ h])
   generalize gA.getD i default=t
   simp only [h,cv h,auB,aus,auu,bd,auG,oN,ee,List.find?_cons];cases decide (t.2.1=dv)
   ·rfl
   ·simp only [auu,al,Bool.true_and];cases b8 l a t.1<;>rfl
  ·rw [hf gA i h];simp only [h,auB,aut,auv];rfl
def U2{n:Nat}(l:List Token)(a:Nat)(dv:Int)(hn:14<n)(h0:dv≠0):TS n l (a:Int) dv=some (if(mM l a).1=dv then(mM l a).2 else 0):=by
 rw [←an4 l a dv h0];have hlen:gA.length=14:=rfl;exact an6 n l a dv n 0 (by omega) (by omega)
def iW:List (auJ×Int):=[([116,101,120,116],20),([108,101,110],21),([103,101,116,105,110,116],22),([103,101,116,115,116,114],23),([104,97,115],24),([110,111,119],25),([114,97,110,100,111,109],26),([110,111,100,101],27)]
def call2:Option (auJ×Int)→Int
 |none=>0
 |some r=>r.2
def qJ(l:List Token)(i:Nat):Int:=call2 (iW.find? λr=>b8 l i r.1)
def an7(n:Nat)(l:List Token)(at_:Int)(aj:Int→auO)(v5:Int):TU n l at_ aj v5 =
 bif (decide (v5<((iW.length:Nat):Int))) then(
  ar (aN v5 iW.length)<|
  Option.bind (kH n l at_ ((iW.map (·.1)).getD (v5).toNat default)) λbz=>
  bif bz then(
   ar (aN v5 iW.length)<|
   some ((iW.map (·.2)).getD (v5).toNat default))
  else(
   aj (auL (v5+1))))
 else TT n:=rfl
def an8(n:Nat)(l:List Token)(a:Nat):∀m i,iW.length<i+m→i≤iW.length→ET n l (a:Int) m (i:Int)=some (call2 ((iW.drop i).find? λr=>b8 l a r.1)):=by
 have hlen:iW.length=8:=rfl;intro m;induction m with
 |zero=>intro i h ad;omega
 |succ m aW=>
  intro i hm hi;rw [ET,an7];by_cases h:i<iW.length
  ·(rw [fH iW i default h,dp (by omega),aW (i+1) (by omega) (by omega)];simp only [auA];rw [getD_map _ _ _ h,getD_map _ _ _ h])
   generalize iW.getD i default=t
   simp only [h,cv h,auB,aus,auu,bd,oN,al,List.find?_cons];cases b8 l a t.1<;>rfl
  ·rw [hf iW i h];simp only [h,auB,aut,auv];rfl
def an9{n:Nat}(l:List Token)(a:Nat)(hn:8<n):TV n l (a:Int)=some (qJ l a):=by
 have hlen:iW.length=8:=rfl;exact an8 n l a n 0 (by omega) (by omega)
def mp(l:List Token):Prop:=∀t,t∈l→(t.Kind=5→t.Text∈marks)∧hR t.N=0
def ac'(n:Nat)(l:List Token)(i:Nat)(hg:mp l):Js n ⟨l,(i:Int)⟩=some (qJ l i):=by
 unfold Js qJ
 (simp only [auA])
 simp only [Int.ofNat_le,dL];by_cases h:i<l.length
 ·simp only [show¬ l.length≤i by omega,aut,Bool.false_or,cv h,bd]
  by_cases hk:(l.getD i default).Kind=2
  ·simp only [hk,aus,auw,auv,Mm h (Or.inl hk)];generalize (l.getD i default).Text=w
   by_cases hw:w∈iW.map (·.1)
   ·simp only [iW,List.map_cons,List.map_nil,List.mem_cons,List.not_mem_nil,or_false]at hw;rcases hw with rfl|rfl|rfl|rfl|rfl|rfl|rfl|rfl<;>rfl
   ·simp only [iW,List.map_cons,List.map_nil,List.mem_cons,List.not_mem_nil,or_false,not_or]at hw;simp only [hw,aut,auv,iW,List.find?_cons,List.find?_nil];rfl
  ·simp only [hk,aut,aux,auu];by_cases bv:(l.getD i default).Kind=5
   ·have hm:(l.getD i default).Text∈marks:=(hg _ (by simp [List.getD,h])).1 bv
    simp only [Mm h (Or.inr bv)];generalize (l.getD i default).Text=w at hm
    have:∀w,w∈marks→iW.find? (λr=>decide (w=r.1))=none:=by decide
    rw [this w hm];rfl
   ·have:∀w,b8 l i w=false:=FO (λx=>by rcases x.2 with e|e;exact hk e;exact bv e)
    simp only [this,iW,List.find?_cons,List.find?_nil];rfl
 ·simp only [show l.length≤i by omega,aus,Bool.true_or,bd,auu,FO (λx=>h x.1),iW,List.find?_cons,List.find?_nil]
  rfl
def an'{l:List Token}{i:Nat}(h:qJ l i≠0):i<l.length∧20≤qJ l i∧qJ l i≤27:=by
 unfold qJ at h ⊢;cases av:iW.find? (λr=>b8 l i r.1) with
 |none=>rw [av]at h;exact absurd rfl h
 |some r=>
  have hx:=List.find?_some av;refine⟨hl (w:=r.1) hx,?_⟩
  have:∀r,r∈iW→decide (20≤r.2∧r.2≤27)=true:=by decide
  exact of_decide_eq_true (this r (List.mem_of_find?_eq_some av))
def an_{l:List Token}{i:Nat}(h:(mM l i).1≠0):i<l.length∧(mM l i).2≠0:=by
 unfold mM at h ⊢;cases av:gA.find? (λr=>b8 l i r.1) with
 |none=>rw [av]at h;exact absurd rfl h
 |some r=>
  have hx:=List.find?_some av;refine⟨hl (w:=r.1) hx,?_⟩
  have:∀r,r∈gA→decide (r.2.2≠0)=true:=by decide
  exact of_decide_eq_true (this r (List.mem_of_find?_eq_some av))
def ac_(l:List Token)(i:Nat):(mM l i).1≠3∧(mM l i).1≠8:=by
 unfold mM;cases av:gA.find? (λr=>b8 l i r.1) with
 |none=>exact⟨by decide,by decide⟩
 |some r=>
  have:∀r,r∈gA→decide (r.2.1≠3∧r.2.1≠8)=true:=by decide
  exact of_decide_eq_true (this r (List.mem_of_find?_eq_some av))
def aoa(n:Nat)(l:List Token)(i:Nat)(dv:Int):LD n l (i:Int) dv=some (if dv=3∧b8 l i [110,111,116]=true then 18 else if dv=8∧b8 l i [45]=true then 9 else 0):=by
 unfold LD;by_cases am:dv=3
 ·subst am;simp only [aus,auu,oN,al];cases b8 l i [110,111,116]<;>simp [al]
 ·by_cases eD:dv=8
  ·subst eD;simp only [show¬ (8:Int)=3 by omega,aut,aus,auu,auv,oN,al]
   cases b8 l i [45]<;>simp
  ·simp [am,eD]
def Mn(n:Nat)(l:List Token)(i d:Nat)(ae:l.length≤4611686018427387904)(hd:d≤24):zR n (d:Int) ⟨l,(i:Int)⟩=some (if d=24 then .bj (ns l i (iV l i 2)) ()else .ret ((d+1:Nat):Int) ()):=by
 unfold zR Jr;simp only [th];by_cases h:d=24
 ·simp only [show 24≤d by omega,aus,auu,u4 n l i 2 ae,al,h,auH];rfl
 ·simp only [show¬ 24≤d by omega,aut,auv,h,auI]
  rw [dp (by omega)]
open Go Go.Ab Go.Proofs
def e6(l:List Token)(i:Nat):Nat:=hB (l.take i)
def ic(l:List Token)(i:Nat)(h:i<l.length):e6 l (i+1)=e6 l i+60+(l.getD i default).Text.length:=by
 unfold e6;rw [List.take_add,Ml,fH l i default h,List.take_succ_cons,List.take_zero];simp only [hB];omega
def xM(l:List Token)(i j:Nat)(h:i≤j):e6 l i≤e6 l j:=by
 obtain⟨k,rfl⟩:=Nat.exists_eq_add_of_le h;unfold e6;rw [List.take_add,Ml];omega
def hQ{α:Type}(wt:α→Nat)(l:List Token)(i:Nat)(p:Option (aD α Int))(q:Option (α×Int×Int)):Prop:=
 (∃a k,p=some (.ret a ((k:Nat):Int))∧q=some (a,((k:Nat):Int),0)∧i<k∧k≤l.length∧wt a+e6 l i≤e6 l k)∨
 (∃k c z a,p=some (.bj (ns l k c) z)∧q=some (a,((k:Nat):Int),c)∧c≠0∧k≤l.length)
def U3(n:Nat):gF (n+1)=zT n (gF n) (lU n) (k5 n) (ly n):=rfl
def aob(n:Nat):lU (n+1)=Ju n (gF n) (lU n) (k5 n) (ly n):=rfl
def ada(n:Nat):k5 (n+1)=DT n (gF n) (lU n) (k5 n) (ly n):=rfl
def U4(n:Nat):ly (n+1)=zU n (gF n) (lU n) (k5 n) (ly n):=rfl
def adb(n:Nat):nS (n+1)=EU n (nS n) (ta n) (uM n):=rfl
def aoc(n:Nat):ta (n+1)=LE n (nS n) (ta n) (uM n):=rfl
def adc(n:Nat):uM (n+1)=EW n (nS n) (ta n) (uM n):=rfl
section
variable {l:List Token}
def Br(l:List Token)(dF:Nat):Prop:=∀(i dv d n1 n2:Nat),i≤l.length→1≤dv→dv≤8→d≤24→20*(l.length-i)+2*(9-dv)+2≤dF→2*dF+100≤n1→2*dF+100≤n2→
 hQ cN l i (gF n1 (dv:Int) (d:Int) ⟨l,(i:Int)⟩) (nS n2 l (i:Int) (dv:Int) (d:Int))
def U5(l:List Token)(dF:Nat):Prop:=∀(i d n1 n2:Nat),i≤l.length→d≤24→20*(l.length-i)+1≤dF→2*dF+100≤n1→2*dF+100≤n2→
 hQ cN l i (k5 n1 (d:Int) ⟨l,(i:Int)⟩) (ta n2 l (i:Int) (d:Int))
def Mo(l:List Token)(dF:Nat):Prop:=∀(i d n1 n2:Nat),i≤l.length→d≤24→20*(l.length-i)≤dF→2*dF+100≤n1→2*dF+100≤n2→
 hQ cN l i (ly n1 (d:Int) ⟨l,(i:Int)⟩) (uM n2 l (i:Int) (d:Int))
theorem aod{dF:Nat}(ae:l.length≤1000000000)(ch:Br l dF):Mo l (dF+1):=by
 intro i d n1 n2 hi hd hm Z ad;obtain⟨n1,rfl⟩:∃k,n1=k+1:=⟨n1-1,by omega⟩
 obtain⟨n2,rfl⟩:∃k,n2=k+1:=⟨n2-1,by omega⟩
 rw [U4,adc];unfold zU EW;rw [oO n1 l i _ (by omega) (by omega),rV l i _ (by omega) (by omega)]
 simp only [al];cases h:b8 l i [40]
 ·simp only [auv,aD.on,hZ l i,aut,aux,auu];exact Or.inr ⟨i,_,_,_,rfl,rfl,hZ l i,hi⟩
 ·have b2:=hl h;have jj:=ic l i b2;simp only [auu,aD.on,aus,auw,auv];rcases ch (i+1) 1 d n1 n2 (by omega) (by omega) (by omega) hd (by omega) (by omega) (by omega) with⟨a,k,e1,e2,lb,fx,jS⟩|⟨k,c,z,a,e1,e2,hc,hk⟩
  ·rw [show((1:Nat):Int)=1 from rfl]at e1 e2
   rw [e1,e2];simp only [al,aD.on,aus,auw,auv];rw [oO n1 l k _ (by omega) (by omega),rV l k _ (by omega) (by omega)]
   simp only [al];cases cO:b8 l k [41]
   ·simp only [auv,aD.on];exact Or.inr ⟨k,_,_,_,rfl,rfl,hZ l k,fx⟩
   ·have GW:=hl cO;have atR:=ic l k GW;simp only [auu,aD.on];exact Or.inl ⟨a,k+1,rfl,rfl,by omega,by omega,by omega⟩
  ·rw [show((1:Nat):Int)=1 from rfl]at e1 e2
   rw [e1,e2];simp only [al,aD.on,hc,aut,aux,auu];exact Or.inr ⟨k,_,_,_,rfl,rfl,hc,hk⟩
theorem Mp{i:Nat}(h:i≤1000000000):auL (((i+1:Nat):Int)-1)=(i:Int):=by rw [wr]<;>omega
theorem aoe{dF:Nat}(ae:l.length≤1000000000)(hg:mp l)(mf:Mo l dF)(i d n1 n2:Nat)(hi:i≤l.length)(hd:d≤24)(hm:20*(l.length-i)≤dF)(Z:2*dF+100≤n1)(ad:2*dF+100≤n2):
 hQ cN l i (w0 n1 (gF n1) (lU n1) (k5 n1) (ly n1) (d:Int) ⟨l,(i:Int)⟩ (i:Int))
  (EV n2 (nS n2) (ta n2) (uM n2) l (i:Int) (d:Int)):=by
 unfold w0 EV;simp only [ac' n1 l i hg,an9 l i (show 8<n2 by omega),al,Bo,oN,u4 n1 l i 5 (by omega),Bp]
 by_cases h0:qJ l i=0
 ·simp only [h0,aus,auu,show¬ (25:Int)≤0 by omega,aut,auv,al]
  cases h:b8 l i [40]
  ·simp only [aux,auu];exact Or.inr ⟨i,_,_,_,rfl,rfl,hZ l i,hi⟩
  ·have b2:=hl h;simp only [auw,auv];unfold Jw;rw [Mn n1 l i d (by omega) hd]
   simp only [fv];by_cases u5:d=24
   ·simp only [u5,auH,aus,auu,al,aD.on];rw [show iV l i 2=2 from if_pos b2]
    exact Or.inr ⟨i,2,_,_,rfl,rfl,by decide,hi⟩
   ·simp only [u5,auI,aut,auv,al,aD.on];rw [dp (by omega)]
    rcases mf i (d+1) n1 n2 hi (by omega) hm Z ad with⟨a,k,e1,e2,lb,fx,jS⟩|⟨k,c,z,a,e1,e2,hc,hk⟩
    ·rw [e1,e2];exact Or.inl ⟨a,k,rfl,rfl,lb,fx,jS⟩
    ·rw [e1,e2];exact Or.inr ⟨k,c,_,_,rfl,rfl,hc,hk⟩
 ·obtain⟨b2,jG,kY⟩:=an' h0;have jj:=ic l i b2;have Bs:=xM l (i+1) (i+1+1) (by omega)
  simp only [h0,aut,auv];generalize qJ l i=op at h0 jG kY
  by_cases ade:25≤op
  ·have U6:(bif decide (op=25)then m' n1 (gF n1) (lU n1) (k5 n1) (ly n1) (d:Int) op ⟨l,(i:Int)⟩ (i:Int) (decide (op=25))else bif decide (op=26)then m' n1 (gF n1) (lU n1) (k5 n1) (ly n1) (d:Int) op ⟨l,(i:Int)⟩ (i:Int) (decide (op=26))else m' n1 (gF n1) (lU n1) (k5 n1) (ly n1) (d:Int) op ⟨l,(i:Int)⟩ (i:Int) (decide (op=27)))=m' n1 (gF n1) (lU n1) (k5 n1) (ly n1) (d:Int) op ⟨l,(i:Int)⟩ (i:Int) true:=by
    by_cases aof:op=25
    ·simp only [aof,aus,auu]
    ·by_cases aog:op=26
     ·simp only [aog,aus,auu,show¬ (26:Int)=25 by omega,aut,auv]
     ·simp only [show op=27 by omega,aus,show¬ (27:Int)=25 by omega,show¬ (27:Int)=26 by omega,aut,auv]
   rw [U6];unfold m';simp only [ade,aus,auu];rw [dp (by omega),oO n1 l (i+1) _ (by omega) (by omega),an3 l (i+1) _ _ (by omega) (by omega)]
   simp only [al];cases h:b8 l (i+1) [40]
   ·simp only [auv,aD.on];exact Or.inr ⟨i+1,_,_,_,rfl,rfl,hZ l _,by omega⟩
   ·have GW:=hl h;simp only [auu,aD.on];rw [oO n1 l (i+1+1) _ (by omega) (by omega)]
    simp only [al];cases cO:b8 l (i+1+1) [41]
    ·simp only [auv,aD.on];exact Or.inr ⟨i+1+1,_,_,_,rfl,rfl,hZ l _,by omega⟩
    ·have atS:=hl cO;have U7:=xM l (i+1+1) (i+1+1+1) (by omega)
     simp only [auu,aD.on];refine Or.inl ⟨⟨op,0,[],[]⟩,i+1+1+1,rfl,rfl,by omega,by omega,?_⟩
     simp only [cN,iU,l2,auz];omega
  ·have U6:(bif decide (op=25)then m' n1 (gF n1) (lU n1) (k5 n1) (ly n1) (d:Int) op ⟨l,(i:Int)⟩ (i:Int) (decide (op=25))else bif decide (op=26)then m' n1 (gF n1) (lU n1) (k5 n1) (ly n1) (d:Int) op ⟨l,(i:Int)⟩ (i:Int) (decide (op=26))else m' n1 (gF n1) (lU n1) (k5 n1) (ly n1) (d:Int) op ⟨l,(i:Int)⟩ (i:Int) (decide (op=27)))=m' n1 (gF n1) (lU n1) (k5 n1) (ly n1) (d:Int) op ⟨l,(i:Int)⟩ (i:Int) false:=by
    simp only [show¬ op=25 by omega,show¬ op=26 by omega,show¬ op=27 by omega,aut,auv]
   rw [U6];unfold m' Jv;simp only [ade,aut,auv,al];rw [Mn n1 l i d (by omega) hd]
   simp only [fv];by_cases u5:d=24
   ·simp only [u5,auH,aus,auu,al,aD.on];rw [show iV l i 2=2 from if_pos b2]
    exact Or.inr ⟨i,2,_,_,rfl,rfl,by decide,hi⟩
   ·simp only [u5,auI,aut,auv,al,aD.on];rw [dp (by omega),dp (by omega)]
    rcases mf (i+1) (d+1) n1 n2 (by omega) (by omega) (by omega) Z ad with⟨a,k,e1,e2,lb,fx,jS⟩|⟨k,c,z,a,e1,e2,hc,hk⟩
    ·rw [e1,e2];refine Or.inl ⟨⟨op,0,[],[a]⟩,k,rfl,rfl,by omega,fx,?_⟩
     simp only [cN,iU,l2,auz];omega
    ·rw [e1,e2];exact Or.inr ⟨k,c,_,_,rfl,rfl,hc,hk⟩
theorem aoh{dF:Nat}(ae:l.length≤1000000000)(hg:mp l)(mf:Mo l dF):U5 l (dF+1):=by
 intro i d n1 n2 hi hd hm Z ad;obtain⟨n1,rfl⟩:∃k,n1=k+1:=⟨n1-1,by omega⟩
 obtain⟨n2,rfl⟩:∃k,n2=k+1:=⟨n2-1,by omega⟩
 have hj:=aoe ae hg mf i d n1 n2 hi hd (by omega) (by omega) (by omega)
 rw [ada,aoc];unfold DT LE
 (rw [dp (by omega)];simp only [auA])
 simp only [auB];by_cases h:i<l.length
 ·have jj:=ic l i h;rw [Mp (by omega)]
  have pm:hR (l.getD i default).N=0:=(hg _ (by simp [List.getD,h])).2
  generalize l.getD i default=t at jj pm
  simp only [h,aus,auu,cv h,bd];by_cases am:t.Kind=3
  ·simp only [am,aus,auu];refine Or.inl ⟨⟨1,t.N,[],[]⟩,i+1,rfl,rfl,by omega,by omega,?_⟩
   simp only [cN,iU,pm,auz];omega
  ·by_cases aR:t.Kind=4
   ·simp only [aR,show¬ (4:Int)=3 by omega,aus,aut,auu,auv]
    refine Or.inl ⟨⟨2,0,t.Text,[]⟩,i+1,rfl,rfl,by omega,by omega,?_⟩
    simp only [cN,iU,l2];omega
   ·by_cases bv:t.Kind=1
    ·simp only [bv,show¬ (1:Int)=3 by omega,show¬ (1:Int)=4 by omega,aus,aut,auu,auv]
     refine Or.inl ⟨⟨3,0,t.Text,[]⟩,i+1,rfl,rfl,by omega,by omega,?_⟩
     simp only [cN,iU,l2];omega
    ·simp only [am,aR,bv,aut,auv];exact hj
 ·simp only [h,aut,auv];exact hj
end
open Go Go.Ab Go.Proofs
def gO(e:Expr):(⟨e.Op,e.N,e.S,e.an⟩:Expr)=e:=by cases e;rfl
section
variable {l:List Token}
theorem Mq{i:Nat}{p:Option (aD Expr Int)}{q:Option (Expr×Int×Int)}(h:hQ cN l i p q):
 hQ cN l i (Option.bind p λr=>aD.on r (λa b=>some (.ret a b)) (λx b=>some (.bj x b))) q:=by
 rcases h with⟨a,k,e1,e2,h⟩|⟨k,c,z,a,e1,e2,h⟩
 ·rw [e1];exact Or.inl ⟨a,k,rfl,e2,h⟩
 ·rw [e1];exact Or.inr ⟨k,c,z,a,rfl,e2,h⟩
theorem aoi{dF:Nat}(ae:l.length≤1000000000)(ch:Br l dF)(i dv d n1 n2:Nat)(jJ:1≤dv)(Mr:dv<8)(hd:d≤24)(hm:20*(l.length-i)≤dF+20)(Z:2*dF+100≤n1)(ad:2*dF+100≤n2):
 ∀(m1 m2 k:Nat) (e:Expr),l.length-k<m1→l.length-k+1<m2→i<k→k≤l.length→cN e+e6 l i≤e6 l k→
 hQ cN l i (zS n1 (gF n1) (lU n1) (k5 n1) (ly n1) (dv:Int) (d:Int) ⟨l,(i:Int)⟩ m1 (k:Int) e.Op e.N e.S e.an)
  (qB n2 (nS n2) (ta n2) (uM n2) l (dv:Int) (d:Int) m2 e.Op e.N e.S e.an (k:Int) 0):=by
 intro m1;induction m1 with
 |zero=>intro m2 k e h;omega
 |succ m1 aW=>
  intro m2 k e adf FM rv hk he;obtain⟨m2,rfl⟩:∃j,m2=j+1:=⟨m2-1,by omega⟩
  simp only [zS,Jt,qB,s_,xq];rw [ac9,U2 l k (dv:Int) (by omega) (by omega),gO]
  simp only [al,aus,auu];by_cases ao:(mM l k).1=(dv:Int)
  ·obtain⟨b2,gQ⟩:=an_ (l:=l) (i:=k) (by rw [ao];omega)
   have jj:=ic l k b2;rw [if_pos ao];simp only [ao,aus,auw,auv,gQ,aut];generalize (mM l k).2=op at gQ
   rw [dp (by omega),dp (by omega)]
   rcases ch (k+1) (dv+1) d n1 n2 (by omega) (by omega) (by omega) hd (by omega) (by omega) (by omega) with⟨a,k',e1,e2,lb,fx,jS⟩|⟨k',c,z,a,e1,e2,hc,lm⟩
   ·rw [e1,e2];simp only [al,aD.on,fv,aus,auu,ee,Bool.true_and]
    have Ms:cN ⟨op,0,[],[e,a]⟩+e6 l i≤e6 l k':=by
     simp only [cN,iU,l2,auz];omega
    by_cases aR:dv=4
    ·simp only [aR,aus,auu];exact Or.inl ⟨⟨op,0,[],[e,a]⟩,k',rfl,rfl,by omega,fx,Ms⟩
    ·simp only [aR,aut,auv];exact aW m2 k' ⟨op,0,[],[e,a]⟩ (by omega) (by omega) (by omega) fx Ms
   ·rw [e1,e2];obtain⟨m2,rfl⟩:∃j,m2=j+1:=⟨m2-1,by omega⟩
    simp only [al,aD.on,hc,aut,auv,qB,s_,xq];exact Or.inr ⟨k',c,_,_,rfl,rfl,hc,lm⟩
  ·rw [if_neg ao];simp only [ao,aut,aux,auu,aus];exact Or.inl ⟨e,k,rfl,rfl,rv,hk,he⟩
theorem adg{dF:Nat}(ae:l.length≤1000000000)(ch:Br l dF)(i dv d n1 n2:Nat)(op:Int)(h:i<l.length)(jJ:1≤dv)(Mr:dv≤8)(hd:d≤24)(hm:20*(l.length-i)+2*(9-dv)+2≤dF+1)(Z:2*dF+101≤n1)(ad:2*dF+100≤n2):
 hQ cN l i (lU n1 op (dv:Int) (d:Int) ⟨l,(i:Int)⟩)
  (bif (decide (d=24))then some ((⟨0,0,[],[]⟩:Expr),(i:Int),2)
   else Option.bind (nS n2 l (auL ((i:Int)+1)) (dv:Int) (auL ((d:Int)+1))) λaU=>some ((⟨op,0,[],[aU.1]⟩:Expr),aU.2.1,aU.2.2)):=by
 obtain⟨n1,rfl⟩:∃k,n1=k+1:=⟨n1-1,by omega⟩
 have jj:=ic l i h;rw [aob];unfold Ju;rw [Mn n1 l i d (by omega) hd]
 simp only [fv];by_cases u5:d=24
 ·simp only [u5,auH,aus,auu,al,aD.on];rw [show iV l i 2=2 from if_pos h]
  exact Or.inr ⟨i,2,_,_,rfl,rfl,by decide,by omega⟩
 ·simp only [u5,auI,aut,auv,al,aD.on];rw [dp (by omega),dp (by omega)]
  rcases ch (i+1) dv (d+1) n1 n2 (by omega) jJ Mr (by omega) (by omega) (by omega) ad with⟨a,k,e1,e2,lb,fx,jS⟩|⟨k,c,z,a,e1,e2,hc,hk⟩
  ·rw [e1,e2];refine Or.inl ⟨⟨op,0,[],[a]⟩,k,rfl,rfl,by omega,fx,?_⟩
   simp only [cN,iU,l2,auz];omega
  ·rw [e1,e2];exact Or.inr ⟨k,c,_,_,rfl,rfl,hc,hk⟩
theorem aoj{dF:Nat}(ae:l.length≤1000000000)(ch:Br l dF)(hN:U5 l dF):Br l (dF+1):=by
 intro i dv d n1 n2 hi jJ Mr hd hm Z ad;obtain⟨n1,rfl⟩:∃k,n1=k+1:=⟨n1-1,by omega⟩
 obtain⟨n2,rfl⟩:∃k,n2=k+1:=⟨n2-1,by omega⟩
 rw [U3,adb];unfold zT EU;simp only [fv,Bo,aoa,al,show¬ dv=9 by omega,aut,auv]
 by_cases am:dv=3
 ·subst am;simp only [aus,auu,show((3:Nat):Int)=3 from rfl,true_and,show¬ (3:Int)=8 by omega,show¬ 3=8 by omega,false_and,auI]
  cases h:b8 l i [110,111,116]
  ·simp only [auv,Bool.false_eq_true,auI,aus,auw];have hn:=ch i 4 d n1 n2 hi (by omega) (by omega) hd (by omega) (by omega) (by omega)
   rw [show auL ((3:Int)+1)=((4:Nat):Int)from rfl]
   refine Mq ?_;rcases hn with⟨a,k,e1,e2,lb,fx,jS⟩|⟨k,c,z,a,e1,e2,hc,hk⟩
   ·refine Or.inl ⟨a,k,e1,?_,lb,fx,jS⟩;rw [e2];obtain⟨FP,tj⟩:∃j,n2=j+1:=⟨n2-1,by omega⟩
    simp only [al]
    conv=>lhs;arg 8;rw [tj]
    simp only [qB,s_,aus,auu];rw [U2 l k 3 (by omega) (by decide),if_neg (ac_ l k).1]
    simp only [al,aus,auu,gO]
   ·refine Or.inr ⟨k,c,z,⟨0,0,[],[]⟩,e1,?_,hc,hk⟩;rw [e2];obtain⟨FP,tj⟩:∃j,n2=j+1:=⟨n2-1,by omega⟩
    simp only [al]
    conv=>lhs;arg 8;rw [tj]
    simp only [qB,s_,xq,hc,aut,auv]
  ·simp only [auu,auH,show¬ (18:Int)=0 by omega,aut,aux]
   exact Mq (adg ae ch i 3 d n1 n2 18 (hl h) (by omega) (by omega) hd (by omega) (by omega) (by omega))
 ·by_cases eD:dv=8
  ·subst eD;simp only [aus,auu,aut,auv,show¬ 8=3 by omega,show((8:Nat):Int)=8 from rfl,true_and,show¬ (8:Int)=3 by omega,false_and,auI]
   cases h:b8 l i [45]
   ·simp only [auv,Bool.false_eq_true,auI,aus,auw];obtain⟨FP,tj⟩:∃j,n2=j+1:=⟨n2-1,by omega⟩
    have hn:=hN i d n1 FP hi hd (by omega) (by omega) (by omega)
    rw [show auL ((8:Int)+1)=(9:Int)from rfl]
    refine Mq ?_
    have aok:nS n2 l (i:Int) 9 (d:Int)=Option.bind (ta FP l (i:Int) (d:Int)) λr2=>some (r2.1,r2.2.1,r2.2.2):=by
     rw [tj,adb];unfold EU;simp only [aus,auu]
    rw [aok];rcases hn with⟨a,k,e1,e2,lb,fx,jS⟩|⟨k,c,z,a,e1,e2,hc,hk⟩
    ·refine Or.inl ⟨a,k,e1,?_,lb,fx,jS⟩;rw [e2];simp only [al]
     conv=>lhs;arg 8;rw [tj]
     simp only [qB,s_,aus,auu];rw [U2 l k 8 (by omega) (by decide),if_neg (ac_ l k).2]
     simp only [al,aus,auu,gO]
    ·refine Or.inr ⟨k,c,z,⟨0,0,[],[]⟩,e1,?_,hc,hk⟩;rw [e2];simp only [al]
     conv=>lhs;arg 8;rw [tj]
     simp only [qB,s_,xq,hc,aut,auv]
   ·simp only [auu,auH,show¬ (9:Int)=0 by omega,aut,aux]
    exact Mq (adg ae ch i 8 d n1 n2 9 (hl h) (by omega) (by omega) hd (by omega) (by omega) (by omega))
  ·have hn:=ch i (dv+1) d n1 n2 hi (by omega) (by omega) hd (by omega) (by omega) (by omega)
   simp only [am,eD,aut,auv,fv,false_and,auI,aus,auw];rw [dp (by omega)]
   rcases hn with⟨a,k,e1,e2,lb,fx,jS⟩|⟨k,c,z,a,e1,e2,hc,hk⟩
   ·rw [e1,e2];simp only [al,aD.on];exact aoi ae ch i dv d n1 n2 jJ (by omega) hd (by omega) (by omega) (by omega) n1 n2 k a (by omega) (by omega) lb fx jS
   ·rw [e1,e2];obtain⟨FP,tj⟩:∃j,n2=j+1:=⟨n2-1,by omega⟩
    simp only [al,aD.on];refine Or.inr ⟨k,c,_,⟨0,0,[],[]⟩,rfl,?_,hc,hk⟩
    conv=>lhs;arg 8;rw [tj]
    simp only [qB,s_,xq,hc,aut,auv]
theorem FQ(ae:l.length≤1000000000)(hg:mp l):∀dF,Br l dF∧U5 l dF∧Mo l dF
 | 0=>⟨λi dv d n1 n2 hi Z ad hd hm=>by omega,λi d n1 n2 hi hd hm=>by omega,λi d n1 n2 hi hd hm Z ad=>by
  obtain⟨n1,rfl⟩:∃k,n1=k+1:=⟨n1-1,by omega⟩
  obtain⟨n2,rfl⟩:∃k,n2=k+1:=⟨n2-1,by omega⟩
  rw [U4,adc];unfold zU EW;rw [oO n1 l i _ (by omega) (by omega),rV l i _ (by omega) (by omega)]
  have h:b8 l i [40]=false:=by
   cases av:b8 l i [40]
   ·rfl
   ·have:=hl av;omega
  simp only [al,h,auv,aD.on,hZ l i,aut,aux,auu];exact Or.inr ⟨i,_,_,_,rfl,rfl,hZ l i,hi⟩⟩
 |dF+1=>⟨aoj ae (FQ ae hg dF).1 (FQ ae hg dF).2.1,aoh ae hg (FQ ae hg dF).2.2,aod ae (FQ ae hg dF).1⟩
end
open Go Go.Ab Go.Proofs
def adh(n:Nat)(l:List Token)(k:Nat)(ae:l.length≤1000000000)(hk:k≤l.length):LA n l (k:Int)=some (FN l k):=by
 unfold LA FN;by_cases h0:l.length=0
 ·simp only [h0,fv,aus,auu,auH,show¬ k<0 by omega,auI]
 ·have e:auL (((l.length:Nat):Int)-1)=((l.length-1:Nat):Int):=by rw [wr]<;>omega
  rw [e];simp only [fv,h0,aut,auv,auB];by_cases h:k<l.length
  ·simp only [show¬ l.length-1<k by omega,aut,auv,cv h,bd,auA,h,auH]
  ·simp only [show l.length-1<k by omega,aus,auu,cv (show l.length-1<l.length by omega),bd,auA,h,auI]
def adi(l:List Token)(k:Nat)(c:Int):CS 379 (ns l k c)=some (FN l k,c):=rfl
open Go Go.Ab Go.Proofs
def FR(n:Nat)(l:List Token)(i:Nat)(fy:Int)(ae:l.length≤1000000000)(hi:i≤l.length):
 oF n fy ⟨l,(i:Int)⟩=some (if i<l.length∧(l.getD i default).Kind=fy then .ret (l.getD i default) ((i+1:Nat):Int)else .bj (ns l i (iV l i 5)) (i:Int)):=by
 unfold oF Jx
 (rw [dp (by omega),Mp (by omega)];simp only [auA])
 simp only [Int.ofNat_le,dL];by_cases h:i<l.length
 ·simp only [show¬ l.length≤i by omega,aut,Bool.false_or,cv h,bd,h,true_and]
  by_cases hk:(l.getD i default).Kind=fy
  ·rw [if_pos hk];simp only [hk,aus,auw,auv]
  ·rw [if_neg hk];simp only [hk,aut,aux,auu,u4 n l i 5 (by omega),al,aD.on]
 ·rw [if_neg (λx=>h x.1)]
  simp only [show l.length≤i by omega,aus,Bool.true_or,bd,auu,u4 n l i 5 (by omega),al,aD.on]
def Mt(n:Nat)(l:List Token)(i:Nat)(fy:Int)(ae:l.length≤1000000000)(hi:i≤l.length):
 rM n l (i:Int) fy=some (if i<l.length∧(l.getD i default).Kind=fy then(l.getD i default,((i+1:Nat):Int),0) else(⟨0,[],0,0⟩,(i:Int),iV l i 5)):=by
 unfold rM
 (rw [dp (by omega)];simp only [auA])
 simp only [Int.ofNat_le,dL,Bp,al];by_cases h:i<l.length
 ·simp only [show¬ l.length≤i by omega,aut,Bool.false_or,cv h,bd,h,true_and]
  by_cases hk:(l.getD i default).Kind=fy
  ·rw [if_pos hk];simp only [hk,aus,auw,auv]
  ·rw [if_neg hk];simp only [hk,aut,aux,auu]
 ·rw [if_neg (λx=>h x.1)]
  simp only [show l.length≤i by omega,aus,Bool.true_or,bd,auu]
section
variable {α:Type} {wt:α→Nat} {l:List Token}
theorem u6{β:Type}{adj:β→Nat}{i j:Nat}{p:Option (aD β Int)}{q:Option (β×Int×Int)}(h:hQ adj l j p q)
 {F:β→Int→Option (aD α Int)} {R:β×Int×Int→Option (α×Int×Int)}
 (ew:∀a (k:Nat),j<k→k≤l.length→adj a+e6 l j≤e6 l k→hQ wt l i (F a (k:Int)) (R (a,(k:Int),0)))
 (FSb:∀a (k:Int) c,c≠0→∃dO,R (a,k,c)=some (dO,k,c)):
 hQ wt l i (Option.bind p λr=>aD.on r (λa b=>F a b) (λx b=>some (.bj x b))) (Option.bind q R):=by
 rcases h with⟨a,k,e1,e2,Z,ad,am⟩|⟨k,c,z,a,e1,e2,Z,ad⟩
 ·rw [e1,e2];exact ew a k Z ad am
 ·rw [e1,e2];obtain⟨dO,t_⟩:=FSb a (k:Int) c Z;exact Or.inr ⟨k,c,z,dO,rfl,t_,Z,ad⟩
theorem Bt{i j n1 n2:Nat}{w:auJ}(ae:l.length≤1000000000)(hj:j≤l.length)(hn:2≤n2)
 {F:Unit→Int→Option (aD α Int)} {R:Int×Int→Option (α×Int×Int)}
 (ew:b8 l j w=true→j<l.length→e6 l (j+1)=e6 l j+60+(l.getD j default).Text.length→hQ wt l i (F () ((j+1:Nat):Int)) (R (((j+1:Nat):Int),0)))
 (FSb:∀(k:Int) c,c≠0→∃dO,R (k,c)=some (dO,k,c)):
 hQ wt l i (Option.bind (kg n1 w ⟨l,(j:Int)⟩) λr=>aD.on r (λa b=>F a b) (λx b=>some (.bj x b))) (Option.bind (kj n2 l (j:Int) [w]) R):=by
 rw [oO n1 l j w (by omega) (by omega),rV l j w hn (by omega)]
 cases h:b8 l j w
 ·obtain⟨dO,t_⟩:=FSb (j:Int) (iV l j 5) (hZ l j);exact Or.inr ⟨j,_,_,dO,rfl,t_,hZ l j,hj⟩
 ·exact ew h (hl h) (ic l j (hl h))
theorem U8{i j n1 n2:Nat}{fy:Int}(ae:l.length≤1000000000)(hj:j≤l.length)
 {F:Token→Int→Option (aD α Int)} {R:Token×Int×Int→Option (α×Int×Int)}
 (ew:j<l.length→e6 l (j+1)=e6 l j+60+(l.getD j default).Text.length→hQ wt l i (F (l.getD j default) ((j+1:Nat):Int)) (R (l.getD j default,((j+1:Nat):Int),0)))
 (FSb:∀t (k:Int) c,c≠0→∃dO,R (t,k,c)=some (dO,k,c)):
 hQ wt l i (Option.bind (oF n1 fy ⟨l,(j:Int)⟩) λr=>aD.on r (λa b=>F a b) (λx b=>some (.bj x b))) (Option.bind (rM n2 l (j:Int) fy) R):=by
 rw [FR n1 l j fy ae hj,Mt n2 l j fy ae hj];by_cases h:j<l.length∧(l.getD j default).Kind=fy
 ·rw [if_pos h,if_pos h];exact ew h.1 (ic l j h.1)
 ·rw [if_neg h,if_neg h];obtain⟨dO,t_⟩:=FSb ⟨0,[],0,0⟩ (j:Int) (iV l j 5) (hZ l j);exact Or.inr ⟨j,_,_,dO,rfl,t_,hZ l j,hj⟩
end
mutual
def fst:Stmt→Nat
 |⟨_,Name,Max,A,B,Body,bK⟩=>80+Name.length+hR Max+cN A+cN B+dP Body+dP bK
def dP:List Stmt→Nat
 |[]=>0
 |x::l=>fst x+1+dP l
end
def kl(s:Stmt):(⟨s.Op,s.Name,s.Max,s.A,s.B,s.Body,s.bK⟩:Stmt)=s:=by cases s;rfl
def fst_eq(s:Stmt):fst s=80+s.Name.length+hR s.Max+cN s.A+cN s.B+dP s.Body+dP s.bK:=by cases s;rfl
def Mu:∀l m:List Stmt,dP (l++m)=dP l+dP m
 |[],m=>by simp [dP]
 |x::l,m=>by rw [List.cons_append,dP,dP,Mu l m];omega
def xN:∀l:List Stmt,80*l.length≤dP l
 |[]=>Nat.le_refl _
 |x::l=>by have:=xN l;have:=fst_eq x;simp only [dP,auy];omega
def adk(n:Nat)(s:Stmt)(l:List Token)(i:Nat)(hi:i≤4611686018427387904)(ae:l.length≤4611686018427387904):
 nG n s ⟨l,(i:Int)⟩=some (bif b8 l i [59]then .ret s ((i+1:Nat):Int)else .bj (ns l i (iV l i 5)) (i:Int)):=by
 unfold nG;rw [oO n l i _ hi ae];cases b8 l i [59]
 ·rfl
 ·simp only [al,auu,aD.on,gO,kl]
def mN:List (auJ×Int):=[([108,101,116],1),([112,117,116],3),([100,101,108,101,116,101],4),([105,102],5),([102,111,114],6),([101,109,105,116],7),([97,98,111,114,116],8)]
def U9(l:List Token)(i:Nat):Int:=call2 (mN.find? λr=>b8 l i r.1)
def aol(n:Nat)(l:List Token)(at_:Int)(aj:Int→auO)(v5:Int):TX n l at_ aj v5 =
 bif (decide (v5<((mN.length:Nat):Int))) then(
  ar (aN v5 mN.length)<|
  Option.bind (kH n l at_ ((mN.map (·.1)).getD (v5).toNat default)) λbz=>
  bif bz then(
   ar (aN v5 mN.length)<|
   some ((mN.map (·.2)).getD (v5).toNat default))
  else(
   aj (auL (v5+1))))
 else TW n:=rfl
def aom(n:Nat)(l:List Token)(a:Nat):∀m i,mN.length<i+m→i≤mN.length→EX n l (a:Int) m (i:Int)=some (call2 ((mN.drop i).find? λr=>b8 l a r.1)):=by
 have hlen:mN.length=7:=rfl;intro m;induction m with
 |zero=>intro i h ad;omega
 |succ m aW=>
  intro i hm hi;rw [EX,aol];by_cases h:i<mN.length
  ·(rw [fH mN i default h,dp (by omega),aW (i+1) (by omega) (by omega)];simp only [auA];rw [getD_map _ _ _ h,getD_map _ _ _ h])
   generalize mN.getD i default=t
   simp only [h,cv h,auB,aus,auu,bd,oN,al,List.find?_cons];cases b8 l a t.1<;>rfl
  ·rw [hf mN i h];simp only [h,auB,aut,auv];rfl
def aon{n:Nat}(l:List Token)(a:Nat)(hn:8<n):TY n l (a:Int)=some (U9 l a):=by
 have hlen:mN.length=7:=rfl;exact aom n l a n 0 (by omega) (by omega)
def FT{l:List Token}{i:Nat}{v w:auJ}(h:b8 l i v=true)(aoo:v≠w):b8 l i w=false:=by
 unfold b8 at h ⊢;simp only [Bool.and_eq_true,decide_eq_true_eq]at h;rw [decide_eq_false (show¬ (l.getD i default).Text=w by rw [h.2.2];exact aoo)]
 simp
open Go Go.Ab Go.Proofs
def aop(n:Nat):qy (n+1)=Jz n (qy n) (w3 n) (uD n):=rfl
def aoq(n:Nat):w3 (n+1)=JD n (qy n) (w3 n) (uD n):=rfl
def aor(n:Nat):uD (n+1)=JK n (qy n) (w3 n) (uD n):=rfl
def aos(n:Nat):mi (n+1)=LF n (mi n) (nT n) (oJ n) (nd n):=rfl
def aot(n:Nat):nT (n+1)=LG n (mi n) (nT n) (oJ n) (nd n):=rfl
def adl(n:Nat):oJ (n+1)=E0 n (mi n) (nT n) (oJ n) (nd n):=rfl
def U'(n:Nat):nd (n+1)=AY n (mi n) (nT n) (oJ n) (nd n):=rfl
section
variable {l:List Token}
theorem xO(ae:l.length≤1000000000)(hg:mp l){i n1 n2:Nat}(hi:i≤l.length)(Z:40*l.length+200≤n1)(ad:40*l.length+200≤n2):
 hQ cN l i (gF n1 1 0 ⟨l,(i:Int)⟩) (nS n2 l (i:Int) 1 0):=
 (FQ ae hg (20*l.length+18)).1 i 1 0 n1 n2 hi (by omega) (by omega) (by omega) (by omega) (by omega) (by omega)
def FU(l:List Token)(dF:Nat):Prop:=∀(i d n1 n2:Nat),i≤l.length→d≤13→2*(l.length-i)+2≤dF→40*l.length+200+6*dF≤n1→40*l.length+200+6*dF≤n2→
 hQ (λb=>dP b+120) l i (qy n1 (d:Int) ⟨l,(i:Int)⟩) (mi n2 l (i:Int) (d:Int))
def Mv(l:List Token)(dF:Nat):Prop:=∀(i d n1 n2:Nat),i≤l.length→d≤12→2*(l.length-i)+1≤dF→40*l.length+200+6*dF≤n1→40*l.length+200+6*dF≤n2→
 hQ (λs=>fst s+1) l i (w3 n1 ((d+1:Nat):Int) ⟨l,(i:Int)⟩) (nT n2 l (i:Int) (d:Int))
theorem aou{k:Nat}(h:k≤100000000000):room k 192=true:=by simp [room];omega
theorem aov{dF:Nat}(ae:hB l≤1000000000)(U_:Mv l dF)(i d n1 n2:Nat)(hd:d≤12)(hm:2*(l.length-i)≤dF+1)(Z:40*l.length+200+6*dF≤n1)(ad:40*l.length+200+6*dF≤n2):
 ∀(m1 m2 k:Nat) (acc:List Stmt),l.length-k<m1→l.length-k<m2→i<k→k≤l.length→dP acc+60+e6 l i≤e6 l k→
 hQ (λb=>dP b+120) l i (DU n1 (qy n1) (w3 n1) (uD n1) (d:Int) ⟨l,(i:Int)⟩ m1 (k:Int) acc)
  (EY n2 (mi n2) (nT n2) (oJ n2) (nd n2) l (d:Int) m2 (k:Int) acc):=by
 have pK:=nh l;have jF:e6 l l.length=hB l:=by unfold e6;rw [List.take_length]
 intro m1;induction m1 with
 |zero=>intro m2 k acc h;omega
 |succ m1 aW=>
  intro m2 k acc adf FM rv hk ha;obtain⟨m2,rfl⟩:∃j,m2=j+1:=⟨m2-1,by omega⟩
  have aow:=xM l k l.length hk;have u2:=xN acc;simp only [DU,Rf,Re,EY,T0,TZ,gO,kl];rw [ni n1 l k _ (by omega),oN,dp (by omega),dp (by omega)]
  simp only [al];cases h:b8 l k [125]
  ·simp only [aux,auu,auv];rcases U_ k d n1 n2 hk hd (by omega) Z ad with⟨a,k',e1,e2,lb,fx,jS⟩|⟨k',c,z,a,e1,e2,hc,lm⟩
   ·rw [e1,e2];simp only at jS
    simp only [al,aD.on,aus,auw,auv,auy,auz,aou (show acc.length+(0+1)≤100000000000 by omega),bd]
    exact aW m2 k' (acc++[a]) (by omega) (by omega) (by omega) fx (by rw [Mu];simp only [dP];omega)
   ·rw [e1,e2];simp only [al,aD.on,hc,aut,aux,auu];exact Or.inr ⟨k',c,_,_,rfl,rfl,hc,lm⟩
  ·have b2:=hl h;have jj:=ic l k b2;simp only [auw,auu,auv];exact Or.inl ⟨acc,k+1,rfl,rfl,by omega,by omega,by simp only;omega⟩
theorem aox{dF:Nat}(ae:hB l≤1000000000)(U_:Mv l dF):FU l (dF+1):=by
 have pK:=nh l;intro i d n1 n2 hi hd hm Z ad;obtain⟨n1,rfl⟩:∃k,n1=k+1:=⟨n1-1,by omega⟩
 obtain⟨n2,rfl⟩:∃k,n2=k+1:=⟨n2-1,by omega⟩
 rw [aop,aos];unfold Jz LF Jy;rw [Bo,oO n1 l i _ (by omega) (by omega),rV l i _ (by omega) (by omega),u4 n1 l i 2 (by omega)]
 simp only [al,gc];cases h:b8 l i [123]
 ·simp only [auv,aD.on,hZ l i,aut,aux,auu];exact Or.inr ⟨i,_,_,_,rfl,rfl,hZ l i,hi⟩
 ·have b2:=hl h;have jj:=ic l i b2;simp only [auu,aus,auw,auv,aD.on];by_cases gx:12<d
  ·simp only [gx,aus,auu];rw [Mp (by omega),show iV l i 2=2 from if_pos b2]
   exact Or.inr ⟨i,2,_,_,rfl,rfl,by decide,hi⟩
  ·simp only [gx,aut,auv];exact aov ae U_ i d n1 n2 (by omega) (by omega) (by omega) (by omega) n1 n2 (i+1) [] (by omega) (by omega) (by omega) (by omega) (by simp only [dP];omega)
end
open Go Go.Ab Go.Proofs
section
variable {l:List Token}
theorem aoy{α:Type}{wt:α→Nat}{i:Nat}{p:Option (aD α Int)}{q:Option (α×Int×Int)}(h:hQ wt l i p q):
 hQ wt l i (Option.bind p λr=>aD.on r (λa b=>some (.ret a b)) (λx b=>some (.bj x b))) (Option.bind q λr=>some (r.1,r.2.1,r.2.2)):=by
 rcases h with⟨a,k,e1,e2,h⟩|⟨k,c,z,a,e1,e2,h⟩
 ·rw [e1,e2];exact Or.inl ⟨a,k,rfl,rfl,h⟩
 ·rw [e1,e2];exact Or.inr ⟨k,c,z,a,rfl,rfl,h⟩
theorem aoz{n:Nat}(k:Nat)(s:Stmt)(d:Int)(hn:2≤n)(hk:k≤1000000000)(bv:s.Op≠5)(cz:s.Op≠6):
 nd (n+1) l (k:Int) s d=some (bif b8 l k [59] then(s,((k+1:Nat):Int),0) else(s,(k:Int),iV l k 5)):=by
 rw [U'];unfold AY;simp only [bv,cz,aut,auv,gO,kl];rw [rV l k _ hn (by omega)]
 simp only [al];cases b8 l k [59]<;>rfl
theorem Va{i k n1 n2:Nat}(ae:l.length≤1000000000)(hn:3≤n2)(s:Stmt)(d:Int)(rv:i<k)(hk:k≤l.length)(bv:s.Op≠5)(cz:s.Op≠6)(hw:fst s+1+e6 l i≤e6 l k+60):
 hQ (λs=>fst s+1) l i (Option.bind (nG n1 s ⟨l,(k:Int)⟩) λr=>aD.on r (λa b=>some (.ret a b)) (λx b=>some (.bj x b)))
  (Option.bind (nd n2 l (k:Int) s d) λr=>some (r.1,r.2.1,r.2.2)):=by
 obtain⟨n2,rfl⟩:∃j,n2=j+1:=⟨n2-1,by omega⟩
 refine aoy ?_;rw [adk n1 s l k (by omega) (by omega),aoz k s d (by omega) (by omega) bv cz]
 cases h:b8 l k [59]
 ·exact Or.inr ⟨k,_,_,_,rfl,rfl,hZ l k,hk⟩
 ·have b2:=hl h;have jj:=ic l k b2;exact Or.inl ⟨s,k+1,rfl,rfl,by omega,by omega,by simp only;omega⟩
theorem FV:cN ⟨0,0,[],[]⟩=30:=by simp [cN,iU,l2]
theorem Bu:dP []=0:=rfl
theorem aoA(l:List Token)(i:Nat):U9 l i=bif b8 l i [108,101,116]then 1 else bif b8 l i [112,117,116]then 3 else bif b8 l i [100,101,108,101,116,101]then 4 else bif b8 l i [105,102]then 5 else bif b8 l i [102,111,114]then 6 else bif b8 l i [101,109,105,116]then 7 else bif b8 l i [97,98,111,114,116]then 8 else 0:=by
 unfold U9 mN;simp only [List.find?_cons,List.find?_nil];cases b8 l i [108,101,116]
 ·cases b8 l i [112,117,116]
  ·cases b8 l i [100,101,108,101,116,101]
   ·cases b8 l i [105,102]
    ·cases b8 l i [102,111,114]
     ·cases b8 l i [101,109,105,116]
      ·cases b8 l i [97,98,111,114,116]<;>rfl
      ·rfl
     ·rfl
    ·rfl
   ·rfl
  ·rfl
 ·rfl
theorem aoB{i:Nat}(h:i≤1000000000):auL (auL ((i:Int)-1)+1)=(i:Int):=by
 rw [wr (x:=(i:Int)-1) (by omega) (by omega),wr (by omega) (by omega)];omega
theorem adm(ae:hB l≤1000000000)(hg:mp l)(i j d n1 n2:Nat)(op:Int)(gQ:op=1∨op=2)(su:i≤j)(hj:j≤l.length)(Z:40*l.length+200≤n1)(ad:40*l.length+204≤n2):
 hQ (
  λs=>fst s+1) l i
  (Option.bind (oF n1 1 ⟨l,(j:Int)⟩) λr3=>aD.on r3 (λaB bu=>Option.bind (kg n1 [61] ⟨l,bu⟩) λbz=>aD.on bz (λcg b9=>
   Option.bind (gF n1 1 0 ⟨l,b9⟩) λa'=>aD.on a' (λaX cu=>Option.bind (nG n1 ⟨op,aB.Text,0,aX,⟨0,0,[],[]⟩,[],[]⟩ ⟨l,cu⟩) λdi=>
   aD.on di (λcC dB=>some (.ret cC dB)) (λm8 dB=>some (.bj m8 dB))) (λsY cu=>some (.bj sY cu))) (λDV b9=>some (.bj DV b9))) (λmH bu=>some (.bj mH bu)))
  (Option.bind (rM n2 l (j:Int) 1) λaU=>
   bif (!decide (aU.2.2=0))then some ((⟨op,[],0,⟨0,0,[],[]⟩,⟨0,0,[],[]⟩,[],[]⟩:Stmt),aU.2.1,aU.2.2)
   else Option.bind (kj n2 l aU.2.1 [[61]]) λbz=>
    bif (!decide (bz.2=0))then some ((⟨op,aU.1.Text,0,⟨0,0,[],[]⟩,⟨0,0,[],[]⟩,[],[]⟩:Stmt),bz.1,bz.2)
    else nc n2 (mi n2) (nT n2) (oJ n2) (nd n2) l (d:Int) op aU.1.Text bz.1):=by
 have pK:=nh l;have atT:=xM l i j su;have Vb:¬ op=8:=by omega
 have Vc:¬ op=3:=by omega
 have Vd:¬ op=6:=by omega
 refine U8 (by omega) hj (λb2 jj=>?_) (λt k c hc=>⟨_,by simp only [hc,aut,aux,auu];rfl⟩)
 generalize l.getD j default=t at jj
 simp only [aus,auw,auv];refine Bt (by omega) (by omega) (by omega) (λaT vF Bs=>?_) (λk c hc=>⟨_,by simp only [hc,aut,aux,auu];rfl⟩)
 simp only [aus,auw,auv,nc,uN,Vb,Vc,Vd,aut,gO,kl];refine u6 (xO (by omega) hg (by omega) Z (by omega)) (λa k lb fx jS=>?_) (λa k c hc=>⟨_,by simp only [hc,aut,aux,auu];rfl⟩)
 simp only [aus,auw,auv];refine Va (by omega) (by omega) _ _ (by omega) fx (by simp only;omega) (by simp only;omega) ?_
 simp only [fst,l2,FV,Bu];omega
end
open Go Go.Ab Go.Proofs
section
variable {l:List Token}
theorem adn(ae:hB l≤1000000000)(hg:mp l)(i j d n1 n2:Nat)(op:Int)(gQ:op=4∨op=7)(su:i<j)(hw:e6 l i+60≤e6 l j)(hj:j≤l.length)(Z:40*l.length+200≤n1)(ad:40*l.length+204≤n2):
 hQ (λs=>fst s+1) l i
  (Option.bind (gF n1 1 0 ⟨l,(j:Int)⟩) λa'=>aD.on a' (λaX cu=>Option.bind (nG n1 ⟨op,[],0,aX,⟨0,0,[],[]⟩,[],[]⟩ ⟨l,cu⟩) λdi=>
   aD.on di (λcC dB=>some (.ret cC dB)) (λm8 dB=>some (.bj m8 dB))) (λsY cu=>some (.bj sY cu)))
  (nc n2 (mi n2) (nT n2) (oJ n2) (nd n2) l (d:Int) op [] (j:Int)):=by
 have pK:=nh l;have Vb:¬ op=8:=by omega
 have Vc:¬ op=3:=by omega
 have Vd:¬ op=6:=by omega
 simp only [nc,uN,Vb,Vc,Vd,aut,auv,gO,kl];refine u6 (xO (by omega) hg (by omega) Z (by omega)) (λa k lb fx jS=>?_) (λa k c hc=>⟨_,by simp only [hc,aut,aux,auu];rfl⟩)
 simp only [aus,auw,auv];refine Va (by omega) (by omega) _ _ (by omega) fx (by simp only;omega) (by simp only;omega) ?_
 simp only [fst,l2,FV,Bu,auz];omega
theorem aoC(ae:hB l≤1000000000)(hg:mp l)(i j d n1 n2:Nat)(su:i<j)(hw:e6 l i+60≤e6 l j)(hj:j≤l.length)(Z:40*l.length+200≤n1)(ad:40*l.length+204≤n2):
 hQ (λs=>fst s+1) l i
  (Option.bind (gF n1 1 0 ⟨l,(j:Int)⟩) λeZ=>aD.on eZ (λdr ey=>Option.bind (kg n1 [61] ⟨l,ey⟩) λfJ=>aD.on fJ (λr26 r27=>
   Option.bind (gF n1 1 0 ⟨l,r27⟩) λfK=>aD.on fK (λh9 gb=>Option.bind (nG n1 ⟨3,[],0,dr,h9,[],[]⟩ ⟨l,gb⟩) λnE=>
   aD.on nE (λcC dB=>some (.ret cC dB)) (λm8 dB=>some (.bj m8 dB))) (λsZ gb=>some (.bj sZ gb))) (λs0 r27=>some (.bj s0 r27))) (λoG ey=>some (.bj oG ey)))
  (nc n2 (mi n2) (nT n2) (oJ n2) (nd n2) l (d:Int) 3 [] (j:Int)):=by
 have pK:=nh l;simp only [nc,EZ,uN,show¬ (3:Int)=8 by omega,show¬ (3:Int)=6 by omega,aus,aut,auu,auv,gO,kl]
 refine u6 (xO (by omega) hg (by omega) Z (by omega)) (λa k lb fx jS=>?_) (λa k c hc=>⟨_,by simp only [hc,aut,aux,auu];rfl⟩)
 simp only [aus,auw,auv];refine Bt (by omega) fx (by omega) (λaT vF Bs=>?_) (λk c hc=>⟨_,by simp only [hc,aut,aux,auu];rfl⟩)
 simp only [aus,auw,auv];refine u6 (xO (by omega) hg (by omega) Z (by omega)) (λb aj ado FW Ve=>?_) (λa k c hc=>⟨_,by simp only [hc,aut,aux,auu];rfl⟩)
 simp only [aus,auw,auv,gO];refine Va (by omega) (by omega) _ _ (by omega) FW (by simp only;omega) (by simp only;omega) ?_
 simp only [fst,l2,Bu,auz];omega
theorem aoD(ae:hB l≤1000000000)(hg:mp l)(i j d n1 n2:Nat)(su:i<j)(hw:e6 l i+60≤e6 l j)(hj:j≤l.length)(ad:10≤n2):
 hQ (λs=>fst s+1) l i
  (Option.bind (oF n1 3 ⟨l,(j:Int)⟩) λnI=>aD.on nI (λJG w2=>Option.bind (nG n1 ⟨8,[],JG.N,⟨0,0,[],[]⟩,⟨0,0,[],[]⟩,[],[]⟩ ⟨l,w2⟩) λRl=>
   aD.on Rl (λcC dB=>some (.ret cC dB)) (λm8 dB=>some (.bj m8 dB))) (λsY cu=>some (.bj sY cu)))
  (nc n2 (mi n2) (nT n2) (oJ n2) (nd n2) l (d:Int) 8 [] (j:Int)):=by
 have pK:=nh l;obtain⟨n2,rfl⟩:∃k,n2=k+1:=⟨n2-1,by omega⟩
 simp only [nc,aus,auu,gO,kl]
 conv=>rhs;rw [adl]
 unfold E0;simp only [aus,auu,gO,kl];rw [FR n1 l j 3 (by omega) hj,Mt n2 l j 3 (by omega) hj]
 by_cases h:j<l.length∧(l.getD j default).Kind=3
 ·have jj:=ic l j h.1;rw [if_pos h,if_pos h];have pm:hR (l.getD j default).N=0:=(hg _ (by simp [List.getD,h.1])).2
  generalize l.getD j default=t at jj pm
  simp only [al,aD.on,aus,auw,auv];rw [adk n1 _ l (j+1) (by omega) (by omega),rV l (j+1) _ (by omega) (by omega)]
  cases cO:b8 l (j+1) [59]
  ·exact Or.inr ⟨j+1,_,_,_,rfl,rfl,hZ l _,by omega⟩
  ·have b2:=hl cO;have Bs:=ic l (j+1) b2;refine Or.inl ⟨⟨8,[],t.N,⟨0,0,[],[]⟩,⟨0,0,[],[]⟩,[],[]⟩,j+1+1,rfl,rfl,by omega,by omega,?_⟩
   simp only [fst,pm,FV,Bu,auz];omega
 ·rw [if_neg h,if_neg h];simp only [al,aD.on,hZ l j,aut,aux,auu];exact Or.inr ⟨j,_,_,_,rfl,rfl,hZ l j,hj⟩
theorem aoE{dF:Nat}(ae:hB l≤1000000000)(hg:mp l)(e0:FU l dF)(i j d n1 n2:Nat)(su:i<j)(hw:e6 l i+60≤e6 l j)(hj:j≤l.length)(hd:d≤12)(hm:2*(l.length-i)≤dF+1)(Z:40*l.length+200+6*dF≤n1)(ad:40*l.length+204+6*dF≤n2):
 hQ (λs=>fst s+1) l i
  (Option.bind (gF n1 1 0 ⟨l,(j:Int)⟩) λRo=>aD.on Ro (λlV s2=>Option.bind (qy n1 ((d+1:Nat):Int) ⟨l,s2⟩) λRp=>aD.on Rp (λrJ s3=>
   Option.bind (lx n1 [101,108,115,101] ⟨l,s3⟩) λuC=>
   bif uC.1 then Option.bind (qy n1 ((d+1:Nat):Int) ⟨l,uC.2⟩) λRq=>aD.on Rq (λJI s4=>some (.ret (⟨5,[],0,lV,⟨0,0,[],[]⟩,rJ,JI⟩:Stmt) s4)) (λDY s4=>some (.bj DY s4))
   else some (.ret (⟨5,[],0,lV,⟨0,0,[],[]⟩,rJ,[]⟩:Stmt) uC.2)) (λDZ s3=>some (.bj DZ s3))) (λD0 s2=>some (.bj D0 s2)))
  (nc n2 (mi n2) (nT n2) (oJ n2) (nd n2) l (d:Int) 5 [] (j:Int)):=by
 have pK:=nh l;obtain⟨n2,rfl⟩:∃k,n2=k+1:=⟨n2-1,by omega⟩
 simp only [nc,uN,show¬ (5:Int)=8 by omega,show¬ (5:Int)=6 by omega,show¬ (5:Int)=3 by omega,aut,auv,gO,kl]
 refine u6 (xO (by omega) hg (by omega) (by omega) (by omega)) (λa k lb fx jS=>?_) (λa k c hc=>⟨_,by simp only [hc,aut,aux,auu];rfl⟩)
 simp only [aus,auw,auv,U',AY,LH,show¬ (5:Int)=6 by omega,aut,auu,gO,kl]
 rw [dp (by omega)]
 rcases e0 k (d+1) n1 n2 fx (by omega) (by omega) (by omega) (by omega) with⟨b,k',e1,e2,ado,FW,Ve⟩|⟨k',c,z,b,e1,e2,hc,lm⟩
 ·simp only at Ve
  rw [e1,e2];simp only [al,aD.on,aus,auu];rw [ni n1 l k' _ (by omega),oN,dp (by omega)]
  simp only [al];cases h:b8 l k' [101,108,115,101]
  ·simp only [auv,al];refine Or.inl ⟨⟨5,[],0,a,⟨0,0,[],[]⟩,b,[]⟩,k',rfl,rfl,by omega,FW,?_⟩
   simp only [fst,l2,FV,Bu,auz];omega
  ·have b2:=hl h;have jj:=ic l k' b2;simp only [auu];rcases e0 (k'+1) (d+1) n1 n2 (by omega) (by omega) (by omega) (by omega) (by omega) with⟨jI,aj,e1,e2,aoF,Vf,Mw⟩|⟨aj,c,z,jI,e1,e2,hc,aoG⟩
   ·simp only at Mw
    rw [e1,e2];refine Or.inl ⟨⟨5,[],0,a,⟨0,0,[],[]⟩,b,jI⟩,aj,rfl,rfl,by omega,Vf,?_⟩
    simp only [fst,l2,FV,auz];omega
   ·rw [e1,e2];exact Or.inr ⟨aj,c,_,_,rfl,rfl,hc,aoG⟩
 ·rw [e1,e2];simp only [al,aD.on,hc,aut,auv];exact Or.inr ⟨k',c,_,_,rfl,rfl,hc,lm⟩
end
open Go Go.Ab Go.Proofs
section
variable {l:List Token}
theorem aoH{dF:Nat}(ae:hB l≤1000000000)(hg:mp l)(e0:FU l dF)(i j d n1 n2:Nat)(su:i<j)(hw:e6 l i+60≤e6 l j)(hj:j≤l.length)(hd:d≤12)(hm:2*(l.length-i)≤dF+1)(Z:40*l.length+202+6*dF≤n1)(ad:40*l.length+204+6*dF≤n2):
 hQ (
  λs=>fst s+1) l i
  (Option.bind (uD n1 ((d+1:Nat):Int) ⟨l,(j:Int)⟩) λr=>aD.on r (λa b=>some (.ret a b)) (λx b=>some (.bj x b)))
  (Option.bind (rM n2 l (j:Int) 1) λaU=>
   bif (!decide (aU.2.2=0))then some ((⟨6,[],0,⟨0,0,[],[]⟩,⟨0,0,[],[]⟩,[],[]⟩:Stmt),aU.2.1,aU.2.2)
   else Option.bind (kj n2 l aU.2.1 [[61]]) λbz=>
    bif (!decide (bz.2=0))then some ((⟨6,aU.1.Text,0,⟨0,0,[],[]⟩,⟨0,0,[],[]⟩,[],[]⟩:Stmt),bz.1,bz.2)
    else nc n2 (mi n2) (nT n2) (oJ n2) (nd n2) l (d:Int) 6 aU.1.Text bz.1):=by
 have pK:=nh l;obtain⟨n1,rfl⟩:∃k,n1=k+1:=⟨n1-1,by omega⟩
 obtain⟨n2,rfl⟩:∃k,n2=k+2:=⟨n2-2,by omega⟩
 suffices h:hQ (λs=>fst s+1) l i (uD (n1+1) ((d+1:Nat):Int) ⟨l,(j:Int)⟩) _ by
  rcases h with⟨a,k,e1,e2,h⟩|⟨k,c,z,a,e1,e2,h⟩
  ·rw [e1];exact Or.inl ⟨a,k,rfl,e2,h⟩
  ·rw [e1];exact Or.inr ⟨k,c,z,a,rfl,e2,h⟩
 rw [aor];unfold JK;refine U8 (by omega) hj (λb2 jj=>?_) (λt k c hc=>⟨_,by simp only [hc,aut,aux,auu];rfl⟩)
 generalize l.getD j default=t at jj
 simp only [aus,auw,auv];refine Bt (by omega) (by omega) (by omega) (λaT vF Bs=>?_) (λk c hc=>⟨_,by simp only [hc,aut,aux,auu];rfl⟩)
 simp only [aus,auw,auv,nc,EZ,uN,show¬ (6:Int)=8 by omega,aut,auu,gO,kl]
 refine u6 (xO (by omega) hg (by omega) (by omega) (by omega)) (λa k lb fx jS=>?_) (λa k c hc=>⟨_,by simp only [hc,aut,aux,auu];rfl⟩)
 have lk:(bif decide ((6:Int)=3)then true else decide ((6:Int)=6))=true:=rfl
 simp only [aus,auw,auv,lk,auu];refine Bt (by omega) fx (by omega) (λaT aoI U7=>?_) (λk c hc=>⟨_,by simp only [hc,aut,aux,auu];rfl⟩)
 simp only [aus,auw,auv];refine u6 (xO (by omega) hg (by omega) (by omega) (by omega)) (λb aj ado FW Ve=>?_) (λa k c hc=>⟨_,by simp only [hc,aut,aux,auu];rfl⟩)
 simp only [aus,auw,auv,gO];rw [show n2+2=n2+1+1 from rfl,U']
 unfold AY;simp only [aus,auu,gO,kl]
 -- lN word max
 rw [oO n1 l aj _ (by omega) (by omega),rV l aj _ (by omega) (by omega)]
 simp only [al];cases aoJ:b8 l aj [109,97,120]
 ·simp only [auv,aD.on,hZ l aj,aut,aux,auu,al];exact Or.inr ⟨aj,_,_,_,rfl,rfl,hZ l aj,FW⟩
 ·have Vg:=hl aoJ;have aoK:=ic l aj Vg;simp only [auu,aD.on,aus,auw,auv];rw [adl];unfold E0;rw [FR n1 l (aj+1) 3 (by omega) (by omega),Mt n2 l (aj+1) 3 (by omega) (by omega)]
  by_cases h:aj+1<l.length∧(l.getD (aj+1) default).Kind=3
  ·have aoL:=ic l (aj+1) h.1;rw [if_pos h,if_pos h];have pm:hR (l.getD (aj+1) default).N=0:=(hg _ (by simp [List.getD,show aj+1<l.length by omega])).2
   generalize l.getD (aj+1) default=t2 at aoL pm
   simp only [al,aD.on,aus,auw,auv,show¬ (6:Int)=8 by omega,aut,gO,kl]
   rw [dp (by omega)]
   rcases e0 (aj+1+1) (d+1) n1 n2 (by omega) (by omega) (by omega) (by omega) (by omega) with⟨q2,k',e1,e2,aoF,Vf,Mw⟩|⟨k',c,z,q2,e1,e2,hc,lm⟩
   ·simp only at Mw
    rw [e1,e2];refine Or.inl ⟨⟨6,t.Text,t2.N,a,b,q2,[]⟩,k',rfl,rfl,by omega,Vf,?_⟩
    simp only [fst,pm,Bu];omega
   ·rw [e1,e2];exact Or.inr ⟨k',c,_,_,rfl,rfl,hc,lm⟩
  ·rw [if_neg h,if_neg h];simp only [al,aD.on,hZ l (aj+1),aut,aux,auu];exact Or.inr ⟨aj+1,_,_,_,rfl,rfl,hZ l _,by omega⟩
theorem aoM{dF:Nat}(ae:hB l≤1000000000)(hg:mp l)(e0:FU l dF):Mv l (dF+1):=by
 have pK:=nh l;intro i d n1 n2 hi hd hm Z ad;obtain⟨n1,rfl⟩:∃k,n1=k+1:=⟨n1-1,by omega⟩
 obtain⟨n2,rfl⟩:∃k,n2=k+1:=⟨n2-1,by omega⟩
 rw [aoq,aot];unfold JD LG JA;rw [aon l i (by omega)]
 have hle:i≤4611686018427387904:=by omega
 simp only [ni n1 l i _ hle,al,gO,kl];have hk:=aoA l i;by_cases Mx:b8 l i [108,101,116]=true
 ·have b2:=hl Mx;have jj:=ic l i b2;rw [Mx]at hk;simp only [auu]at hk;simp only [Mx,auu,hk,show¬ (1:Int)=0 by omega,aut,auv,qC]
  rw [dp (by omega)]
  simp only [aus,auu];exact adm ae hg i (i+1) d n1 n2 1 (Or.inl rfl) (by omega) (by omega) (by omega) (by omega)
 have aoN:b8 l i [108,101,116]=false:=by simpa using Mx
 simp only [aoN,auv]at hk ⊢;simp only [ni n1 l i _ hle,al];by_cases My:b8 l i [112,117,116]=true
 ·have b2:=hl My;have jj:=ic l i b2;rw [My]at hk;simp only [auu]at hk;simp only [My,auu,hk,show¬ (3:Int)=0 by omega,aut,auv,qC]
  rw [dp (by omega)]
  have lk:(bif (bif decide ((3:Int)=1)then true else decide ((3:Int)=2))then true else decide ((3:Int)=6))=false:=rfl
  simp only [lk,auv];exact aoC ae hg i (i+1) d n1 n2 (by omega) (by omega) (by omega) (by omega) (by omega)
 have aoO:b8 l i [112,117,116]=false:=by simpa using My
 simp only [aoO,auv]at hk ⊢;simp only [ni n1 l i _ hle,al];by_cases Mz:b8 l i [100,101,108,101,116,101]=true
 ·have b2:=hl Mz;have jj:=ic l i b2;rw [Mz]at hk;simp only [auu]at hk;simp only [Mz,auu,hk,show¬ (4:Int)=0 by omega,aut,auv,qC]
  rw [dp (by omega)]
  have lk:(bif (bif decide ((4:Int)=1)then true else decide ((4:Int)=2))then true else decide ((4:Int)=6))=false:=rfl
  simp only [lk,auv];exact adn ae hg i (i+1) d n1 n2 4 (Or.inl rfl) (by omega) (by omega) (by omega) (by omega) (by omega)
 have aoP:b8 l i [100,101,108,101,116,101]=false:=by simpa using Mz
 simp only [aoP,auv]at hk ⊢;simp only [ni n1 l i _ hle,al];by_cases Bv:b8 l i [101,109,105,116]=true
 ·have b2:=hl Bv;have jj:=ic l i b2;rw [FT Bv (w:=[105,102]) (by decide),FT Bv (w:=[102,111,114]) (by decide),Bv]at hk
  simp only [auu,auv]at hk;simp only [Bv,auu,hk,show¬ (7:Int)=0 by omega,aut,auv,qC]
  rw [dp (by omega)]
  have lk:(bif (bif decide ((7:Int)=1)then true else decide ((7:Int)=2))then true else decide ((7:Int)=6))=false:=rfl
  simp only [lk,auv];exact adn ae hg i (i+1) d n1 n2 7 (Or.inr rfl) (by omega) (by omega) (by omega) (by omega) (by omega)
 have aoQ:b8 l i [101,109,105,116]=false:=by simpa using Bv
 simp only [aoQ,auv]at hk ⊢;simp only [ni n1 l i _ hle,al];by_cases Bw:b8 l i [97,98,111,114,116]=true
 ·have b2:=hl Bw;have jj:=ic l i b2;rw [FT Bw (w:=[105,102]) (by decide),FT Bw (w:=[102,111,114]) (by decide),Bw]at hk
  simp only [auu,auv]at hk;simp only [Bw,auu,hk,show¬ (8:Int)=0 by omega,aut,auv,qC]
  rw [dp (by omega)]
  have lk:(bif (bif decide ((8:Int)=1)then true else decide ((8:Int)=2))then true else decide ((8:Int)=6))=false:=rfl
  simp only [lk,auv];exact aoD ae hg i (i+1) d n1 n2 (by omega) (by omega) (by omega) (by omega)
 have aoR:b8 l i [97,98,111,114,116]=false:=by simpa using Bw
 simp only [aoR,auv]at hk ⊢;simp only [ni n1 l i _ hle,al];by_cases MA:b8 l i [105,102]=true
 ·have b2:=hl MA;have jj:=ic l i b2;rw [MA]at hk;simp only [auu,auv]at hk;simp only [MA,auu,hk,show¬ (5:Int)=0 by omega,aut,auv,qC]
  rw [dp (by omega)]
  have lk:(bif (bif decide ((5:Int)=1)then true else decide ((5:Int)=2))then true else decide ((5:Int)=6))=false:=rfl
  simp only [lk,auv];exact aoE ae hg e0 i (i+1) d n1 n2 (by omega) (by omega) (by omega) hd (by omega) (by omega) (by omega)
 have aoS:b8 l i [105,102]=false:=by simpa using MA
 simp only [aoS,auv]at hk ⊢;simp only [ni n1 l i _ hle,al];by_cases MB:b8 l i [102,111,114]=true
 ·have b2:=hl MB;have jj:=ic l i b2;rw [MB]at hk;simp only [auu,auv]at hk;simp only [MB,auu,hk,show¬ (6:Int)=0 by omega,aut,auv,qC]
  rw [dp (by omega)]
  simp only [aus,aut,auu,auv,show¬ (6:Int)=1 by omega,show¬ (6:Int)=2 by omega]
  exact aoH ae hg e0 i (i+1) d n1 n2 (by omega) (by omega) (by omega) hd (by omega) (by omega) (by omega)
 have aoT:b8 l i [102,111,114]=false:=by simpa using MB
 simp only [aoT,auv]at hk ⊢;simp only [hk,aus,auu,auA,Int.ofNat_le,dL,Bp,al,qC,show(decide ((2:Int)=1))=false from rfl,Bool.true_or,auG,Bool.false_or]
 rw [aoB (by omega)]
 by_cases aQ:i<l.length∧(l.getD i default).Kind=1
 ·have hc:(decide (l.length≤i) || !decide ((l.getD i default).Kind=1))=false:=by
   rw [decide_eq_false (by omega),decide_eq_true aQ.2];rfl
  simp only [hc,auv,cv aQ.1,auG,bd];exact adm ae hg i i d n1 n2 2 (Or.inr rfl) (by omega) (by omega) (by omega) (by omega)
 ·have hc:(decide (l.length≤i) || !decide ((l.getD i default).Kind=1))=true:=by
   by_cases b2:i<l.length
   ·rw [decide_eq_false (show¬ (l.getD i default).Kind=1 from λe=>aQ ⟨b2,e⟩)];simp
   ·rw [decide_eq_true (show l.length≤i by omega)];rfl
  have hin:(decide (l.length≤i)||aN (i:Int) l.length)=true:=by
   by_cases b2:i<l.length
   ·rw [cv b2];simp
   ·rw [decide_eq_true (show l.length≤i by omega)];rfl
  simp only [hc,hin,auu,bd];rw [FR n1 l i 1 (by omega) hi,if_neg aQ]
  exact Or.inr ⟨i,_,_,_,rfl,rfl,hZ l i,hi⟩
theorem Vh(ae:hB l≤1000000000)(hg:mp l):∀dF,FU l dF∧Mv l dF
 | 0=>⟨λi d n1 n2 hi hd hm=>by omega,λi d n1 n2 hi hd hm=>by omega⟩
 |dF+1=>⟨aox ae (Vh ae hg dF).2,aoM ae hg (Vh ae hg dF).1⟩
end
open Go Go.Ab Go.Proofs
def rW(l:List Token)(k:Nat):Param ⊕ Nat:=
 if k<l.length∧(l.getD k default).Kind=1 then
  bif b8 l (k+1) [58] then
   bif b8 l (k+2) [105,110,116]then .inl ⟨(l.getD k default).Text,1⟩
   else bif b8 l (k+2) [115,116,114]then .inl ⟨(l.getD k default).Text,2⟩
   else bif b8 l (k+2) [98,111,111,108]then .inl ⟨(l.getD k default).Text,3⟩
   else .inr (k+2)
  else .inr (k+1)
 else .inr k
def adp{l:List Token}{k:Nat}{p:Param}(h:rW l k = .inl p):k+2<l.length∧p.Name.length+180+e6 l k≤e6 l (k+3):=by
 unfold rW at h;split at h
 ·rename_i Z;cases ad:b8 l (k+1) [58]
  ·rw [ad]at h;cases h
  ·rw [ad]at h;simp only [auu]at h
   have am:b8 l (k+2) [105,110,116]=true∨b8 l (k+2) [115,116,114]=true∨b8 l (k+2) [98,111,111,108]=true:=by
    cases aR:b8 l (k+2) [105,110,116]
    ·cases bv:b8 l (k+2) [115,116,114]
     ·cases cz:b8 l (k+2) [98,111,111,108]
      ·rw [aR,bv,cz]at h;cases h
      ·exact Or.inr (Or.inr rfl)
     ·exact Or.inr (Or.inl rfl)
    ·exact Or.inl rfl
   have b2:k+2<l.length:=by rcases am with am|am|am<;>exact hl am
   have hn:p.Name=(l.getD k default).Text:=by
    cases aR:b8 l (k+2) [105,110,116]
    ·cases bv:b8 l (k+2) [115,116,114]
     ·cases cz:b8 l (k+2) [98,111,111,108]
      ·rw [aR,bv,cz]at h;cases h
      ·rw [aR,bv,cz]at h;simp only [auu,auv,Sum.inl.injEq]at h;rw [←h]
     ·rw [aR,bv]at h;simp only [auu,auv,Sum.inl.injEq]at h;rw [←h]
    ·rw [aR]at h;simp only [auu,Sum.inl.injEq]at h;rw [←h]
   have e1:=ic l k Z.1;have e2:e6 l (k+2)=_:=ic l (k+1) (by omega)
   have e3:e6 l (k+3)=_:=ic l (k+2) b2;rw [hn];exact⟨b2,by omega⟩
 ·cases h
def adq{l:List Token}{k e:Nat}(hk:k≤l.length)(h:rW l k = .inr e):e≤l.length:=by
 unfold rW at h;split at h
 ·rename_i Z;cases ad:b8 l (k+1) [58]
  ·rw [ad]at h;simp only [auv,Sum.inr.injEq]at h;omega
  ·have:=hl ad
   rw [ad]at h;simp only [auu]at h;cases aR:b8 l (k+2) [105,110,116]
   ·cases bv:b8 l (k+2) [115,116,114]
    ·cases cz:b8 l (k+2) [98,111,111,108]
     ·rw [aR,bv,cz]at h;simp only [auv,Sum.inr.injEq]at h;omega
     ·rw [aR,bv,cz]at h;cases h
    ·rw [aR,bv]at h;cases h
   ·rw [aR]at h;cases h
 ·simp only [Sum.inr.injEq]at h;omega
section
variable {l:List Token}
theorem adr(n k:Nat)(ae:l.length≤1000000000)(hk:k≤l.length):D6 n ⟨l,(k:Int)⟩ =
 some (match rW l k with|.inl p=>.ret p ((k+3:Nat):Int)|.inr e=>.bj (ns l e (iV l e 5)) (e:Int)):=by
 unfold D6 zV rW;rw [FR n l k 1 ae hk];by_cases h:k<l.length∧(l.getD k default).Kind=1
 ·rw [if_pos h,if_pos h];generalize l.getD k default=t
  simp only [al,aD.on];rw [oO n l (k+1) _ (by omega) (by omega)]
  cases ad:b8 l (k+1) [58]
  ·rfl
  ·have:=hl ad
   have hle:k+1+1≤4611686018427387904:=by omega
   simp only [auu,al,aD.on,ni n l (k+1+1) _ hle];cases aR:b8 l (k+1+1) [105,110,116]
   ·simp only [auv,al,ni n l (k+1+1) _ hle];cases bv:b8 l (k+1+1) [115,116,114]
    ·simp only [auv,al,ni n l (k+1+1) _ hle];cases cz:b8 l (k+1+1) [98,111,111,108]
     ·simp only [auv,al,u4 n l (k+1+1) 5 (by omega),aD.on]
     ·rfl
    ·rfl
   ·rfl
 ·rw [if_neg h,if_neg h];rfl
def Bx(n:Nat)(l:List Token)(ef:Int→List Param→Option (List Param×Int×Int))(k:Nat)(acc:List Param):Option (List Param×Int×Int):=
 bif b8 l k [41]then some (acc,((k+1:Nat):Int),0)else bif b8 l k [44]then ef ((k+1:Nat):Int) acc else some ([],(k:Int),iV l k 5)
theorem Vi{k:Nat}(h:k≤100000000000):room k 24=true:=by simp [room];omega
theorem ads(n k:Nat)(ef:Int→List Param→Option (List Param×Int×Int))(acc:List Param)(hn:3≤n)(ae:l.length≤1000000000)(hk:k≤l.length)(ha:acc.length≤1000000000):E2 n l ef (k:Int) acc =
 match rW l k with|.inl p=>Bx n l ef (k+3) (acc++[p])|.inr e=>some ([],(e:Int),iV l e 5):=by
 unfold E2 E1 rW;rw [Mt n l k 1 ae hk];by_cases h:k<l.length∧(l.getD k default).Kind=1
 ·rw [if_pos h,if_pos h];generalize l.getD k default=t
  simp only [al,aus,auw,auv];rw [rV l (k+1) _ (by omega) (by omega)]
  cases ad:b8 l (k+1) [58]
  ·simp only [auv,al,hZ l (k+1),aut,aux,auu]
  ·have:=hl ad
   simp only [auu,al,aus,auw,auv,oN,Bp,auy,auz,Vi (show acc.length+(0+1)≤100000000000 by omega),bd]
   have fin:∀ty:Int,(Option.bind (kH n l (auL (((k+1+1:Nat):Int)+1)) [41]) λfJ=>
    bif fJ then some ((acc++[(⟨t.Text,ty⟩:Param)]),(auL ((auL (((k+1+1:Nat):Int)+1))+1)),0)
    else Option.bind (kj n l (auL (((k+1+1:Nat):Int)+1)) [[44]]) λr26=>
     bif (!decide (r26.2=0))then some (([]:List Param),r26.1,r26.2)else ef r26.1 (acc++[(⟨t.Text,ty⟩:Param)]))=Bx n l ef (k+3) (acc++[⟨t.Text,ty⟩]):=by
    intro ty;unfold Bx;rw [dp (by omega),dp (by omega),oN,rV l (k+1+1+1) _ (by omega) (by omega)]
    simp only [al];cases b8 l (k+1+1+1) [41]
    ·simp only [auv];cases b8 l (k+1+1+1) [44]
     ·simp only [auv,hZ l (k+1+1+1),aut,aux,auu]
     ·rfl
    ·rfl
   cases aR:b8 l (k+1+1) [105,110,116]
   ·simp only [auv,al];cases bv:b8 l (k+1+1) [115,116,114]
    ·simp only [auv,al];cases cz:b8 l (k+1+1) [98,111,111,108]
     ·rfl
     ·exact fin 3
    ·exact fin 2
   ·exact fin 1
 ·rw [if_neg h,if_neg h];simp only [al,hZ l k,aut,aux,auu]
end
open Go Go.Ab Go.Proofs
def fM:List Param→Nat
 |[]=>0
 |p::l=>60+p.Name.length+fM l
def adt:∀l m:List Param,fM (l++m)=fM l+fM m
 |[],m=>by simp [fM]
 |t::l,m=>by rw [List.cons_append,fM,fM,adt l m];omega
def u7:∀l:List Param,60*l.length≤fM l
 |[]=>Nat.le_refl _
 |t::l=>by have:=u7 l;simp only [fM,auy];omega
section
variable {l:List Token}
theorem aoU(ae:hB l≤1000000000)(n1 n2 i:Nat)(b:Int)(t:Token)(ad:3≤n2):
 ∀(m1 m2 k:Nat) (acc:List Param),l.length-k<m1→l.length-k<m2→i<k→k≤l.length→fM acc+e6 l i≤e6 l k→
 (∃cS k',zX n1 ⟨l,b⟩ t m1 (k:Int) acc=zW n1 ⟨l,b⟩ t ((k':Nat):Int) cS∧Bx n2 l (uO n2 l m2) k acc=some (cS,((k':Nat):Int),0)∧i<k'∧k'≤l.length∧fM cS+e6 l i≤e6 l k')∨
 (∃k' c z cS,zX n1 ⟨l,b⟩ t m1 (k:Int) acc=some (.bj (ns l k' c) z)∧Bx n2 l (uO n2 l m2) k acc=some (cS,((k':Nat):Int),c)∧c≠0∧k'≤l.length):=by
 have pK:=nh l;have jF:e6 l l.length=hB l:=by unfold e6;rw [List.take_length]
 intro m1;induction m1 with
 |zero=>intro m2 k acc h;omega
 |succ m1 aW=>
  intro m2 k acc adf FM rv hk ha;obtain⟨m2,rfl⟩:∃j,m2=j+1:=⟨m2-1,by omega⟩
  have aow:=xM l k l.length hk;have u2:=u7 acc;unfold Bx;simp only [zX,RA,Rz,uO];rw [ni n1 l k _ (by omega)]
  simp only [al];cases adu:b8 l k [44]
  ·simp only [auv];rw [oO n1 l k _ (by omega) (by omega)]
   cases Vj:b8 l k [41]
   ·right
    exact⟨k,_,_,_,rfl,rfl,hZ l k,hk⟩
   ·have b2:=hl Vj;have jj:=ic l k b2;left
    exact⟨acc,k+1,rfl,rfl,by omega,by omega,by omega⟩
  ·have b2:=hl adu;have jj:=ic l k b2;rw [FT adu (w:=[41]) (by decide)]
   simp only [auu,auv];rw [adr n1 (k+1) (by omega) (by omega),ads n2 (k+1) _ acc ad (by omega) (by omega) (by omega)]
   cases hp:rW l (k+1) with
   |inl p=>
    obtain⟨am,aR⟩:=adp hp;simp only [al,aD.on,auy,auz,Vi (show acc.length+(0+1)≤100000000000 by omega),bd]
    exact aW m2 (k+1+3) (acc++[p]) (by omega) (by omega) (by omega) (by omega) (by rw [adt];simp only [fM];omega)
   |inr e=>
    have:=adq (l:=l) (k:=k+1) (by omega) hp
    right
    exact⟨e,_,_,_,rfl,rfl,hZ l e,this⟩
def tk(p:be):Nat:=p.Name.length+fM p.Params+dP p.Body
theorem adv(ae:hB l≤1000000000)(hg:mp l){i k n1 n2:Nat}(b:Int)(t:Token)(cS:List Param)(rv:i<k)(hk:k≤l.length)(Z:60*l.length+300≤n1)(ad:60*l.length+300≤n2)(hw:t.Text.length+fM cS+e6 l i≤e6 l k):
 hQ tk l i (zW n1 ⟨l,b⟩ t (k:Int) cS) (Option.bind (mi n2 l (k:Int) 0) λb9=>some ((⟨t.Text,cS,b9.1⟩:be),b9.2.1,b9.2.2)):=by
 have pK:=nh l;unfold zW;have e0:=(Vh ae hg (2*l.length+2)).1 k 0 n1 n2 hk (by omega) (by omega) (by omega) (by omega)
 refine u6 (F:=λa b=>some (.ret (⟨t.Text,cS,a⟩:be) b)) e0 (λa k' lb fx jS=>?_) (λa k c hc=>⟨_,rfl⟩)
 refine Or.inl ⟨⟨t.Text,cS,a⟩,k',rfl,rfl,by omega,fx,?_⟩
 have jS:dP a+120+e6 l k≤e6 l k':=jS;simp only [tk];omega
theorem aoV(ae:hB l≤1000000000)(hg:mp l){i n1 n2:Nat}(hi:i≤l.length)(Z:60*l.length+300≤n1)(ad:60*l.length+300≤n2):
 hQ tk l i (zY n1 ⟨l,(i:Int)⟩) (AZ n2 l (i:Int)):=by
 have pK:=nh l;have jF:e6 l l.length=hB l:=by unfold e6;rw [List.take_length]
 unfold zY AZ;refine Bt (by omega) hi (by omega) (λaT b2 jj=>?_) (λk c hc=>⟨_,by simp only [hc,aut,aux,auu];rfl⟩)
 simp only [aus,auw,auv];refine U8 (by omega) (by omega) (λvF Bs=>?_) (λt k c hc=>⟨_,by simp only [hc,aut,aux,auu];rfl⟩)
 generalize l.getD (i+1) default=t at Bs
 simp only [aus,auw,auv];refine Bt (by omega) (by omega) (by omega) (λatU aoI U7=>?_) (λk c hc=>⟨_,by simp only [hc,aut,aux,auu];rfl⟩)
 simp only [aus,auw,auv];generalize hj:i+1+1+1=j at U7
 unfold T1;rw [ni n1 l j _ (by omega),oN,dp (by omega)]
 simp only [al];cases Vj:b8 l j [41]
 ·simp only [aux,auu,auv]
  have e7:uO n2 l n2=E2 n2 l (uO n2 l (n2-1)):=by
   obtain⟨m,rfl⟩:∃m,n2=m+1:=⟨n2-1,by omega⟩
   rfl
  rw [e7,adr n1 j (by omega) (by omega),ads n2 j _ [] (by omega) (by omega) (by omega) (by simp)]
  cases hp:rW l j with
  |inl p=>
   obtain⟨am,aR⟩:=adp hp;simp only [al,aD.on,auy,auz,Vi (show 0+(0+1)≤100000000000 by omega),bd,List.nil_append]
   have adw:fM [p]+e6 l (i+1+1)≤e6 l (j+3):=by
    have:=xM l (i+1+1) j (by omega)
    simp only [fM];omega
   rcases aoU ae n1 n2 (i+1+1) (i:Int) t (by omega) n1 (n2-1) (j+3) [p] (by omega) (by omega) (by omega) (by omega) adw with⟨cS,k',e1,e2,lb,fx,jS⟩|⟨k',c,z,cS,e1,e2,hc,lm⟩
   ·rw [e1,e2];simp only [al,aus,auw,auv];exact adv ae hg (i:Int) t cS (by omega) fx Z ad (by omega)
   ·rw [e1,e2];simp only [al,hc,aut,aux,auu];exact Or.inr ⟨k',c,_,_,rfl,rfl,hc,lm⟩
  |inr e=>
   have:=adq (l:=l) (k:=j) (by omega) hp
   simp only [al,aD.on,hZ l e,aut,aux,auu];exact Or.inr ⟨e,_,_,_,rfl,rfl,hZ l e,this⟩
 ·have Vg:=hl Vj;have aoK:=ic l j Vg;simp only [auw,auu,auv,al,aus];exact adv ae hg (i:Int) t [] (by omega) (by omega) Z ad (by simp only [fM];omega)
end
open Go Go.Ab Go.Proofs
mutual
def ho:Expr→Int→Int
 |⟨Op,N,S,an⟩,d=>if pG ⟨Op,N,S,an⟩ d=0 then tl an (auL (d+1))else pG ⟨Op,N,S,an⟩ d
def tl:List Expr→Int→Int
 |[],d=>0
 |x::l,d=>if ho x d=0 then tl l d else ho x d
end
def adx(e:Expr)(d:Int):ho e d=if pG e d=0 then tl e.an (auL (d+1))else pG e d:=by cases e;rfl
def ady:∀(n:Nat) (e:Expr) (d:Int),cN e≤n→cN e≤140737488351232→zl n e d=some (ho e d)∧AC n e d=some (ho e d):=by
 intro n;induction n with
 |zero=>intro e d h;rw [qH]at h;omega
 |succ n aW=>
  intro e d h ae;have u1:=qH e;have u2:=Bn e.an;simp only [zl,AC,P7,S4];rw [ane e d (by omega) (by omega),anf e d (by omega) (by omega) (by omega),adx]
  simp only [al];by_cases h0:pG e d=0
  ·rw [if_pos h0];simp only [h0,aus,auw,auv]
   have ib:∀m i,e.an.length<i+m→i≤e.an.length→Dc n (zl n) d e m (i:Int)=some (tl (e.an.drop i) (auL (d+1)))∧Et n (AC n) d e m (i:Int)=some (tl (e.an.drop i) (auL (d+1))):=by
    intro m;induction m with
    |zero=>intro i Z ad;omega
    |succ m lB=>
     intro i Z ad;simp only [Dc,P6,P5,Et,S3,S2];by_cases hi:i<e.an.length
     ·have hg:=FI e.an i hi;obtain⟨ii,jb⟩:=aW (e.an.getD i default) (auL (d+1)) (by omega) (by omega)
      obtain⟨aoW,FL⟩:=lB (i+1) (by omega) (by omega)
      (rw [fH e.an i default hi,dp (by omega)];simp only [auA];rw [ii,jb,aoW,FL])
      simp only [hi,cv hi,auB,aus,auu,bd,al,tl];by_cases ah:ho (e.an.getD i default) (auL (d+1))=0
      ·simp only [ah,aus,auw,auv,auH,and_self]
      ·simp only [ah,aut,aux,auu,auI,and_self]
     ·rw [hf e.an i hi];simp only [hi,auB,aut,auv,tl,and_self]
   exact ib n 0 (by omega) (by omega)
  ·rw [if_neg h0];simp only [h0,aut,aux,auu,and_self]
def adz{n:Nat}(e:Expr)(h:cN e≤n)(ae:cN e≤140737488351232):Dd n e=some (ho e 1):=by
 simp only [Dd,(ady n e 1 h ae).1,al]
def adA{n:Nat}(e:Expr)(h:cN e≤n)(ae:cN e≤140737488351232):Eu n e=some (ho e 1):=by
 simp only [Eu,(ady n e 1 h ae).2,al]
def nj(e:Expr):Bool:=decide (e.Op=0)&&decide (e.N=0)&&decide (e.S=[])&&decide (e.an.length=0)
def adB(n:Nat)(e:Expr):zm n e=some (nj e):=by
 simp only [zm,nj,ee,fv]
def adC(n:Nat)(e:Expr):s7 n e=some (nj e):=by
 simp only [s7,nj,ee,fv]
def km(op:Int):lu×Bool:=
 if op=1∨op=2 then(⟨true,true,false,false,false,false⟩,true)
 else if op=3 then(⟨false,true,true,false,false,false⟩,true)
 else if op=4∨op=7 then(⟨false,true,false,false,false,false⟩,true)
 else if op=5 then(⟨false,true,false,false,true,true⟩,true)
 else if op=6 then(⟨true,true,true,true,true,false⟩,true)
 else if op=8 then(⟨false,false,false,true,false,false⟩,true)
 else(⟨false,false,false,false,false,false⟩,false)
def aoX(n:Nat)(op:Int):Iu n op=some (km op):=by
 by_cases h:1≤op∧op≤8
 ·obtain rfl|rfl|rfl|rfl|rfl|rfl|rfl|rfl:op=1∨op=2∨op=3∨op=4∨op=5∨op=6∨op=7∨op=8:=by omega
  all_goals rfl
 ·have e:km op=(⟨false,false,false,false,false,false⟩,false):=by
   unfold km;rw [if_neg (by omega),if_neg (by omega),if_neg (by omega),if_neg (by omega),if_neg (by omega),if_neg (by omega)]
  rw [e];simp only [Iu,It,Is,P8,show¬ op=1 by omega,show¬ op=2 by omega,show¬ op=3 by omega,show¬ op=4 by omega,show¬ op=5 by omega,show¬ op=6 by omega,show¬ op=7 by omega,show¬ op=8 by omega,aut,auv]
def aoY(n:Nat)(op:Int)(h:1≤op∧op≤8):Ev n op=some ((km op).1.name,(km op).1.max,(km op).1.a,(km op).1.b,(km op).1.body,(km op).1.other):=by
 obtain rfl|rfl|rfl|rfl|rfl|rfl|rfl|rfl:op=1∨op=2∨op=3∨op=4∨op=5∨op=6∨op=7∨op=8:=by omega
 all_goals rfl
def aoZ(n:Nat)(op:Int)(h:¬ (1≤op∧op≤8)):Ev n op=some (false,true,false,false,false,false):=by
 simp only [Ev,KK,KJ,S5,show¬ op=1 by omega,show¬ op=2 by omega,show¬ op=3 by omega,show¬ op=4 by omega,show¬ op=5 by omega,show¬ op=6 by omega,show¬ op=7 by omega,aut,auv]
def By(s:Stmt)(u:lu):Bool:=
 (!u.name && !decide (s.Name=[]))||(!u.a && !nj s.A)||(!u.b && !nj s.B)||(!u.max && !decide (s.Max=0))||(!u.body&&decide (0<s.Body.length))||(!u.other&&decide (0<s.bK.length))
def rX(s:Stmt):Bool:=if s.Op=6 then decide (1≤s.Max)&&decide (s.Max≤16)else if s.Op=8 then decide (0≤s.Max)&&decide (s.Max≤999)else true
def kK(s:Stmt)(d:Int):Int:=
 if(km s.Op).2=false∨By s (km s.Op).1=true∨rX s=false then 1
 else if(km s.Op).1.name=true∧hh s.Name=false then 7
 else if(km s.Op).1.a=true∧ho s.A 1≠0 then ho s.A 1
 else if(km s.Op).1.b=true∧ho s.B 1≠0 then ho s.B 1
 else if 12<d then 2 else 0
end Go.Ab.Y

/- The plain law: what the functions compute answers as the statement says. -/
import Derived.Lib.ItoaLen
import Derived.Test.YtcjbfnojhpfchaaGreatDoorPlainA
set_option linter.all false
namespace Go.Ab.Y
open Go Go.Ab Go.Proofs
def ck(l:List Token)(i:Nat)(T R:List Token):Prop:=(l.map c8).drop i=T++R
def f6(R:List Token)(w:atW):Bool:=
 match R with
 |[]=>false
 |t::_=>(decide (t.Kind=2)||decide (t.Kind=5))&&decide (t.Text=w)
def amN(l:List Token)(i:Nat)(w:atW):hH l i w=f6 ((l.map c8).drop i) w:=by
 unfold hH;by_cases h:i<l.length
 ·rw [e8 (l.map c8) i default (by simpa using h)]
  have:(l.map c8).getD i default=c8 (l.getD i default):=by simp [List.getD,h]
  rw [this];generalize l.getD i default=t
  simp only [f6,h,c8,atF,Bool.true_and]
  congr
 ·rw [gu (l.map c8) i (by simpa using h)]
  simp [f6,h]
def ck.is{l T R:List Token}{i:Nat}(h:ck l i T R)(w:atW):hH l i w=f6 (T++R) w:=by rw [amN,h]
def ck.abl{l T R:List Token}{i:Nat}(h:ck l i T R):s1 l i=Lx (rx.find? λr=>f6 (T++R) r.1):=by
 unfold s1
 congr 2
 funext r
 exact h.is r.1
def ck.call{l T R:List Token}{i:Nat}(h:ck l i T R):Lz l i=call2 (ql.find? λr=>f6 (T++R) r.1):=by
 unfold Lz
 congr 2
 funext r
 exact h.is r.1
def ck.lt{l T R:List Token}{t:Token}{i:Nat}(h:ck l i (t::T) R):i<l.length:=by
 by_cases hi:i<l.length
 ·exact hi
 ·unfold ck at h;rw [gu (l.map c8) i (by simpa using hi)]at h
  cases h
def ck.hd{l T R:List Token}{t:Token}{i:Nat}(h:ck l i (t::T) R):c8 (l.getD i default)=t:=by
 have hi:=h.lt;unfold ck at h;rw [e8 (l.map c8) i default (by simpa using hi),List.cons_append]at h
 injection h with Z aa;rw [←Z];simp [List.getD,hi]
def ck.kn{l T U R:List Token}{i:Nat}(h:ck l i (T++U) R):ck l (i+T.length) U R:=by
 unfold ck at *;rw [←List.drop_drop,h,List.append_assoc,List.drop_left]
def ck.fT{l T R:List Token}{t:Token}{i:Nat}(h:ck l i (t::T) R):ck l (i+1) T R:=ck.kn (T:=[t]) (U:=T) h
def ck.lM{l T U R:List Token}{i:Nat}(h:ck l i (T++U) R):ck l i T (U++R):=by
 unfold ck at *;rw [h,List.append_assoc]
def ck.le{l T R:List Token}{i:Nat}(h:ck l i T R)(aG:T≠[]):i+T.length≤l.length:=by
 have:=congrArg List.length h
 simp only [List.length_drop,List.length_map,atP]at this;have:0<T.length:=List.length_pos_iff.2 aG
 omega
def ja(R:List Token):Int:=(Lx (rx.find? λr=>f6 R r.1)).1
def TG(op:Int)(R:List Token)(h:4≤op∧op≤8∨10≤op∧op≤17∨op=19):Lx (rx.find? λr=>f6 (nP op::R) r.1)=(((b_ op:Nat):Int),op):=by
 have:op=4∨op=5∨op=6∨op=7∨op=8∨op=10∨op=11∨op=12∨op=13∨op=14∨op=15∨op=16∨op=17∨op=19:=by omega
 rcases this with rfl|rfl|rfl|rfl|rfl|rfl|rfl|rfl|rfl|rfl|rfl|rfl|rfl|rfl<;>rfl
def abm(op:Int)(R:List Token)(h:20≤op∧op≤27):call2 (ql.find? λr=>f6 (hI op::R) r.1)=op:=by
 have:op=20∨op=21∨op=22∨op=23∨op=24∨op=25∨op=26∨op=27:=by omega
 rcases this with rfl|rfl|rfl|rfl|rfl|rfl|rfl|rfl<;>rfl
def amO(R:List Token):call2 (ql.find? λr=>f6 (bb [40]::R) r.1)=0:=rfl
section
variable {l:List Token}
def fZ(l:List Token)(i d lv:Nat)(e:Expr)(k B:Nat):Prop:=∀n,B≤n→hZ n (lv:Int) (d:Int) ⟨l,(i:Int)⟩=some (.ret e (k:Int))
def pn(l:List Token)(i d:Nat)(e:Expr)(k B:Nat):Prop:=∀n,B≤n→m7 n (d:Int) ⟨l,(i:Int)⟩=some (.ret e (k:Int))
def AS(l:List Token)(i d:Nat)(e:Expr)(k B:Nat):Prop:=∀n,B≤n→oz n (d:Int) ⟨l,(i:Int)⟩=some (.ret e (k:Int))
theorem fZ.mono{i d lv:Nat}{e:Expr}{k B abn:Nat}(h:fZ l i d lv e k B)(cL:B≤abn):fZ l i d lv e k abn:=λn hn=>h n (by omega)
theorem abo(e:Expr):(⟨e.Op,e.N,e.S,e.ar⟩:Expr)=e:=by cases e;rfl
theorem fZ.down{i d lv:Nat}{e:Expr}{k B:Nat}(h:fZ l i d (lv+1) e k B)(fY:1≤lv)(as2:lv≤7)(hs:(s1 l k).1≠(lv:Int))(aj:lv=3→hH l i [110,111,116]=false):fZ l i d lv e k (B+2):=by
 intro n hn;obtain⟨n,rfl⟩:∃j,n=j+1:=⟨n-1,by omega⟩
 have he:=h n (by omega)
 rw [Fg];unfold uh;simp only [fq,xf,al];by_cases e3:lv=3
 ·subst e3;rw [aj rfl];simp only [atF,atH,atI];rw [show hZ n 4 (d:Int) ⟨l,(i:Int)⟩=_ from he]
  rfl
 ·simp only [e3,show¬ lv=8 by omega,atG,atI]
  rw [bv (by omega),he]
  obtain⟨m,hm⟩:∃j,n=j+1:=⟨n-1,by omega⟩
  simp only [al,aD.on]
  conv=>lhs;arg 9;rw [hm]
  simp only [p',DC,Tr,al,hs,atG,atK,atH,abo]
theorem pn.down{i d:Nat}{e:Expr}{k B:Nat}(h:pn l i d e k B)(di:hH l i [45]=false):fZ l i d 8 e k (B+1):=by
 intro n hn;obtain⟨n,rfl⟩:∃j,n=j+1:=⟨n-1,by omega⟩
 rw [Fg];unfold uh;simp only [fq,xf,al,show¬ 8=3 by omega,atF,atG,atH,atI,di]
 rw [h n (by omega)]
 rfl
theorem fZ.LK{i d lv:Nat}{e:Expr}{k B:Nat}:∀(x:Nat),fZ l i d (lv+x) e k B→1≤lv→lv+x≤8→(s1 l k).1<(lv:Int)→(lv≤3→3<lv+x→hH l i [110,111,116]=false)→fZ l i d lv e k (B+2*x)
 | 0,h,Z,aa,hs,aj=>h.mono (by omega)
 |x+1,h,Z,aa,hs,aj=>by
  have cM:fZ l i d (lv+x) e k (B+2):=fZ.down (lv:=lv+x) h (by omega) (by omega) (by omega) (λe3=>aj (by omega) (by omega))
  exact(fZ.LK x cM Z (by omega) hs (λa b=>aj a (by omega))).mono (by omega)
theorem AS.of{i d:Nat}{e:Expr}{k B:Nat}(ab:l.length≤1000000000)(hi:hH l i [40]=true)(h:fZ l (i+1) d 1 e k B)(hk:hH l k [41]=true):AS l i d e (k+1) (B+1):=by
 intro n hn;obtain⟨n,rfl⟩:∃j,n=j+1:=⟨n-1,by omega⟩
 have Z:=Tp hi;have aa:=Tp hk;rw [alU];unfold I4;rw [AM n l i _ (by omega) (by omega),hi]
 simp only [al,atH,aD.on];rw [show hZ n 1 (d:Int) ⟨l,((i+1:Nat):Int)⟩=_ from h n (by omega)]
 simp only [al,aD.on];rw [AM n l k _ (by omega) (by omega),hk]
 rfl
theorem AT{n i d:Nat}(ab:l.length≤1000000000)(h:i<l.length):m7 (n+1) (d:Int) ⟨l,(i:Int)⟩ =
 if(l.getD i default).Kind=3 then some (.ret ⟨1,(l.getD i default).N,[],[]⟩ ((i+1:Nat):Int))else if(l.getD i default).Kind=4 then some (.ret ⟨2,0,(l.getD i default).Text,[]⟩ ((i+1:Nat):Int))
 else if(l.getD i default).Kind=1 then some (.ret ⟨3,0,(l.getD i default).Text,[]⟩ ((i+1:Nat):Int))else wI n (hZ n) (oy n) (m7 n) (oz n) (d:Int) ⟨l,(i:Int)⟩ (i:Int):=by
 rw [alT];unfold I3
 (rw [bv (by omega)];simp only [atN];rw [aaS (by omega)])
 simp only [atO,h,atF,atH,bI h,aL];by_cases aj:(l.getD i default).Kind=3
 ·simp only [aj,atF,atH,atU]
 ·by_cases aC:(l.getD i default).Kind=4
  ·simp only [aC,show¬ (4:Int)=3 by omega,atF,atG,atH,atI,atU,atV]
  ·by_cases aT:(l.getD i default).Kind=1
   ·simp only [aT,show¬ (1:Int)=3 by omega,show¬ (1:Int)=4 by omega,atF,atG,atH,atI,atU,atV]
   ·simp only [aj,aC,aT,atG,atI,atV]
theorem pn.paren{i d:Nat}{e:Expr}{k B:Nat}(ab:l.length≤1000000000)(hg:k_ l){T R:List Token}(aN:ck l i (bb [40]::T) R)(hd:d≤23)(h:AS l i (d+1) e k B):pn l i d e k (B+1):=by
 intro n hn;obtain⟨n,rfl⟩:∃j,n=j+1:=⟨n-1,by omega⟩
 have cX:=aN.lt;have bm:=aN.hd;have hk:(l.getD i default).Kind=5:=by have:=congrArg Token.Kind bm;exact this
 rw [AT ab cX,hk,if_neg (by decide),if_neg (by decide),if_neg (by decide)]
 unfold wI I2;rw [Ts n l i hg,aN.call,List.cons_append,amO,xf,aN.is,List.cons_append,Tt n l i d (by omega) (by omega),if_neg (by omega)]
 simp only [al,atF,atH,show f6 (bb [40]::(T++R)) [40]=true from rfl,atJ,atI,aD.on]
 rw [h n (by omega)]
 rfl
theorem pn.word{i d:Nat}{e:Expr}{k B:Nat}{op:Int}(dV:20≤op∧op≤24)(ab:l.length≤1000000000)(hg:k_ l){T R:List Token}(aN:ck l i (hI op::T) R)(hd:d≤23)(h:AS l (i+1) (d+1) e k B):pn l i d ⟨op,0,[],[e]⟩ k (B+1):=by
 intro n hn;obtain⟨n,rfl⟩:∃j,n=j+1:=⟨n-1,by omega⟩
 have cX:=aN.lt;have bm:=aN.hd;have hk:(l.getD i default).Kind=2:=by have:=congrArg Token.Kind bm;exact this.trans (AR op).2
 rw [AT ab cX,hk,if_neg (by decide),if_neg (by decide),if_neg (by decide)]
 unfold wI zu Qn;rw [Ts n l i hg,aN.call,List.cons_append,abm op _ (by omega),Tt n l i d (by omega) (by omega),if_neg (by omega)]
 simp only [al,show¬ op=0 by omega,show¬ op=25 by omega,show¬ op=26 by omega,show¬ op=27 by omega,atG,atI,aD.on]
 rw [bv (by omega),h n (by omega)]
 rfl
theorem pn.amP{i d:Nat}{op:Int}(dV:25≤op∧op≤27)(ab:l.length≤1000000000)(hg:k_ l){R:List Token}(aN:ck l i [hI op,bb [40],bb [41]] R):pn l i d ⟨op,0,[],[]⟩ (i+3) 1:=by
 intro n hn;obtain⟨n,rfl⟩:∃j,n=j+1:=⟨n-1,by omega⟩
 have cX:=aN.lt;have bm:=aN.hd;have Z:=aN.fT.is [40];have aa:=aN.fT.fT.is [41];have hk:(l.getD i default).Kind=2:=by have:=congrArg Token.Kind bm;exact this.trans (AR op).2
 rw [AT ab cX,hk,if_neg (by decide),if_neg (by decide),if_neg (by decide)]
 unfold wI zu;rw [Ts n l i hg,aN.call,List.cons_append,abm op _ (by omega),bv (by omega),AM n l (i+1) _ (by omega) (by omega),Z]
 simp only [al,show¬ op=0 by omega,atG,atI,show f6 ([bb [40],bb [41]]++R) [40]=true from rfl,cond_true,aD.on]
 rw [AM n l (i+1+1) _ (by omega) (by omega),aa]
 simp only [al,show f6 ([bb [41]]++R) [41]=true from rfl,cond_true,aD.on]
 by_cases aT:op=25
 ·simp only [aT,atF,atH]
 ·by_cases bQ:op=26
  ·simp only [bQ,show¬ (26:Int)=25 by omega,atF,atG,atH,atI]
  ·obtain rfl:op=27:=by omega
   simp only [show¬ (27:Int)=25 by omega,show¬ (27:Int)=26 by omega,atF,atG,atH,atI]
theorem fZ.abp{i d lv:Nat}{e:Expr}{k B:Nat}{op:Int}{w:atW}(av:(lv=3∧w=[110,111,116]∧op=18)∨(lv=8∧w=[45]∧op=9))(ab:l.length≤1000000000)(hi:hH l i w=true)(hd:d≤23)(h:fZ l (i+1) (d+1) lv e k B):fZ l i d lv ⟨op,0,[],[e]⟩ k (B+2):=by
 intro n hn;obtain⟨n,rfl⟩:∃j,n=j+1:=⟨n-1,by omega⟩
 obtain⟨n,rfl⟩:∃j,n=j+1:=⟨n-1,by omega⟩
 have cX:=Tp hi
 have hp:oy (n+1) op (lv:Int) (d:Int) ⟨l,(i:Int)⟩=some (.ret ⟨op,0,[],[e]⟩ (k:Int)):=by
  rw [alS];unfold I1;rw [Tt n l i d (by omega) (by omega),if_neg (by omega)]
  simp only [al,aD.on];rw [bv (by omega),h n (by omega)]
  rfl
 rw [Fg];unfold uh;rcases av with⟨rfl,rfl,rfl⟩|⟨rfl,rfl,rfl⟩
 ·simp only [fq,xf,al,hi,atF,atH,hp,aD.on]
 ·simp only [fq,xf,al,hi,show¬ 8=3 by omega,atF,atG,atH,atI,hp,aD.on]
end
def amQ{op:Int}{p:ld}{k:Nat}{R:List Token}{w:atW}(hw:w≠[40])(h:b_ op<k):f6 (da (fy op p k)++R) w=false:=by
 unfold fy;rw [if_pos h];simp only [da,List.cons_append,f6,bb,decide_eq_false (show¬ ([40]:atW)=w from λe=>hw e.symm),Bool.and_false]
def amR{l:List Expr}{n:Int}(h:(l.length:Int)=n)(aa:n=2):∃a b,l=[a,b]:=by
 match l,h with
 |[a,b],_=>exact⟨a,b,rfl⟩
 |[],h=>simp at h;omega
 |[a],h=>simp at h;omega
 |a::b::c::l,h=>simp at h;omega
def amS{l:List Expr}{n:Int}(h:(l.length:Int)=n)(aa:n=1):∃a,l=[a]:=by
 match l,h with
 |[a],_=>exact⟨a,rfl⟩
 |[],h=>simp at h;omega
 |a::b::l,h=>simp at h;omega
def amT{l:List Expr}{n:Int}(h:(l.length:Int)=n)(aa:n=0):l=[]:=by
 match l,h with
 |[],_=>rfl
 |a::l,h=>simp at h;omega
def xi(e:Expr)(h:gK e):
 (e.Op=1∧e=⟨1,e.N,[],[]⟩)∨(e.Op=2∧e=⟨2,0,e.S,[]⟩)∨(e.Op=3∧e=⟨3,0,e.S,[]⟩)∨((25≤e.Op∧e.Op≤27)∧e=⟨e.Op,0,[],[]⟩)∨
 (∃a,e=⟨e.Op,0,[],[a]⟩∧gK a∧fE e=1+fE a∧(e.Op=9∨e.Op=18∨20≤e.Op∧e.Op≤24))∨
 (∃a b,e=⟨e.Op,0,[],[a,b]⟩∧gK a∧gK b∧fE e=1+max (fE a) (fE b)∧(4≤e.Op∧e.Op≤8∨10≤e.Op∧e.Op≤17∨e.Op=19)):=by
 obtain⟨Op,N,S,ar⟩:=e;obtain⟨⟨Z,aa⟩,aj,aC,aT,bQ,cK,di⟩:=h;rcases amM Z with⟨ha,hb⟩|⟨ha,hb⟩|⟨ha,hb⟩
 ·obtain rfl:=amT aa ha;by_cases e1:Op=1
  ·subst e1;obtain rfl:=aT (by omega);exact Or.inl ⟨rfl,rfl⟩
  ·obtain rfl:=aC e1;by_cases e2:Op=2
   ·subst e2;exact Or.inr (Or.inl ⟨rfl,rfl⟩)
   ·by_cases e3:Op=3
    ·subst e3;exact Or.inr (Or.inr (Or.inl ⟨rfl,rfl⟩))
    ·obtain rfl:=aT ⟨e2,e3⟩;exact Or.inr (Or.inr (Or.inr (Or.inl ⟨⟨by simp only;omega,by simp only;omega⟩,rfl⟩)))
 ·obtain⟨a,rfl⟩:=amS aa ha;obtain rfl:=aC (by omega)
  obtain rfl:=aT (by omega)
  exact Or.inr (Or.inr (Or.inr (Or.inr (Or.inl ⟨a,rfl,di.1,by simp [fE,qp],hb⟩))))
 ·obtain⟨a,b,rfl⟩:=amR aa ha;obtain rfl:=aC (by omega)
  obtain rfl:=aT (by omega)
  exact Or.inr (Or.inr (Or.inr (Or.inr (Or.inr ⟨a,b,rfl,di.1,di.2.1,by simp [fE,qp],hb⟩))))
def LL{op:Int}{a b:Expr}(h:4≤op∧op≤8∨10≤op∧op≤17∨op=19):bR ⟨op,0,[],[a,b]⟩=fy a.Op (bR a) (if b_ op=4 then 5 else b_ op)++none::some (nP op)::none::fy b.Op (bR b) (b_ op+1):=by
 simp only [bR,jt,kO];rw [if_neg (by omega),if_neg (by omega),if_neg (by omega)]
def Fo{op:Int}{a b:Expr}(h:4≤op∧op≤8∨10≤op∧op≤17∨op=19):da (bR ⟨op,0,[],[a,b]⟩)=da (fy a.Op (bR a) (if b_ op=4 then 5 else b_ op))++nP op::da (fy b.Op (bR b) (b_ op+1)):=by
 rw [LL h,s6];rfl
def AU{op:Int}(h:4≤op∧op≤8∨10≤op∧op≤17∨op=19):b_ op=1∨b_ op=2∨b_ op=4∨b_ op=5∨b_ op=6∨b_ op=7:=by
 have:op=4∨op=5∨op=6∨op=7∨op=8∨op=10∨op=11∨op=12∨op=13∨op=14∨op=15∨op=16∨op=17∨op=19:=by omega
 rcases this with rfl|rfl|rfl|rfl|rfl|rfl|rfl|rfl|rfl|rfl|rfl|rfl|rfl|rfl<;>decide
def TH(op:Int):1≤b_ op∧b_ op≤9:=by
 unfold b_;by_cases Z:op=17
 ·rw [if_pos Z];omega
 by_cases aa:op=16
 ·rw [if_neg Z,if_pos aa];omega
 by_cases aj:op=18
 ·rw [if_neg Z,if_neg aa,if_pos aj];omega
 by_cases aC:10≤op∧op≤15
 ·rw [if_neg Z,if_neg aa,if_neg aj,if_pos aC];omega
 by_cases aT:op=19
 ·rw [if_neg Z,if_neg aa,if_neg aj,if_neg aC,if_pos aT];omega
 by_cases bQ:op=4∨op=5
 ·rw [if_neg Z,if_neg aa,if_neg aj,if_neg aC,if_neg aT,if_pos bQ];omega
 by_cases cK:6≤op∧op≤8
 ·rw [if_neg Z,if_neg aa,if_neg aj,if_neg aC,if_neg aT,if_neg bQ,if_pos cK];omega
 by_cases di:op=9
 ·rw [if_neg Z,if_neg aa,if_neg aj,if_neg aC,if_neg aT,if_neg bQ,if_neg cK,if_pos di];omega
 rw [if_neg Z,if_neg aa,if_neg aj,if_neg aC,if_neg aT,if_neg bQ,if_neg cK,if_neg di];omega
def abq{c:Prop}[Decidable c]{a b:Token}{R:List Token}{w:atW}(ha:f6 (a::R) w=false)(hb:f6 (b::R) w=false):f6 ((if c then a else b)::R) w=false:=by
 by_cases h:c
 ·rw [if_pos h];exact ha
 ·rw [if_neg h];exact hb
def LM(op:Int)(R:List Token):f6 (hI op::R) [110,111,116]=false∧f6 (hI op::R) [45]=false:=by
 unfold hI;constructor
 ·repeat refine abq rfl ?_
  rfl
 ·repeat refine abq rfl ?_
  rfl
def abr:∀(h:Nat) (e:Expr),fE e≤h→gK e→3<b_ e.Op→∀R,f6 (da (bR e)++R) [110,111,116]=false:=by
 intro h;induction h with
 |zero=>intro e he;rw [s7]at he;omega
 |succ h aH=>
  intro e he cE fY R;rcases xi e cE with⟨_,ao⟩|⟨_,ao⟩|⟨_,ao⟩|⟨ai,ao⟩|⟨a,ao,ha,bm,dV⟩|⟨a,b,ao,ha,hb,bm,dV⟩
  ·rw [ao];rfl
  ·rw [ao];rfl
  ·rw [ao];rfl
  ·generalize e.Op=op at ai ao
   rw [ao];simp only [bR,jt,kO];rw [if_neg (by omega),if_neg (by omega),if_neg (by omega)]
   exact(LM _ _).1
  ·generalize e.Op=op at fY ao dV
   rw [ao];simp only [bR,jt,kO];rw [if_neg (by omega),if_neg (by omega),if_neg (by omega)]
   by_cases mG:op=18
   ·rw [mG]at fY;exact absurd fY (by decide)
   ·rw [if_neg mG];by_cases el:op=9
    ·rw [if_pos el];rfl
    ·rw [if_neg el];exact(LM _ _).1
  ·generalize e.Op=op at fY ao dV
   rw [ao,Fo dV,List.append_assoc];by_cases hp:b_ a.Op<(if b_ op=4 then 5 else b_ op)
   ·exact amQ (by decide) hp
   ·unfold fy;rw [if_neg hp];refine aH a (by omega) ha ?_ _
    split at hp<;>omega
def amU(e:Expr)(cE:gK e)(fY:8<b_ e.Op)(R:List Token):f6 (da (bR e)++R) [45]=false:=by
 rcases xi e cE with⟨_,ao⟩|⟨_,ao⟩|⟨_,ao⟩|⟨ai,ao⟩|⟨a,ao,ha,bm,dV⟩|⟨a,b,ao,ha,hb,bm,dV⟩
 ·rw [ao];rfl
 ·rw [ao];rfl
 ·rw [ao];rfl
 ·generalize e.Op=op at ai ao
  rw [ao];simp only [bR,jt,kO];rw [if_neg (by omega),if_neg (by omega),if_neg (by omega)]
  exact(LM _ _).2
 ·generalize e.Op=op at fY ao dV
  rw [ao];simp only [bR,jt,kO];rw [if_neg (by omega),if_neg (by omega),if_neg (by omega)]
  by_cases mG:op=18
  ·rw [mG]at fY;exact absurd fY (by decide)
  ·rw [if_neg mG];by_cases el:op=9
   ·rw [el]at fY;exact absurd fY (by decide)
   ·rw [if_neg el];exact(LM _ _).2
 ·have:=AU dV;omega
section
variable {l:List Token}
abbrev eW(e:Expr)(lv:Nat):List Token:=da (fy e.Op (bR e) lv)
def qq(l:List Token)(e:Expr):Prop:=∀(lv i d:Nat) (R:List Token),1≤lv→lv≤8→ck l i (eW e lv) R→ja R<(lv:Int)→d+2*fE e≤25∨(lv≤b_ e.Op∧d+2*fE e≤26)→
 fZ l i d lv e (i+(eW e lv).length) (24*(eW e lv).length+40-2*lv)
def TI(l:List Token)(e:Expr):Prop:=∀(L i d:Nat) (R:List Token),(L=1∨L=2∨L=5∨L=6∨L=7)→ck l i (eW e L) R→ja R≤(L:Int)→d+2*fE e≤25→∀n,24*(eW e L).length+40≤n+2*L+1→
 ∃j,j≤(eW e L).length∧hZ (n+1) (L:Int) (d:Int) ⟨l,(i:Int)⟩=p' n (hZ n) (oy n) (m7 n) (oz n) (L:Int) (d:Int) ⟨l,(i:Int)⟩ (n-j) ((i+(eW e L).length:Nat):Int) e.Op e.N e.S e.ar
theorem ck.TJ{T R:List Token}{i:Nat}(h:ck l i T R)(aG:T≠[]):(s1 l (i+T.length)).1=ja R:=by
 have aa:ck l (i+T.length) [] R:=by
  unfold ck at *;rw [←List.drop_drop,h,List.drop_left];rfl
 rw [aa.abl];rfl
theorem abs{n i d L k m:Nat}{op:Int}{a b:Expr}(ab:l.length≤1000000000)(dV:4≤op∧op≤8∨10≤op∧op≤17∨op=19)(cZ:L=b_ op)(hb:qq l b){R:List Token}
 (aN:ck l k (nP op::eW b (L+1)) R) (gp:ja R≤(L:Int)) (hd:d+2*fE b≤25) (hn:24*(eW b (L+1)).length+40≤n+2*(L+1)):
 p' n (hZ n) (oy n) (m7 n) (oz n) (L:Int) (d:Int) ⟨l,(i:Int)⟩ (m+1) (k:Int) a.Op a.N a.S a.ar =
  if L=4 then some (.ret ⟨op,0,[],[a,b]⟩ ((k+1+(eW b (L+1)).length:Nat):Int)) else
  p' n (hZ n) (oy n) (m7 n) (oz n) (L:Int) (d:Int) ⟨l,(i:Int)⟩ m ((k+1+(eW b (L+1)).length:Nat):Int) op 0 [] [a,b]:=by
 have fY:=AU dV;have hk:=aN.lt;have amV:s1 l k=((L:Int),op):=by rw [aN.abl,List.cons_append,TG op _ dV,cZ]
 have cL:=hb (L+1) (k+1) d R (by omega) (by omega) aN.fT (by omega) (Or.inl hd) n (by omega)
 simp only [p',DC];rw [Tr,amV];simp only [al,atF,atJ,atI];rw [bv (by omega),bv (by omega),cL]
 simp only [al,aD.on,fq,abo];by_cases aC:L=4
 ·simp only [aC,atF,atH,atU]
 ·simp only [aC,atG,atI,atV]
theorem LN(e:Expr)(lv:Nat)(h:gK e):eW e lv≠[]:=by
 unfold eW fy;split
 ·simp [da]
 ·rcases xi e h with⟨_,ao⟩|⟨_,ao⟩|⟨_,ao⟩|⟨ai,ao⟩|⟨a,ao,ha,bm,dV⟩|⟨a,b,ao,ha,hb,bm,dV⟩
  ·rw [ao];simp [bR,kO,da]
  ·rw [ao];simp [bR,kO,da]
  ·rw [ao];simp [bR,kO,da]
  ·generalize e.Op=op at ai ao
   rw [ao];simp only [bR,jt,kO];rw [if_neg (by omega),if_neg (by omega),if_neg (by omega)]
   simp [da]
  ·generalize e.Op=op at dV ao
   rw [ao];simp only [bR,jt,kO];rw [if_neg (by omega),if_neg (by omega),if_neg (by omega)]
   split
   ·simp [da]
   ·split<;>simp [da]
  ·generalize e.Op=op at dV ao
   rw [ao,Fo dV];simp
theorem abt{i d n:Nat}{op:Int}{a b:Expr}(ab:l.length≤1000000000)(dV:4≤op∧op≤8∨10≤op∧op≤17∨op=19)(abu:b_ op≠4)(as3:gK a)(ha:TI l a)(hb:qq l b){R:List Token}
 (aN:ck l i (da (bR ⟨op,0,[],[a,b]⟩)) R) (gp:ja R≤(b_ op:Int)) (amW:d+2*fE a≤25) (amX:d+2*fE b≤25) (hn:24*(da (bR ⟨op,0,[],[a,b]⟩)).length+40≤n+2*b_ op+1):
 ∃j,j≤(da (bR ⟨op,0,[],[a,b]⟩)).length∧hZ (n+1) (b_ op:Int) (d:Int) ⟨l,(i:Int)⟩ =
  p' n (hZ n) (oy n) (m7 n) (oz n) (b_ op:Int) (d:Int) ⟨l,(i:Int)⟩ (n-j) ((i+(da (bR ⟨op,0,[],[a,b]⟩)).length:Nat):Int) op 0 [] [a,b]:=by
 have fY:=AU dV;have aF:=Fo (a:=a) (b:=b) dV;rw [if_neg abu]at aF;rw [aF]at aN hn ⊢;have b3:da (fy a.Op (bR a) (b_ op))=eW a (b_ op):=rfl;have e1:da (fy b.Op (bR b) (b_ op+1))=eW b (b_ op+1):=rfl;rw [b3,e1]at aN hn ⊢;have amY:=aN.lM;simp only [atP,atL]at hn ⊢;obtain⟨j,hj,TK⟩:=ha (b_ op) i d _ (by omega) amY (by unfold ja;rw [List.cons_append,TG op _ dV];exact Int.le_refl _) amW n (by omega)
 refine⟨j+1,by omega,?_⟩
 rw [TK];obtain⟨m,hm⟩:∃m,n-j=m+1:=⟨n-j-1,by omega⟩
 rw [hm,abs ab dV rfl hb aN.kn gp amX (by omega),if_neg abu]
 rw [show n-(j+1)=m by omega,show i+(eW a (b_ op)).length+1+(eW b (b_ op+1)).length=i+((eW a (b_ op)).length+((eW b (b_ op+1)).length+1))by omega]
end
section
variable {l:List Token}
def fN(l:List Token)(e:Expr):Prop:=∀(i d:Nat) (R:List Token),ck l i (da (bR e)) R→ja R<(b_ e.Op:Int)→d+2*fE e≤26→
 if b_ e.Op=9 then pn l i d e (i+(da (bR e)).length) (24*(da (bR e)).length+20)else fZ l i d (b_ e.Op) e (i+(da (bR e)).length) (24*(da (bR e)).length+40-2*b_ e.Op)
theorem TL(ab:l.length≤1000000000)(e:Expr)(t:Token)(el:b_ e.Op=9)(aF:da (bR e)=[t])(hu:∀n i d,i<l.length→c8 (l.getD i default)=t→m7 (n+1) ((d:Nat):Int) ⟨l,(i:Int)⟩=some (.ret e ((i+1:Nat):Int))):fN l e:=by
 intro i d R aN gp hd;rw [if_pos el];intro n hn;obtain⟨n,rfl⟩:∃j,n=j+1:=⟨n-1,by omega⟩
 rw [aF]at aN ⊢;exact hu n i d aN.lt aN.hd
theorem LO{t u:Token}(h:c8 t=u):t.Kind=u.Kind∧t.Text=u.Text∧t.N=u.N:=by subst h;exact⟨rfl,rfl,rfl⟩
theorem AV(ab:l.length≤1000000000)(hg:k_ l){e:Expr}(cE:gK e)(h:fN l e):qq l e:=by
 have VX:=TH e.Op
 have dh:da (bR e)≠[]:=by
  have:=LN e 0 cE
  unfold eW fy at this
  rwa [if_neg (by omega)]at this
 have Gy:0<(da (bR e)).length:=List.length_pos_iff.2 dh
 -- as4 as5, from any level below
 have core:∀(lv i d:Nat) (R:List Token),1≤lv→lv≤8→lv≤b_ e.Op→ck l i (da (bR e)) R→ja R<(lv:Int)→d+2*fE e≤26→fZ l i d lv e (i+(da (bR e)).length) (24*(da (bR e)).length+40-2*lv):=by
  intro lv i d R Z di fY aN gp hd;have uF:=aN.TJ dh;have hc:=h i d R aN (by omega) hd
  by_cases el:b_ e.Op=9
  ·rw [if_pos el]at hc;have ls:=hc.down (by rw [aN.is];exact amU e cE (by omega) R)
   have:=fZ.LK (lv:=lv) (8-lv) (by rw [show lv+(8-lv)=8 by omega];exact ls) Z (by omega) (by rw [uF];exact gp) (λ_ _=>by rw [aN.is];exact abr (fE e) e (Nat.le_refl _) cE (by omega) R)
   exact this.mono (by omega)
  ·rw [if_neg el]at hc;have:=fZ.LK (lv:=lv) (b_ e.Op-lv) (by rw [show lv+(b_ e.Op-lv)=b_ e.Op by omega];exact hc) Z (by omega) (by rw [uF];exact gp) (λ_ _=>by rw [aN.is];exact abr (fE e) e (Nat.le_refl _) cE (by omega) R)
   exact this.mono (by omega)
 intro lv i d R Z di aN gp hd;by_cases hp:b_ e.Op<lv
 ·have as6:d+2*fE e≤25:=by rcases hd with h|h<;>omega
  have bm:=s7 e
  have s8:eW e lv=bb [40]::(da (bR e)++[bb [41]]):=by
   unfold eW fy;rw [if_pos hp];simp only [da,s6]
  have uF:=aN.TJ (LN e lv cE);rw [s8]at aN uF ⊢;simp only [atL,atP,atM]at uF ⊢;have abv:=aN.fT;have uB:=abv.kn;have hin:=core 1 (i+1) (d+1) _ (by omega) (by omega) (by omega) abv.lM (by show ja (bb [41]::R)<1;rw [show ja (bb [41]::R)=0 from rfl];omega) (by omega)
  have mp:=AS.of ab (by rw [aN.is];rfl) hin (by rw [uB.is];rfl)
  have qr:=pn.paren ab hg aN (by omega) mp
  have ls:=qr.down (by rw [aN.is];rfl)
  have:=fZ.LK (lv:=lv) (8-lv) (by rw [show lv+(8-lv)=8 by omega];exact ls) Z (by omega) (by rw [show i+1+(da (bR e)).length+1=i+((da (bR e)).length+(0+1)+1)by omega,uF];exact gp) (λ_ _=>by rw [aN.is];rfl)
  rw [show i+1+(da (bR e)).length+1=i+((da (bR e)).length+(0+1)+1)by omega]at this
  exact this.mono (by omega)
 ·have s8:eW e lv=da (bR e):=by unfold eW fy;rw [if_neg hp]
  rw [s8]at aN ⊢;exact core lv i d R Z di (by omega) aN gp (by rcases hd with h|h<;>omega)
theorem AW{e:Expr}(cE:gK e)(b1:qq l e)
 (amZ:b_ e.Op=1∨b_ e.Op=2∨b_ e.Op=5∨b_ e.Op=6∨b_ e.Op=7→∀(i d n:Nat) (R:List Token),ck l i (da (bR e)) R→ja R≤(b_ e.Op:Int)→d+2*fE e≤26→24*(da (bR e)).length+40≤n+2*b_ e.Op+1→
  ∃j,j≤(da (bR e)).length∧hZ (n+1) (b_ e.Op:Int) (d:Int) ⟨l,(i:Int)⟩=p' n (hZ n) (oy n) (m7 n) (oz n) (b_ e.Op:Int) (d:Int) ⟨l,(i:Int)⟩ (n-j) ((i+(da (bR e)).length:Nat):Int) e.Op e.N e.S e.ar):TI l e:=by
 intro L i d R cZ aN gp hd n hn;by_cases hp:b_ e.Op=L
 ·have s8:eW e L=da (bR e):=by unfold eW fy;rw [if_neg (by omega)]
  rw [s8]at aN hn ⊢;subst hp;exact amZ cZ i d n R aN gp (by omega) hn
 ·have s8:eW e (L+1)=eW e L:=by
   unfold eW fy;by_cases h:b_ e.Op<L
   ·rw [if_pos h,if_pos (by omega)]
   ·rw [if_neg h,if_neg (by omega)]
  have h:=b1 (L+1) i d R (by omega) (by omega) (by rw [s8];exact aN) (by omega) (Or.inl hd) n (by rw [s8];omega)
  rw [s8]at h;refine⟨0,by omega,?_⟩
  rw [Fg];unfold uh;simp only [fq,show¬ L=3 by omega,show¬ L=8 by omega,atG,atI]
  rw [bv (by omega),h]
  simp only [al,aD.on,Nat.sub_zero]
theorem am0(ab:l.length≤1000000000)(hg:k_ l):∀(h:Nat) (e:Expr),fE e≤h→gK e→qq l e∧TI l e:=by
 intro h;induction h with
 |zero=>intro e he;rw [s7]at he;omega
 |succ h aH=>
  intro e he cE;rcases xi e cE with⟨Z,ao⟩|⟨Z,ao⟩|⟨Z,ao⟩|⟨ai,ao⟩|⟨a,ao,ha,bm,dV⟩|⟨a,b,ao,ha,hb,bm,dV⟩
  ·have b1:qq l e:=AV ab hg cE (by
    rw [ao];refine TL ab _ (nO e.N) rfl rfl λn i d hi aF=>?_
    obtain⟨Z,aa,aj⟩:=LO aF;rw [AT ab hi,Z,aj];rfl)
   exact⟨b1,AW cE b1 (λhc=>by rw [Z]at hc;exact absurd hc (by decide))⟩
  ·have b1:qq l e:=AV ab hg cE (by
    rw [ao];refine TL ab _ (LF e.S) rfl rfl λn i d hi aF=>?_
    obtain⟨Z,aa,aj⟩:=LO aF;rw [AT ab hi,Z,aa];rfl)
   exact⟨b1,AW cE b1 (λhc=>by rw [Z]at hc;exact absurd hc (by decide))⟩
  ·have b1:qq l e:=AV ab hg cE (by
    rw [ao];refine TL ab _ (hR e.S) rfl rfl λn i d hi aF=>?_
    obtain⟨Z,aa,aj⟩:=LO aF;rw [AT ab hi,Z,aa];rfl)
   exact⟨b1,AW cE b1 (λhc=>by rw [Z]at hc;exact absurd hc (by decide))⟩
  ·have fY:b_ e.Op=9:=by
    have:e.Op=25∨e.Op=26∨e.Op=27:=by omega
    rcases this with h|h|h<;>rw [h]<;>decide
   have b1:qq l e:=AV ab hg cE (by
    intro i d R aN gp hd;rw [if_pos fY];generalize e.Op=op at ai ao
    have aF:da (bR e)=[hI op,bb [40],bb [41]]:=by
     rw [ao];simp only [bR,jt,kO];rw [if_neg (by omega),if_neg (by omega),if_neg (by omega)];rfl
    rw [aF]at aN ⊢;rw [ao];exact λn hn=>pn.amP ai ab hg aN n (by simp only [atL,atM]at hn;omega))
   exact⟨b1,AW cE b1 (λhc=>by omega)⟩
  ·obtain⟨Fp,TM⟩:=aH a (by omega) ha
   have fY:b_ e.Op=9∨b_ e.Op=3∨b_ e.Op=8:=by
    have:e.Op=9∨e.Op=18∨e.Op=20∨e.Op=21∨e.Op=22∨e.Op=23∨e.Op=24:=by omega
    rcases this with h|h|h|h|h|h|h<;>rw [h]<;>decide
   have b1:qq l e:=AV ab hg cE (by
    intro i d R aN gp hd;rw [bm]at hd;have as7:=s7 a;generalize e.Op=op at dV ao fY gp
    have dh:=LN a 3 ha;by_cases mG:op=18
    ·subst mG;have aF:da (bR e)=dD [110,111,116]::eW a 3:=by rw [ao];rfl
     rw [if_neg (show¬ b_ 18=9 by decide)]
     rw [aF]at aN ⊢;have:=Fp 3 (i+1) (d+1) R (by omega) (by omega) aN.fT gp (Or.inl (by omega))
     have aa:=fZ.abp (op:=18) (Or.inl ⟨rfl,rfl,rfl⟩) ab (by rw [aN.is];rfl) (by omega) this
     rw [ao];simp only [atL];rw [show i+((eW a 3).length+1)=i+1+(eW a 3).length by omega]
     exact aa.mono (by rw [show b_ 18=3 from rfl];omega)
    ·by_cases el:op=9
     ·subst el;have aF:da (bR e)=bb [45]::eW a 8:=by rw [ao];rfl
      rw [if_neg (show¬ b_ 9=9 by decide)]
      rw [aF]at aN ⊢;have:=Fp 8 (i+1) (d+1) R (by omega) (by omega) aN.fT gp (Or.inl (by omega))
      have aa:=fZ.abp (op:=9) (Or.inr ⟨rfl,rfl,rfl⟩) ab (by rw [aN.is];rfl) (by omega) this
      rw [ao];simp only [atL];rw [show i+((eW a 8).length+1)=i+1+(eW a 8).length by omega]
      exact aa.mono (by rw [show b_ 9=8 from rfl];omega)
     ·have TN:20≤op∧op≤24:=by omega
      have am1:b_ op=9:=by
       have:op=20∨op=21∨op=22∨op=23∨op=24:=by omega
       rcases this with h|h|h|h|h<;>rw [h]<;>decide
      have e1:eW a 1=da (bR a):=by unfold eW fy;rw [if_neg (by have:=TH a.Op;omega)]
      have aF:da (bR e)=hI op::bb [40]::(eW a 1++[bb [41]]):=by
       rw [ao,e1];simp only [bR,jt,kO];rw [if_neg (by omega),if_neg (by omega),if_neg (by omega),if_neg mG,if_neg el]
       simp only [da,s6]
      rw [if_pos am1];rw [aF]at aN ⊢;have uB:=aN.fT.fT;have am2:=uB.kn;have:=Fp 1 (i+1+1) (d+1) _ (by omega) (by omega) uB.lM (by show ja (bb [41]::R)<1;rw [show ja (bb [41]::R)=0 from rfl];omega) (Or.inl (by omega))
      have mp:=AS.of ab (by rw [aN.fT.is];rfl) this (by rw [am2.is];rfl)
      have qr:=pn.word TN ab hg aN (by omega) mp
      rw [ao];simp only [atL,atP,atM];rw [show i+((eW a 1).length+(0+1)+1+1)=i+1+1+(eW a 1).length+1 by omega]
      exact λn hn=>qr n (by omega))
   exact⟨b1,AW cE b1 (λhc=>by omega)⟩
  ·obtain⟨Fp,TM⟩:=aH a (by omega) ha
   obtain⟨TO,as8⟩:=aH b (by omega) hb
   have fY:=AU dV
   have b1:qq l e:=AV ab hg cE (by
    intro i d R aN gp hd;rw [bm]at hd;generalize e.Op=op at dV ao fY gp
    rw [if_neg (by omega)]
    rw [ao]at aN ⊢;intro n hn;obtain⟨n,rfl⟩:∃j,n=j+1:=⟨n-1,by omega⟩
    by_cases aC:b_ op=4
    ·have aF:=Fo (a:=a) (b:=b) dV;rw [if_pos aC]at aF;have b3:da (fy a.Op (bR a) 5)=eW a 5:=rfl;have e1:da (fy b.Op (bR b) (b_ op+1))=eW b (4+1):=by rw [aC]
     rw [b3,e1]at aF;rw [aF]at aN hn ⊢;rw [aC]at gp hn ⊢;simp only [atP,atL]at hn ⊢;have:=Fp 5 i d _ (by omega) (by omega) aN.lM (by unfold ja;rw [List.cons_append,TG op _ dV,aC];show((4:Nat):Int)<((5:Nat):Int);omega) (Or.inl (by omega)) n (by omega)
     rw [Fg];unfold uh;simp only [fq,show¬ 4=3 by omega,show¬ 4=8 by omega,atG,atI]
     rw [bv (by omega),this]
     simp only [al,aD.on];obtain⟨m,hm⟩:∃j,n=j+1:=⟨n-1,by omega⟩
     conv=>lhs;arg 9;rw [hm]
     rw [abs ab dV aC.symm TO aN.kn (by omega) (by omega) (by omega),if_pos rfl]
     rw [show i+(eW a 5).length+1+(eW b (4+1)).length=i+((eW a 5).length+((eW b (4+1)).length+1))by omega]
    ·obtain⟨j,hj,TK⟩:=abt (i:=i) (d:=d) (n:=n) ab dV aC ha TM TO aN (by omega) (by omega) (by omega) (by omega)
     rw [TK];have dh:da (bR ⟨op,0,[],[a,b]⟩)≠[]:=by rw [Fo dV];simp
     have uF:=aN.TJ dh;obtain⟨m,hm⟩:∃m,n-j=m+1:=⟨n-j-1,by omega⟩
     rw [hm];simp only [p',DC];rw [Tr];simp only [al];rw [decide_eq_false (show¬ (s1 l (i+(da (bR ⟨op,0,[],[a,b]⟩)).length)).1=(b_ op:Int)by rw [uF];omega)]
     simp only [atK,atH])
   refine⟨b1,AW cE b1 (λhc i d n R aN gp hd hn=>?_)⟩
   rw [bm]at hd;generalize e.Op=op at dV ao fY gp hc hn
   rw [ao]at aN hn ⊢;exact abt (i:=i) (d:=d) (n:=n) ab dV (by omega) ha TM TO aN gp (by omega) (by omega) hn
end
def gT{k:Nat}(h:k≤1000000000000):b0 k=true:=Td (by omega)
def TP{k:Nat}(h:k≤1000000000000):room k 1=true:=by simp [room];omega
def TQ(n:Nat)(op:Int):C4 n op=some ((b_ op:Nat):Int):=by
 by_cases h:1≤op∧op≤27
 ·obtain rfl|rfl|rfl|rfl|rfl|rfl|rfl|rfl|rfl|rfl|rfl|rfl|rfl|rfl|rfl|rfl|rfl|rfl|rfl|rfl|rfl|rfl|rfl|rfl|rfl|rfl|rfl:op=1∨op=2∨op=3∨op=4∨op=5∨op=6∨op=7∨op=8∨op=9∨op=10∨op=11∨op=12∨op=13∨op=14∨op=15∨op=16∨op=17∨op=18∨op=19∨op=20∨op=21∨op=22∨op=23∨op=24∨op=25∨op=26∨op=27:=by omega
  all_goals rfl
 ·have e:b_ op=9:=by
   unfold b_;rw [if_neg (by omega),if_neg (by omega),if_neg (by omega),if_neg (by omega),if_neg (by omega),if_neg (by omega),if_neg (by omega),if_neg (by omega)]
  rw [e];simp only [C4,tZ,HZ,C3,Pz,show¬ op=17 by omega,show¬ op=16 by omega,show¬ op=18 by omega,show¬ op=10 by omega,show¬ op=11 by omega,show¬ op=12 by omega,show¬ op=13 by omega,show¬ op=14 by omega,show¬ op=15 by omega,show¬ op=19 by omega,show¬ op=4 by omega,show¬ op=5 by omega,show¬ op=6 by omega,show¬ op=7 by omega,show¬ op=8 by omega,show¬ op=9 by omega,atG,atI]
  rfl
def abw(n:Nat)(op:Int)(h:20≤op∧op≤27):H2 n op=some (spell (hI op)):=by
 obtain rfl|rfl|rfl|rfl|rfl|rfl|rfl|rfl:op=20∨op=21∨op=22∨op=23∨op=24∨op=25∨op=26∨op=27:=by omega
 all_goals rfl
def abx(n:Nat)(op:Int)(h:4≤op∧op≤8∨10≤op∧op≤17∨op=19):H0 n op=some (spell (nP op)):=by
 have:op=4∨op=5∨op=6∨op=7∨op=8∨op=10∨op=11∨op=12∨op=13∨op=14∨op=15∨op=16∨op=17∨op=19:=by omega
 rcases this with rfl|rfl|rfl|rfl|rfl|rfl|rfl|rfl|rfl|rfl|rfl|rfl|rfl|rfl<;>rfl
def aby(n:Nat)(i:Int)(h0:0≤i)(Z:i≤9223372036854775807):wb n i=some (Lib.decDigits i.toNat):=by
 unfold wb Hp;rw [decide_eq_true (show(10:Int)=10 ∧ -9223372036854775808≤i∧i≤9223372036854775807 from⟨rfl,by omega,Z⟩)]
 simp only [aL,al];unfold Lib.itoa;rw [if_neg (by omega)]
def AX(i:Int)(h0:0≤i)(Z:i≤9223372036854775807):(Lib.decDigits i.toNat).length≤21:=by
 have:=Lib.itoa_length_le i (by omega) Z
 unfold Lib.itoa at this
 rwa [if_neg (by omega)]at this
def Fq(n:Nat)(c:UInt8)(b:atW)(h:b.length≤100000000):ra n ((c.toNat:Nat):Int) (fR b)=some (fR (b++[c])):=by
 unfold ra yQ;simp only [al,Lt,atL,atM,TP (show b.length+(0+1)≤1000000000000 by omega),aL,Tc]
def am3(n:Nat)(s:atW)(hs:s.length≤4611686018427387904):∀m i,s.length<i+m→i≤s.length→C1 n s m (i:Int)=some ((s.drop i).all okB):=by
 intro m;induction m with
 |zero=>intro i h aa;omega
 |succ m aH=>
  intro i hm hi;simp only [C1,Pu,Pt];by_cases h:i<s.length
  ·rw [e8 s i 0 h,bv (by omega),aH (i+1) (by omega) (by omega)]
   simp only [h,bI h,atN,atO,atF,atH,aL,atT,List.all_cons,pg,eL,dt,AH];cases okB (s.getD i 0)<;>simp
  ·rw [gu s i h];simp [h]
def am4{n:Nat}(s:atW)(h:s.length<n)(hs:s.length≤4611686018427387904):Pv n s=some (s.all okB):=by
 have:=am3 n s hs n 0 (by omega) (by omega)
 rw [List.drop_zero]at this;exact this
def xj:∀s:atW,(gB s).length≤2*s.length
 |[]=>Nat.le_refl _
 |c::s=>by
  have:=xj s
  simp only [gB];split<;>simp only [atL]<;>omega
def abz(s:atW)(c:UInt8):gB (s++[c])=gB s++gB [c]:=by
 induction s with
 |nil=>rfl
 |cons d s aH=>simp only [List.cons_append,gB,aH];split<;>rfl
def am5(n:Nat)(s:atW)(hs:s.length≤64):∀m i,s.length<i+m→i≤s.length→C2 n s m (fR (34::gB (s.take i))) (i:Int)=some (quo s,0):=by
 intro m;induction m with
 |zero=>intro i h aa;omega
 |succ m aH=>
  intro i hm hi;simp only [C2,Py,Pw,Px,HX];have hlen:=xj (s.take i);have Fe:(s.take i).length≤i:=by simp;omega
  by_cases h:i<s.length
  ·(rw [bv (by omega)];simp only [atN])
   have hn:=aH (i+1) (by omega) (by omega)
   have aF:s.take (i+1)=s.take i++[s.getD i 0]:=by
    rw [List.take_add,e8 s i 0 h,List.take_succ_cons,List.take_zero]
   rw [aF,abz]at hn;generalize s.getD i 0=c at hn
   simp only [h,bI h,atO,atF,atH,aL,atT,fq,dt];by_cases hc:c.toNat=34∨c.toNat=92
   ·have hb:(decide (c.toNat=34)||decide (c.toNat=92))=true:=by rcases hc with hc|hc<;>rw [decide_eq_true hc]<;>simp
    have e1:=Fq n 92 (34::gB (s.take i)) (by simp only [atL];omega)
    have e2:=Fq n c (34::gB (s.take i)++[92]) (by simp only [atP,atL,atM];omega)
    rw [hb];simp only [atH];rw [show ra n 92 _=_ from e1]
    simp only [al];rw [e2];simp only [al];rw [show(34::gB (s.take i)++[92]++[c])=34::(gB (s.take i)++gB [c])by simp only [gB];rw [if_pos hc];simp]
    exact hn
   ·have hb:(decide (c.toNat=34)||decide (c.toNat=92))=false:=by rw [decide_eq_false (λe=>hc (Or.inl e)),decide_eq_false (λe=>hc (Or.inr e))];rfl
    have e2:=Fq n c (34::gB (s.take i)) (by simp only [atL];omega)
    rw [hb];simp only [atI];rw [e2];simp only [al];rw [show(34::gB (s.take i)++[c])=34::(gB (s.take i)++gB [c])by simp only [gB];rw [if_neg hc];simp]
    exact hn
  ·have TR:i=s.length:=by omega
   subst TR;simp only [atO,Nat.lt_irrefl,atG,atI,List.take_length];have e1:=Fq n 34 (34::gB s) (by have:=xj s;simp only [atL];omega)
   rw [show ra n 34 _=_ from e1]
   have ab:=xj s;have eQ:(fR (34::gB s++[34])).length≤9223372036854775807:=by rw [Lt];simp only [atP,atL,atM];omega
   simp only [al,sC,Tb,Ta,eQ,atF,Bool.and_self,aL];rfl
def am6{n:Nat}(s:atW)(h:js s=true)(hn:100<n):HY n s=some (quo s,0):=by
 unfold js at h;simp only [Bool.and_eq_true,decide_eq_true_eq]at h;unfold HY;simp only [eL,show¬ 64<s.length by omega,atG,atI,am4 s (show s.length<n by omega) (by omega),al,h.1,atJ]
 have e1:=Fq n 34 [] (by simp)
 rw [show ra n 34 []=_ from e1]
 exact am5 n s (by omega) n 0 (by omega) (by omega)
def am7(s:atW):(quo s).length≤2*s.length+2:=by
 have:=xj s
 simp only [quo,atL,atP,atM];omega
def abA{c:Prop}[Decidable c]{a b:Token}{k:Nat}(ha:(spell a).length≤k)(hb:(spell b).length≤k):(spell (if c then a else b)).length≤k:=by
 by_cases h:c
 ·rw [if_pos h];exact ha
 ·rw [if_neg h];exact hb
def TS(op:Int):(spell (nP op)).length≤3:=by
 unfold nP
 repeat refine abA (by decide) ?_
 decide
def AY(op:Int):(spell (hI op)).length≤6:=by
 unfold hI
 repeat refine abA (by decide) ?_
 decide
def po(op:Int)(p:ld)(k:Nat):(flat (fy op p k)).length≤(flat p).length+2:=by
 unfold fy;split
 ·simp only [flat,mF,spell,bb,atP,atL];simp;omega
 ·omega
def pp{w:atW}(h:gv w=true):w.length≤16:=by
 obtain⟨c,l,_,_,_,_,aT⟩:=LE h;exact aT
def qS:∀(h:Nat) (e:Expr),fE e≤h→gK e→(flat (bR e)).length≤4*dd e:=by
 intro h;induction h with
 |zero=>intro e he;rw [s7]at he;omega
 |succ h aH=>
  intro e he cE;have nQ:=(LG e).1 cE;have uz:=qi e;rcases xi e cE with⟨Z,ao⟩|⟨Z,ao⟩|⟨Z,ao⟩|⟨ai,ao⟩|⟨a,ao,ha,bm,dV⟩|⟨a,b,ao,ha,hb,bm,dV⟩
  ·have:=AX e.N (nQ.2.1 Z).1 (nQ.2.1 Z).2
   have e2:flat (bR e)=Lib.decDigits e.N.toNat++[]:=by rw [ao];rfl
   rw [e2,List.append_nil];omega
  ·have:=am7 e.S
   have e2:flat (bR e)=quo e.S++[]:=by rw [ao];rfl
   rw [e2,List.append_nil];omega
  ·have:=pp (nQ.2.2.2.2.2.1 Z)
   have e2:flat (bR e)=e.S++[]:=by rw [ao];rfl
   rw [e2,List.append_nil];omega
  ·have:=AY e.Op
   generalize e.Op=op at ai ao this
   have e2:flat (bR e)=spell (hI op)++([40]++([41]++[])):=by
    rw [ao];simp only [bR,jt,kO];rw [if_neg (by omega),if_neg (by omega),if_neg (by omega)];rfl
   rw [e2];simp only [atP,atL,atM];omega
  ·have Fr:=aH a (by omega) ha
   have Fs:dd e=30+(dd a+1):=by rw [ao];simp [dd,mx]
   have:=AY e.Op
   have aj:=po a.Op (bR a) 3;have di:=po a.Op (bR a) 8;generalize e.Op=op at dV ao this
   have e2:bR e=if op=18 then some (dD [110,111,116])::none::fy a.Op (bR a) 3 else if op=9 then some (bb [45])::fy a.Op (bR a) 8 else some (hI op)::some (bb [40])::(bR a++[some (bb [41])]):=by
    rw [ao];simp only [bR,jt,kO];rw [if_neg (by omega),if_neg (by omega),if_neg (by omega)]
   rw [e2];split
   ·simp only [flat,spell,dD,atP,atL];simp;omega
   ·split
    ·simp only [flat,spell,bb,atP,atL];simp;omega
    ·simp only [flat,mF,atP];have e3:(spell (bb [40])).length=1:=rfl;have h':(spell (bb [41])).length=1:=rfl;simp only [atM];omega
  ·have Fr:=aH a (by omega) ha
   have abB:=aH b (by omega) hb
   have Fs:dd e=30+(dd a+1+(dd b+1)):=by rw [ao];simp [dd,mx]
   have:=TS e.Op
   have aj:=po a.Op (bR a) (if b_ e.Op=4 then 5 else b_ e.Op)
   have di:=po b.Op (bR b) (b_ e.Op+1);generalize e.Op=op at dV ao this aj di
   have e2:bR e=fy a.Op (bR a) (if b_ op=4 then 5 else b_ op)++none::some (nP op)::none::fy b.Op (bR b) (b_ op+1):=by rw [ao,LL dV]
   rw [e2];simp only [mF,flat,atP,atL];omega
def am8(n:Nat):l6 (n+1)=H3 n (l6 n) (wc n):=rfl
def am9(n:Nat):wc (n+1)=H4 n (l6 n) (wc n):=rfl
def Ft{n:Nat}{e:Expr}{k:Nat}(h:l6 n e=some (flat (bR e)))(ab:(flat (bR e)).length≤100000000):wc (n+1) e (k:Int)=some (flat (fy e.Op (bR e) k)):=by
 rw [am9];unfold H4 fy;rw [TQ,h];simp only [al,atO];by_cases hk:b_ e.Op<k
 ·simp only [hk,atF,atH,atU];rw [gT (by simp;omega),gT (by simp;omega)]
  simp only [aL,flat,mF,spell,bb];simp
 ·simp only [hk,atG,atI,atV]
def am':∀(h:Nat) (e:Expr) (n:Nat),fE e≤h→gK e→2*h+200≤n→dd e≤1000000→l6 n e=some (flat (bR e)):=by
 intro h;induction h with
 |zero=>intro e n he;rw [s7]at he;omega
 |succ h aH=>
  intro e n he cE hn am_;obtain⟨n,rfl⟩:∃j,n=j+1:=⟨n-1,by omega⟩
  obtain⟨n,rfl⟩:∃j,n=j+1:=⟨n-1,by omega⟩
  have nQ:=(LG e).1 cE;have uz:=qi e;rw [am8];unfold H3;rw [TQ];simp only [al];rcases xi e cE with⟨Z,ao⟩|⟨Z,ao⟩|⟨Z,ao⟩|⟨ai,ao⟩|⟨a,ao,ha,bm,dV⟩|⟨a,b,ao,ha,hb,bm,dV⟩
  ·have e2:flat (bR e)=Lib.decDigits e.N.toNat++[]:=by rw [ao];rfl
   rw [aby _ e.N (nQ.2.1 Z).1 (nQ.2.1 Z).2,e2,List.append_nil];simp only [Z,atF,atH,al]
  ·have e2:flat (bR e)=quo e.S++[]:=by rw [ao];rfl
   rw [am6 e.S (nQ.2.2.2.2.1 Z) (by omega),e2,List.append_nil]
   simp only [Z,show¬ (2:Int)=1 by omega,atF,atG,atH,atI,al]
  ·have e2:flat (bR e)=e.S++[]:=by rw [ao];rfl
   rw [e2,List.append_nil];simp only [Z,show¬ (3:Int)=1 by omega,show¬ (3:Int)=2 by omega,atF,atG,atH,atI]
  ·have hw:=AY e.Op;have TT:=abw (n+1) e.Op (by omega)
   have fY:b_ e.Op=9:=by
    have:e.Op=25∨e.Op=26∨e.Op=27:=by omega
    rcases this with h|h|h<;>rw [h]<;>decide
   have e7:e.ar=[]:=by rw [ao]
   have e2:flat (bR e)=spell (hI e.Op)++([40]++([41]++[])):=by
    generalize e.Op=op at ai ao
    rw [ao];simp only [bR,jt,kO];rw [if_neg (by omega),if_neg (by omega),if_neg (by omega)];rfl
   rw [TT,e2];simp only [al];rw [gT (show(spell (hI e.Op)).length+([40,41]:atW).length≤1000000000000 by simp;omega)]
   simp only [fY,e7,show¬ e.Op=1 by omega,show¬ e.Op=2 by omega,show¬ e.Op=3 by omega,show¬ e.Op=18 by omega,show¬ e.Op=9 by omega,atG,atI,atM,fq,atF,atH,aL]
   simp
  ·have Fs:dd e=30+(dd a+1):=by rw [ao];simp [dd,mx]
   have qs:=aH a n (by omega) ha (by omega) (by omega)
   have TU:=aH a (n+1) (by omega) ha (by omega) (by omega)
   have Fr:=qS (fE a) a (Nat.le_refl _) ha;have e7:e.ar=[a]:=by rw [ao]
   have aj:=po a.Op (bR a) 3;have di:=po a.Op (bR a) 8
   have e2:bR e=if e.Op=18 then some (dD [110,111,116])::none::fy a.Op (bR a) 3 else if e.Op=9 then some (bb [45])::fy a.Op (bR a) 8 else some (hI e.Op)::some (bb [40])::(bR a++[some (bb [41])]):=by
    generalize e.Op=op at dV ao
    rw [ao];simp only [bR,jt,kO];rw [if_neg (by omega),if_neg (by omega),if_neg (by omega)]
   rw [e2,e7];simp only [atL,atM,l8 (show 0<0+1 by omega),aL,List.getD_cons_zero,show¬ e.Op=1 by omega,show¬ e.Op=2 by omega,show¬ e.Op=3 by omega,atG,atI]
   by_cases mG:e.Op=18
   ·have:=Ft (k:=3) qs (by omega)
    rw [mG];simp only [atF,atH,atU,show b_ 18=3 from rfl]
    rw [this];simp only [al];rw [gT (by simp;omega)]
    rfl
   ·by_cases el:e.Op=9
    ·have:=Ft (k:=8) qs (by omega)
     rw [el];simp only [show¬ (9:Int)=18 by omega,atF,atG,atH,atI,atU,atV,show b_ 9=8 from rfl]
     rw [this];simp only [al];rw [gT (by simp;omega)]
     rfl
    ·have TN:20≤e.Op∧e.Op≤24:=by omega
     have fY:b_ e.Op=9:=by
      have:e.Op=20∨e.Op=21∨e.Op=22∨e.Op=23∨e.Op=24:=by omega
      rcases this with h|h|h|h|h<;>rw [h]<;>decide
     have hw:=AY e.Op;rw [abw (n+1) e.Op (by omega),TU,if_neg mG,if_neg el]
     have e3:flat (some (hI e.Op)::some (bb [40])::(bR a++[some (bb [41])]))=spell (hI e.Op)++([40]++(flat (bR a)++([41]++[]))):=by
      simp only [flat,mF];rfl
     rw [e3];generalize spell (hI e.Op)=W at hw
     simp only [mG,el,fY,atG,atF,atI,atH,al];rw [gT (show W.length+(0+1)≤1000000000000 by omega),gT (show(W++([40]:atW)).length+(flat (bR a)).length≤1000000000000 by simp;omega),gT (show((W++([40]:atW))++flat (bR a)).length+(0+1)≤1000000000000 by simp;omega)]
     simp only [show((0+1:Nat):Int)=1 from rfl,show¬ (1:Int)=0 by omega,show((9:Nat):Int)=9 from rfl,atF,atG,atH,atI,aL]
     simp
  ·have Fs:dd e=30+(dd a+1+(dd b+1)):=by rw [ao];simp [dd,mx]
   have qs:=aH a n (by omega) ha (by omega) (by omega)
   have TV:=aH b n (by omega) hb (by omega) (by omega)
   have Fr:=qS (fE a) a (Nat.le_refl _) ha;have abB:=qS (fE b) b (Nat.le_refl _) hb;have e7:e.ar=[a,b]:=by rw [ao]
   have fY:=AU dV;have ana:=TS e.Op
   have e2:bR e=fy a.Op (bR a) (if b_ e.Op=4 then 5 else b_ e.Op)++none::some (nP e.Op)::none::fy b.Op (bR b) (b_ e.Op+1):=by
    generalize e.Op=op at dV ao
    rw [ao,LL dV]
   have aj:=po a.Op (bR a) (if b_ e.Op=4 then 5 else b_ e.Op)
   have di:=po b.Op (bR b) (b_ e.Op+1);have xk:=Ft (k:=b_ e.Op+1) TV (by omega)
   rw [e2,e7,abx (n+1) e.Op dV];simp only [atL,atM,l8 (show 0<0+1+1 by omega),aL,List.getD_cons_zero,List.getD_cons_succ,show¬ e.Op=1 by omega,show¬ e.Op=2 by omega,show¬ e.Op=3 by omega,show¬ e.Op=18 by omega,show¬ e.Op=9 by omega,atG,atI,fq,show¬ b_ e.Op=9 by omega,show aJ 1 (0+1+1)=true from rfl]
   by_cases aC:b_ e.Op=4
   ·have sh:=Ft (k:=5) qs (by omega)
    rw [aC]at xk ⊢;rw [if_pos rfl];rw [if_pos aC]at aj;simp only [atF,atH];rw [show wc (n+1) a 5=_ from sh,show wc (n+1) b 5=_ from xk]
    simp only [al];rw [aC]at di;rw [gT (by simp;omega),gT (by simp;omega),gT (by simp;omega),gT (by simp only [atP,atL,atM];omega)]
    simp only [aL,mF,flat];simp
   ·have sh:=Ft (k:=b_ e.Op) qs (by omega)
    rw [if_neg aC]at aj ⊢;simp only [aC,atG,atI];rw [sh,bv (by omega),xk]
    simp only [al];rw [gT (by simp;omega),gT (by simp;omega),gT (by simp;omega),gT (by simp only [atP,atL,atM];omega)]
    simp only [aL,mF,flat];simp
mutual
def mH:Expr→Prop
 |⟨Op,N,S,ar⟩=>N≤9223372036854775807∧S.length≤9223372036854775807∧ar.length≤9223372036854775807∧AZ ar
def AZ:List Expr→Prop
 |[]=>True
 |x::l=>mH x∧AZ l
end
def LP(e:Expr):mH e↔e.N≤9223372036854775807∧e.S.length≤9223372036854775807∧e.ar.length≤9223372036854775807∧AZ e.ar:=by cases e;rfl
def abC:∀(l:List Expr) (i:Nat),i<l.length→AZ l→mH (l.getD i default)
 |[],i,h,_=>by simp at h
 |x::l,0,h,ab=>ab.1
 |x::l,i+1,h,ab=>by simp only [List.getD_cons_succ];exact abC l i (by simpa using h) ab.2
mutual
def rz:Expr→Nat
 |⟨_,_,S,ar⟩=>1+S.length / 64+xl ar
def xl:List Expr→Nat
 |[]=>0
 |x::l=>rz x+xl l
end
def anb(e:Expr):rz e=1+e.S.length / 64+xl e.ar:=by cases e;rfl
mutual
def TW:∀e:Expr,dd e+1≤95*rz e
 |⟨Op,N,S,ar⟩=>by
  have:=abD ar
  simp only [dd,rz];omega
def abD:∀l:List Expr,mx l≤95*xl l
 |[]=>Nat.le_refl _
 |x::l=>by
  have Z:=TW x;have aa:=abD l;simp only [mx,xl];omega
end
def TX(k:Nat):Int.tdiv ((k:Nat):Int) 64=((k / 64:Nat):Int):=by
 rw [Int.tdiv_eq_ediv_of_nonneg (by omega)];rfl
def anc:∀(n:Nat) (e:Expr) (m:Nat),m≤1000→m+3≤n→mH e→
 ∃r:Nat,ro n e (m:Int)=some (r:Int)∧1≤r∧r≤m+144115188075855873∧(r≤m→r=rz e):=by
 intro n;induction n with
 |zero=>intro e m h aa;omega
 |succ n aH=>
  intro e m hm hn he;obtain⟨Z,aa,aj,aC⟩:=(LP e).1 he;simp only [ro,Kx];rw [TX];rw [show atY ((e.S.length / 64:Nat):Int)=((e.S.length / 64:Nat):Int)by rw [wr]<;>omega]
  rw [show atY (1+((e.S.length / 64:Nat):Int))=((1+e.S.length / 64:Nat):Int)by rw [wr]<;>omega]
  have gN:∀k i v,m+2≤v+k→i≤e.ar.length→i≤v→1≤v→v≤m+144115188075855873→1≤k→
   ∃r:Nat,Ag n (ro n) (m:Int) e k (v:Int) (i:Int)=some (r:Int)∧v≤r∧r≤m+144115188075855873∧(r≤m→r=v+xl (e.ar.drop i)):=by
   intro k;induction k with
   |zero=>intro i v Z aa h0 aj aC aT;omega
   |succ k A0=>
    intro i v g1 g2 g0 g3 g4 g5;simp only [Ag,Kw,Kv,ef,atO,Int.ofNat_le];by_cases hi:i<e.ar.length
    ·by_cases aw:v≤m
     ·obtain⟨r1,e1,e2,e3,h'⟩:=aH (e.ar.getD i default) (m-v) (by omega) (by omega) (abC _ _ hi aC)
      (rw [show atY ((m:Int)-(v:Int))=((m-v:Nat):Int)by rw [wr]<;>omega,bv (by omega)];simp only [atN];rw [e1])
      simp only [hi,aw,atF,Bool.and_self,atH,bI hi,aL,al];rw [show atY ((v:Int)+(r1:Int))=((v+r1:Nat):Int)by rw [wr]<;>omega]
      obtain⟨r,f1,f2,f3,f4⟩:=A0 (i+1) (v+r1) (by omega) (by omega) (by omega) (by omega) (by omega) (by omega)
      refine⟨r,f1,by omega,f3,λai=>?_⟩
      have:=f4 ai
      have iu:=h' (by omega)
      rw [e8 e.ar i default hi];simp only [xl];omega
     ·simp only [hi,aw,atF,atG,Bool.and_false,atI];exact⟨v,rfl,Nat.le_refl _,g4,λh=>absurd h aw⟩
    ·rw [gu e.ar i hi];simp only [hi,atG,Bool.false_and,atI];exact⟨v,rfl,Nat.le_refl _,g4,λh=>rfl⟩
  obtain⟨r,f1,f2,f3,f4⟩:=gN n 0 (1+e.S.length / 64) (by omega) (by omega) (by omega) (by omega) (by omega) (by omega)
  exact⟨r,f1,by omega,f3,λai=>by rw [f4 ai,anb,List.drop_zero]⟩
def ane:∀(h:Nat) (e:Expr) (d:Nat),fE e≤h→mH e→gS e (d:Int)=0→d≤1000→gK e∧d+fE e≤13:=by
 intro h;induction h with
 |zero=>intro e d he;rw [s7]at he;omega
 |succ h aH=>
  intro e d he hi aw hd;obtain⟨i1,i2,i3,i4⟩:=(LP e).1 hi;rw [aaU]at aw
  have kc:pi e (d:Int)=0:=by
   by_cases h0:pi e (d:Int)=0
   ·exact h0
   ·rw [if_neg h0]at aw;exact absurd aw h0
  rw [if_pos kc]at aw;unfold pi at kc;split at kc
  ·omega
  rename_i g1;split at kc
  ·omega
  rename_i g2;split at kc
  ·omega
  rename_i g3;split at kc
  ·omega
  rename_i g4;simp only [not_or,not_and,Bool.not_eq_false]at g1 g2 g3;obtain⟨aZ,a2,a3⟩:=g1;obtain⟨cY,jj,Fk⟩:=g3
  have dV:1≤e.Op∧e.Op≤27:=by
   unfold jE at aZ;by_cases Z:e.Op<1
   ·simp [Z]at aZ
   ·by_cases aa:27<e.Op
    ·simp [aa]at aZ
    ·omega
  rw [show atY ((d:Int)+1)=((d+1:Nat):Int)by rw [wr]<;>omega]at aw
  have ab:∀l:List Expr,qp l≤h→AZ l→s4 l ((d+1:Nat):Int)=0→Fl l∧(d+1+qp l≤13∨l=[]):=by
   intro l;induction l with
   |nil=>intro _ _ _;exact⟨trivial,Or.inr rfl⟩
   |cons x l anf=>
    intro bm hin vx;simp only [qp]at bm;simp only [s4]at vx
    have hx:gS x ((d+1:Nat):Int)=0:=by
     by_cases h0:gS x ((d+1:Nat):Int)=0
     ·exact h0
     ·rw [if_neg h0]at vx;exact absurd vx h0
    rw [if_pos hx]at vx;obtain⟨fK,eV⟩:=aH x (d+1) (by omega) hin.1 hx (by omega)
    obtain⟨aM,bu⟩:=anf (by omega) hin.2 vx
    refine⟨⟨fK,aM⟩,Or.inl ?_⟩
    simp only [qp];rcases bu with bu|rfl
    ·omega
    ·simp only [qp];omega
  have abE:=s7 e;obtain⟨c_,ak⟩:=ab e.ar (by omega) i4 aw
  refine⟨(LG e).2 ⟨⟨dV,?_⟩,λZ=>⟨by omega,i1⟩,λZ=>?_,λZ=>?_,λZ=>?_,λZ=>?_,c_⟩,?_⟩
  ·by_cases hc:(e.ar.length:Int)=jE e.Op
   ·exact hc
   ·exact absurd hc Fk
  ·by_cases hc:e.N=0
   ·exact hc
   ·exact absurd hc (a2 Z)
  ·by_cases hc:e.S=[]
   ·exact hc
   ·exact absurd hc (a3 Z.1 Z.2)
  ·exact jj Z
  ·exact g2 Z
  ·rcases ak with ak|ak
   ·omega
   ·rw [ak]at abE;simp only [qp]at abE;omega
open Go Go.Ab Go.Proofs
mutual
def rA:Stmt→Prop
 |⟨_,Name,Max,A,B,Body,bx⟩=>(-9223372036854775808≤Max∧Max≤9223372036854775807)∧Name.length≤9223372036854775807∧mH A∧mH B∧rB Body∧rB bx
def rB:List Stmt→Prop
 |[]=>True
 |x::l=>rA x∧rB l
end
def TY(s:Stmt):rA s↔(-9223372036854775808≤s.Max∧s.Max≤9223372036854775807)∧s.Name.length≤9223372036854775807∧mH s.A∧mH s.B∧rB s.Body∧rB s.bx:=by cases s;rfl
def abF:∀(l:List Stmt) (i:Nat),i<l.length→rB l→rA (l.getD i default)
 |[],i,h,_=>by simp at h
 |x::l,0,h,ab=>ab.1
 |x::l,i+1,h,ab=>by simp only [List.getD_cons_succ];exact abF l i (by simpa using h) ab.2
mutual
def LQ:Stmt→Nat
 |⟨_,Name,_,A,B,Body,bx⟩=>1+Name.length / 64+rz A+rz B+qt Body+qt bx
def qt:List Stmt→Nat
 |[]=>0
 |x::l=>LQ x+qt l
end
def ang(s:Stmt):LQ s=1+s.Name.length / 64+rz s.A+rz s.B+qt s.Body+qt s.bx:=by cases s;rfl
mutual
def anh:∀s:Stmt,fst s+1≤150*LQ s
 |⟨Op,Name,Max,A,B,Body,bx⟩=>by
  have Z:=TW A;have aa:=TW B;have aj:=LR Body;have aC:=LR bx;simp only [fst,LQ];omega
def LR:∀l:List Stmt,du l≤150*qt l
 |[]=>Nat.zero_le _
 |x::l=>by
  have Z:=anh x;have aa:=LR l;simp only [du,qt];omega
end
def ani(n:Nat)(e:Expr)(m:Int)(hm:m<0)(hn:2≤n)(he:mH e):ro n e m=some ((1+e.S.length / 64:Nat):Int):=by
 obtain⟨n,rfl⟩:∃k,n=k+2:=⟨n-2,by omega⟩
 obtain⟨Z,aa,aj,aC⟩:=(LP e).1 he;simp only [ro,Kx];rw [TX];rw [show atY ((e.S.length / 64:Nat):Int)=((e.S.length / 64:Nat):Int)by rw [wr]<;>omega]
 rw [show atY (1+((e.S.length / 64:Nat):Int))=((1+e.S.length / 64:Nat):Int)by rw [wr]<;>omega]
 simp only [Ag,Kw,Kv,ef];rw [show decide (((1+e.S.length / 64:Nat):Int)≤m)=false from decide_eq_false (by omega)]
 simp
def abG(n:Nat)(e:Expr)(m:Int)(hm:m≤1000)(hn:m+3≤n)(rv:3≤n)(he:mH e):
 ∃r:Nat,ro n e m=some (r:Int)∧1≤r∧(r:Int)≤(if m<0 then 0 else m)+144115188075855873∧((r:Int)≤m→r=rz e):=by
 by_cases h:m<0
 ·have aa:=((LP e).1 he).2.1;exact⟨_,ani n e m h (by omega) he,by omega,by rw [if_pos h];omega,λai=>by omega⟩
 ·obtain⟨k,rfl⟩:=Int.eq_ofNat_of_zero_le (show 0≤m by omega)
  obtain⟨r,Z,aa,aj,aC⟩:=anc n e k (by omega) (by omega) he
  exact⟨r,Z,aa,by rw [if_neg h];omega,λai=>aC (by omega)⟩
def anj:∀(n:Nat) (l:List Stmt) (m:Int),-4611686018427387904≤m→m≤1000→m+6≤n→5≤n→rB l→
 ∃r:Nat,Ah n l m=some (r:Int)∧(r:Int)≤(if m<0 then 0 else m+576460752303423500)∧((r:Int)≤m→r=qt l):=by
 intro n;induction n with
 |zero=>intro l m _ _ _ h;omega
 |succ n aH=>
  intro l m as9 hm hn rv ab;simp only [Ah,Sg]
  have gN:∀(k i v:Nat),m+2≤v+k→1≤k→i≤v→(v:Int)≤(if m<0 then 0 else m+576460752303423500)→
   ∃r:Nat,Em n (Ah n) l m k (v:Int) (i:Int)=some (r:Int)∧v≤r∧(r:Int)≤(if m<0 then 0 else m+576460752303423500)∧((r:Int)≤m→r=v+qt (l.drop i)):=by
   intro k;induction k with
   |zero=>intro i v _ h;omega
   |succ k A0=>
    intro i v g1 g2 g3 g4;simp only [Em,Sf,Se,ef,atO];by_cases hi:i<l.length
    ·by_cases aw:(v:Int)≤m
     ·have abH:¬ m<0:=by omega
      rw [if_neg abH];simp only [if_neg abH]at A0 g4;obtain⟨aZ,a2,a3,a4,a5,qu⟩:=(TY _).1 (abF l i hi ab)
      (simp only [atN])
      generalize hs:l.getD i default=s at aZ a2 a3 a4 a5 qu
      simp only [hi,aw,atF,Bool.and_self,atH,bI hi,aL];rw [TX];rw [show atY ((s.Name.length / 64:Nat):Int)=((s.Name.length / 64:Nat):Int)by rw [wr]<;>omega]
      rw [show atY ((v:Int)+1)=((v+1:Nat):Int)by rw [wr]<;>omega]
      rw [show atY (((v+1:Nat):Int)+((s.Name.length / 64:Nat):Int))=((v+1+s.Name.length / 64:Nat):Int)by rw [wr]<;>omega]
      rw [show atY (m-((v+1+s.Name.length / 64:Nat):Int))=m-((v+1+s.Name.length / 64:Nat):Int)by rw [wr]<;>omega]
      obtain⟨r1,e1,cY,c1,d1⟩:=abG n s.A (m-((v+1+s.Name.length / 64:Nat):Int)) (by omega) (by omega) (by omega) a3
      rw [e1];simp only [al];have Vo:(v+1+s.Name.length / 64+r1:Nat)≤m+288230376151711750:=by split at c1<;>omega
      rw [show atY (((v+1+s.Name.length / 64:Nat):Int)+(r1:Int))=((v+1+s.Name.length / 64+r1:Nat):Int)by rw [wr]<;>omega]
      rw [show atY (m-((v+1+s.Name.length / 64+r1:Nat):Int))=m-((v+1+s.Name.length / 64+r1:Nat):Int)by rw [wr]<;>omega]
      obtain⟨r2,e2,jj,c2,d2⟩:=abG n s.B (m-((v+1+s.Name.length / 64+r1:Nat):Int)) (by omega) (by omega) (by omega) a4
      rw [e2];simp only [al];have Vp:(v+1+s.Name.length / 64+r1+r2:Nat)≤m+432345564227567625:=by split at c2<;>omega
      rw [show atY (((v+1+s.Name.length / 64+r1:Nat):Int)+(r2:Int))=((v+1+s.Name.length / 64+r1+r2:Nat):Int)by rw [wr]<;>omega]
      rw [show atY (m-((v+1+s.Name.length / 64+r1+r2:Nat):Int))=m-((v+1+s.Name.length / 64+r1+r2:Nat):Int)by rw [wr]<;>omega]
      obtain⟨r3,e3,c3,d3⟩:=aH s.Body (m-((v+1+s.Name.length / 64+r1+r2:Nat):Int)) (by omega) (by omega) (by omega) (by omega) a5
      rw [e3];simp only [al];have as':(v+1+s.Name.length / 64+r1+r2+r3:Nat)≤m+576460752303423500:=by split at c3<;>omega
      rw [show atY (((v+1+s.Name.length / 64+r1+r2:Nat):Int)+(r3:Int))=((v+1+s.Name.length / 64+r1+r2+r3:Nat):Int)by rw [wr]<;>omega]
      rw [show atY (m-((v+1+s.Name.length / 64+r1+r2+r3:Nat):Int))=m-((v+1+s.Name.length / 64+r1+r2+r3:Nat):Int)by rw [wr]<;>omega]
      obtain⟨bj,h',c4,d4⟩:=aH s.bx (m-((v+1+s.Name.length / 64+r1+r2+r3:Nat):Int)) (by omega) (by omega) (by omega) (by omega) qu
      rw [h'];simp only [al];have as_:(v+1+s.Name.length / 64+r1+r2+r3+bj:Nat)≤m+576460752303423500:=by split at c4<;>omega
      rw [show atY (((v+1+s.Name.length / 64+r1+r2+r3:Nat):Int)+(bj:Int))=((v+1+s.Name.length / 64+r1+r2+r3+bj:Nat):Int)by rw [wr]<;>omega]
      rw [bv (by omega)]
      obtain⟨r,f1,f2,f3,f4⟩:=A0 (i+1) (v+1+s.Name.length / 64+r1+r2+r3+bj) (by omega) (by omega) (by omega) (by omega)
      refine⟨r,f1,by omega,f3,λai=>?_⟩
      have h0:=f4 ai;have Z:=d1 (by omega)
      have aa:=d2 (by omega)
      have aj:=d3 (by omega)
      have aC:=d4 (by omega)
      rw [e8 l i default hi,hs];have:=ang s
      simp only [qt];omega
     ·simp only [hi,aw,atF,atG,Bool.and_false,atI];exact⟨v,rfl,Nat.le_refl _,g4,λh=>absurd h aw⟩
    ·rw [gu l i hi];simp only [hi,atG,Bool.false_and,atI];exact⟨v,rfl,Nat.le_refl _,g4,λh=>rfl⟩
  obtain⟨r,f1,f2,f3,f4⟩:=gN n 0 0 (by omega) (by omega) (by omega) (by split<;>omega)
  exact⟨r,f1,f3,λai=>by rw [f4 ai,List.drop_zero];omega⟩
def qv(p:bc):Prop:=p.Name.length≤9223372036854775807∧p.Params.length≤9223372036854775807∧(∀i,i<p.Params.length→(p.Params.getD i default).Name.length≤9223372036854775807)∧rB p.Body
def abI:∀l:List Param,(∀i,i<l.length→(l.getD i default).Name.length≤200)→h2 l≤400*l.length
 |[],_=>Nat.le_refl _
 |x::l,h=>by
  have h0:=h 0 (by simp)
  have Z:=abI l λi hi=>by have:=h (i+1) (by simpa using hi);simpa using this
  simp only [List.getD_cons_zero]at h0;simp only [h2,atL];omega
def LS(p:bc)(m:Nat):Prop:=p.Name.length≤200∧p.Params.length≤40∧h2 p.Params≤16000∧qt p.Body≤m
def ank{n:Nat}(p:bc)(m:Nat)(hm:m≤1000)(hn:1100≤n)(hp:qv p):∃b,Eo n p (m:Int)=some b∧(b=true→LS p m):=by
 obtain⟨Z,aa,aj,aC⟩:=hp;simp only [Eo,dt];by_cases hc:40<p.Params.length∨200<p.Name.length
 ·rw [show(decide (40<((p.Params.length:Nat):Int))||decide (200<((p.Name.length:Nat):Int)))=true by
   rcases hc with h|h
   ·rw [decide_eq_true (show 40<((p.Params.length:Nat):Int)by omega)];rfl
   ·rw [decide_eq_true (show 200<((p.Name.length:Nat):Int)by omega),atT]]
  exact⟨false,rfl,λh=>by cases h⟩
 ·rw [show(
   decide (40<((p.Params.length:Nat):Int))||decide (200<((p.Name.length:Nat):Int)))=false by
   rw [decide_eq_false (show¬ 40<((p.Params.length:Nat):Int)by omega),decide_eq_false (show¬ 200<((p.Name.length:Nat):Int)by omega)];rfl]
  simp only [atI]
  have gN:∀k i,p.Params.length<i+k→i≤p.Params.length→(∀j,j<i→(p.Params.getD j default).Name.length≤200)→∃b,En n (m:Int) p k (i:Int)=some b∧(b=true→LS p m):=by
   intro k;induction k with
   |zero=>intro i g1 g2;omega
   |succ k A0=>
    intro i g1 g2 g3;simp only [En,Si,Sh,atO,atN];by_cases hi:i<p.Params.length
    ·simp only [hi,atF,atH,bI hi,aL];by_cases hx:200<(p.Params.getD i default).Name.length
     ·rw [decide_eq_true (show 200<(((p.Params.getD i default).Name.length:Nat):Int)by omega)]
      exact⟨false,rfl,λh=>by cases h⟩
     ·rw [decide_eq_false (show¬ 200<(((p.Params.getD i default).Name.length:Nat):Int)by omega),bv (by omega)]
      exact A0 (i+1) (by omega) (by omega) λj hj=>by
       by_cases h:j<i
       ·exact g3 j h
       ·obtain rfl:j=i:=by omega
        omega
    ·simp only [hi,atG,atI];obtain⟨r,f1,f2,f3⟩:=anj n p.Body (m:Int) (by omega) (by omega) (by omega) (by omega) aC
     rw [f1];refine⟨_,rfl,λhb=>?_⟩
     have hb:=of_decide_eq_true hb;have:=f3 hb
     have aW:=abI p.Params λj hj=>g3 j (by omega)
     exact⟨by omega,by omega,by omega,by omega⟩
  exact gN n 0 (by omega) (by omega) λj hj=>by omega
open Go Go.Ab Go.Proofs
abbrev ej:Expr:=⟨0,0,[],[]⟩
def iK(e:Expr):Prop:=gK e∧fE e≤12
def Fu(s:Stmt):Prop:=
 ((s.Op=1∨s.Op=2)∧s=⟨s.Op,s.Name,0,s.A,ej,[],[]⟩∧gv s.Name=true∧iK s.A)∨
 (s=⟨3,[],0,s.A,s.B,[],[]⟩∧iK s.A∧iK s.B)∨
 ((s.Op=4∨s.Op=7)∧s=⟨s.Op,[],0,s.A,ej,[],[]⟩∧iK s.A)∨
 (s=⟨5,[],0,s.A,ej,s.Body,s.bx⟩∧iK s.A)∨
 (s=⟨6,s.Name,s.Max,s.A,s.B,s.Body,[]⟩∧gv s.Name=true∧(1≤s.Max∧s.Max≤16)∧iK s.A∧iK s.B)∨
 (s=⟨8,[],s.Max,ej,ej,[],[]⟩∧0≤s.Max∧s.Max≤999)
mutual
def s9:Stmt→Nat→Prop
 |⟨Op,Name,Max,A,B,Body,bx⟩,d=>d≤12∧Fu ⟨Op,Name,Max,A,B,Body,bx⟩∧ko Body (d+1)∧ko bx (d+1)
def ko:List Stmt→Nat→Prop
 |[],_=>True
 |s::l,d=>s9 s d∧ko l d
end
def uG(s:Stmt)(d:Nat):s9 s d↔d≤12∧Fu s∧ko s.Body (d+1)∧ko s.bx (d+1):=by cases s;rfl
def xm{e:Expr}(h:nb e=true):e=ej:=by
 obtain⟨a,b,c,l⟩:=e;unfold nb at h;simp only [Bool.and_eq_true,decide_eq_true_eq]at h;obtain⟨⟨⟨rfl,rfl⟩,rfl⟩,h⟩:=h;rw [List.length_eq_zero_iff]at h;subst h;rfl
def s'{e:Expr}(hi:mH e)(h:gS e 1=0):iK e:=by
 obtain⟨Z,aa⟩:=ane (fE e) e 1 (Nat.le_refl _) hi h (by omega)
 exact⟨Z,by omega⟩
def anl{s:Stmt}{d:Int}(hi:rA s)(h:km s d=0):d≤12∧Fu s:=by
 obtain⟨i1,i2,i3,i4,i5,i6⟩:=(TY s).1 hi;unfold km at h;split at h
 ·omega
 rename_i g1;split at h
 ·omega
 rename_i g2;split at h
 ·rename_i g;exact absurd h g.2
 rename_i g3;split at h
 ·rename_i g;exact absurd h g.2
 rename_i g4;split at h
 ·omega
 rename_i g5;refine⟨by omega,?_⟩
 simp only [not_or,not_and,Bool.not_eq_false,Bool.not_eq_true,Decidable.not_not]at g1 g2 g3 g4;obtain⟨aZ,a2,a3⟩:=g1
 have dV:1≤s.Op∧s.Op≤8:=by
  by_cases bm:1≤s.Op∧s.Op≤8
  ·exact bm
  ·rw [show jX s.Op=(⟨false,false,false,false,false,false⟩,false) by
    unfold jX;rw [if_neg (by omega),if_neg (by omega),if_neg (by omega),if_neg (by omega),if_neg (by omega),if_neg (by omega)]]at aZ
   cases aZ
 obtain⟨Op,Name,Max,A,B,Body,bx⟩:=s;simp only at *
 obtain rfl|rfl|rfl|rfl|rfl|rfl|rfl|rfl:Op=1∨Op=2∨Op=3∨Op=4∨Op=5∨Op=6∨Op=7∨Op=8:=by omega
 all_goals
  simp only [AO,ry,jX]at a2 a3 g2 g3 g4;simp [-List.length_eq_zero_iff]at a2 a3 g2 g3 g4
 all_goals unfold Fu;simp only []
 ·obtain⟨⟨⟨cL,rfl⟩,Z⟩,aa⟩:=a2;obtain rfl:=xm cL;obtain rfl:=List.eq_nil_of_length_eq_zero Z;obtain rfl:=List.eq_nil_of_length_eq_zero aa;exact Or.inl ⟨Or.inl trivial,rfl,g2,s' i3 g3⟩
 ·obtain⟨⟨⟨cL,rfl⟩,Z⟩,aa⟩:=a2;obtain rfl:=xm cL;obtain rfl:=List.eq_nil_of_length_eq_zero Z;obtain rfl:=List.eq_nil_of_length_eq_zero aa;exact Or.inl ⟨Or.inr trivial,rfl,g2,s' i3 g3⟩
 ·obtain⟨⟨⟨rfl,rfl⟩,Z⟩,aa⟩:=a2;obtain rfl:=List.eq_nil_of_length_eq_zero Z;obtain rfl:=List.eq_nil_of_length_eq_zero aa;exact Or.inr (Or.inl ⟨rfl,s' i3 g3,s' i4 g4⟩)
 ·obtain⟨⟨⟨⟨rfl,cL⟩,rfl⟩,Z⟩,aa⟩:=a2;obtain rfl:=xm cL;obtain rfl:=List.eq_nil_of_length_eq_zero Z;obtain rfl:=List.eq_nil_of_length_eq_zero aa;exact Or.inr (Or.inr (Or.inl ⟨Or.inl trivial,rfl,s' i3 g3⟩))
 ·obtain⟨⟨rfl,cL⟩,rfl⟩:=a2;obtain rfl:=xm cL;exact Or.inr (Or.inr (Or.inr (Or.inl ⟨rfl,s' i3 g3⟩)))
 ·obtain rfl:=List.eq_nil_of_length_eq_zero a2;exact Or.inr (Or.inr (Or.inr (Or.inr (Or.inl ⟨rfl,g2,a3,s' i3 g3,s' i4 g4⟩))))
 ·obtain⟨⟨⟨⟨rfl,cL⟩,rfl⟩,Z⟩,aa⟩:=a2;obtain rfl:=xm cL;obtain rfl:=List.eq_nil_of_length_eq_zero Z;obtain rfl:=List.eq_nil_of_length_eq_zero aa;exact Or.inr (Or.inr (Or.inl ⟨Or.inr trivial,rfl,s' i3 g3⟩))
 ·obtain⟨⟨⟨⟨rfl,aN⟩,cL⟩,Z⟩,aa⟩:=a2;obtain rfl:=xm aN;obtain rfl:=xm cL;obtain rfl:=List.eq_nil_of_length_eq_zero Z;obtain rfl:=List.eq_nil_of_length_eq_zero aa;exact Or.inr (Or.inr (Or.inr (Or.inr (Or.inr ⟨rfl,a3⟩))))
mutual
def abJ:∀(s:Stmt) (d:Int) (r:Nat×Int),(qo s d r).2=0→r.2=0∧km s d=0
 |⟨Op,Name,Max,A,B,Body,bx⟩,d,r,h=>by
  simp only [qo]at h;have Z:=Fv Body _ _ (Fv bx _ _ h);simp only at Z
  by_cases h0:r.2=0
  ·rw [if_pos h0]at Z;exact⟨h0,Z⟩
  ·rw [if_neg h0]at Z;exact absurd Z h0
def Fv:∀(l:List Stmt) (d:Int) (r:Nat×Int),(h3 l d r).2=0→r.2=0
 |[],d,r,h=>h
 |s::l,d,r,h=>by
  simp only [h3]at h;split at h
  ·exact h
  ·exact(abJ s d r (Fv l d _ h)).1
end
mutual
def anm:∀(s:Stmt) (d:Nat) (r:Nat×Int),rA s→(qo s (d:Int) r).1≠0→(qo s (d:Int) r).2=0→s9 s d
 |⟨Op,Name,Max,A,B,Body,bx⟩,d,r,hi,Z,aa=>by
  have hs:=anl hi (abJ _ _ _ aa).2;obtain⟨i1,i2,i3,i4,i5,i6⟩:=(TY _).1 hi;have hd:atY ((d:Int)+1)=((d+1:Nat):Int):=by rw [wr]<;>omega
  simp only [qo,hd]at Z aa;have c_:=Fv _ _ _ aa;have ak:=uD bx ((d+1:Nat):Int) (h3 Body ((d+1:Nat):Int) (jY B (jY A (r.1-1)),if r.2=0 then km ⟨Op,Name,Max,A,B,Body,bx⟩ d else r.2))
  exact⟨by omega,hs.2,LT Body (d+1) _ i5 (by omega) c_,LT bx (d+1) _ i6 Z aa⟩
def LT:∀(l:List Stmt) (d:Nat) (r:Nat×Int),rB l→(h3 l (d:Int) r).1≠0→(h3 l (d:Int) r).2=0→ko l d
 |[],d,r,_,_,_=>trivial
 |s::l,d,r,hi,Z,aa=>by
  simp only [h3]at Z aa;split at Z
  ·rename_i h;exact absurd h Z
  ·rename_i h;rw [if_neg h]at aa;have k:=uD l (d:Int) (qo s (d:Int) r);exact⟨anm s d r hi.1 (by omega) (Fv _ _ _ aa),LT l d _ hi.2 Z aa⟩
end
def LU(p:bc):Prop:=gv p.Name=true∧qm p.Params=0∧ko p.Body 1
def LV{p:bc}(hi:qv p)(h:mB p=0):LU p:=by
 unfold mB at h;split at h
 ·omega
 rename_i g1;split at h
 ·rename_i g;exact absurd h g
 rename_i g2;split at h
 ·omega
 rename_i g3;simp only [Bool.not_eq_false,Decidable.not_not]at g1 g2;exact⟨g1,g2,LT p.Body 1 (401,0) hi.2.2.2 (λe=>g3 ⟨h,e⟩) h⟩
open Go Go.Ab Go.Proofs
def ind:Nat→atW
 | 0=>[]
 |d+1=>32::32::32::32::ind d
def cat:List atW→atW
 |[]=>[]
 |x::l=>x++cat l
def dp(d:Nat)(l:List atW):atW:=ind d++(cat l++[10])
abbrev e9(e:Expr):atW:=flat (bR e)
abbrev fL(e:Expr):List Token:=da (bR e)
mutual
def en:Stmt→Nat→atW
 |⟨Op,Name,Max,A,B,Body,bx⟩,d=>
  if Op=1 then dp d [[108,101,116,32],Name,[32,61,32],e9 A,[59]]
  else if Op=2 then dp d [Name,[32,61,32],e9 A,[59]]
  else if Op=3 then dp d [[112,117,116,32],e9 A,[32,61,32],e9 B,[59]]
  else if Op=4 then dp d [[100,101,108,101,116,101,32],e9 A,[59]]
  else if Op=5 then dp d [[105,102,32],e9 A,[32,123]]++(fz Body (d+1)++((if bx.length=0 then[]else dp d [[125,32,101,108,115,101,32,123]]++fz bx (d+1))++dp d [[125]]))
  else if Op=6 then dp d [[102,111,114,32],Name,[32,61,32],e9 A,[32,116,111,32],e9 B,[32,109,97,120,32],Lib.decDigits Max.toNat,[32,123]]++(fz Body (d+1)++dp d [[125]])
  else if Op=7 then dp d [[101,109,105,116,32],e9 A,[59]]
  else dp d [[97,98,111,114,116,32],Lib.decDigits Max.toNat,[59]]
def fz:List Stmt→Nat→atW
 |[],_=>[]
 |s::l,d=>en s d++fz l d
end
mutual
def eE:Stmt→List Token
 |⟨Op,Name,Max,A,B,Body,bx⟩=>
  if Op=1 then dD [108,101,116]::hR Name::bb [61]::(fL A++[bb [59]])
  else if Op=2 then hR Name::bb [61]::(fL A++[bb [59]])
  else if Op=3 then dD [112,117,116]::(fL A++bb [61]::(fL B++[bb [59]]))
  else if Op=4 then dD [100,101,108,101,116,101]::(fL A++[bb [59]])
  else if Op=5 then dD [105,102]::(fL A++bb [123]::(ga Body++bb [125]::(if bx.length=0 then[]else dD [101,108,115,101]::bb [123]::(ga bx++[bb [125]]))))
  else if Op=6 then dD [102,111,114]::hR Name::bb [61]::(fL A++dD [116,111]::(fL B++dD [109,97,120]::nO Max::bb [123]::(ga Body++[bb [125]])))
  else if Op=7 then dD [101,109,105,116]::(fL A++[bb [59]])
  else[dD [97,98,111,114,116],nO Max,bb [59]]
def ga:List Stmt→List Token
 |[]=>[]
 |s::l=>eE s++ga l
end
def pq{r:atW}{T:List Token}(h:eH r T):∀d,eH (ind d++r) T
 | 0=>h
 |d+1=>mE (mE (mE (mE (pq h d))))
def qw{w r:atW}{T:List Token}(hw:w∈ph)(h:eH r T):eH (w++32::r) (dD w::T):=lb (t:=dD w) (uE hw) AQ (mE h)
def Fw{w r:atW}{T:List Token}(hw:gv w=true)(hb:nN r)(h:eH r T):eH (w++r) (hR w::T):=lb (t:=hR w) (abe hw) (Fm (by simp [hR,nO]) hb) h
def abK{n:Int}{r:atW}{T:List Token}(h0:0≤n)(Z:n≤9223372036854775807)(hb:nN r)(h:eH r T):eH (Lib.decDigits n.toNat++r) (nO n::T):=lb (t:=nO n) (abf h0 Z) (Fm (by simp [hR,nO]) hb) h
def LW{r:atW}{T:List Token}(h:eH r T):eH (32::61::32::r) (bb [61]::T):=mE (lb (t:=bb [61]) (pm (by decide)) AQ (mE h))
def A1{r:atW}{T:List Token}(h:eH r T):eH (59::10::r) (bb [59]::T):=lb (t:=bb [59]) (pm (by decide)) TD (TC h)
def Fx{r:atW}{T:List Token}(h:eH r T):eH (32::123::10::r) (bb [123]::T):=mE (lb (t:=bb [123]) (pm (by decide)) TD (TC h))
def LX{r:atW}{T:List Token}(d:Nat)(h:eH r T):eH (dp d [[125]]++r) (bb [125]::T):=by
 have e:dp d [[125]]++r=ind d++(125::10::r):=by simp [dp,cat]
 rw [e];exact pq (lb (t:=bb [125]) (pm (by decide)) TD (TC h)) d
def rC{e:Expr}{r:atW}{T:List Token}(he:gK e)(hb:nN r)(h:eH r T):eH (e9 e++r) (fL e++T):=abh e he r T hb h
mutual
def ann:∀(s:Stmt) (d dE:Nat),s9 s dE→∀(r:atW) (T:List Token),eH r T→eH (en s d++r) (eE s++T)
 |⟨Op,Name,Max,A,B,Body,bx⟩,d,dE,h,r,T,aG=>by
  obtain⟨_,hs,c',fA⟩:=(uG _ _).1 h;have xn:=LY Body (d+1) _ c';have LZ:=LY bx (d+1) _ fA;rcases hs with⟨av,ao,hn,aN⟩|⟨ao,aN,cL⟩|⟨av,ao,aN⟩|⟨ao,aN⟩|⟨ao,hn,hm,aN,cL⟩|⟨ao,hm⟩
  ·simp only [Stmt.mk.injEq,true_and,and_true]at ao av;obtain⟨rfl,rfl,rfl,rfl⟩:=ao;rcases av with rfl|rfl
   ·have e:en ⟨1,Name,0,A,ej,[],[]⟩ d++r=ind d++([108,101,116]++32::(Name++32::61::32::(e9 A++59::10::r))):=by simp [en,dp,cat]
    have e2:eE ⟨1,Name,0,A,ej,[],[]⟩++T=dD [108,101,116]::hR Name::bb [61]::(fL A++bb [59]::T):=by simp [eE]
    rw [e,e2];exact pq (qw (by decide) (Fw hn (i_ rfl) (LW (rC aN.1 (i_ rfl) (A1 aG))))) d
   ·have e:en ⟨2,Name,0,A,ej,[],[]⟩ d++r=ind d++(Name++32::61::32::(e9 A++59::10::r)):=by simp [en,dp,cat]
    have e2:eE ⟨2,Name,0,A,ej,[],[]⟩++T=hR Name::bb [61]::(fL A++bb [59]::T):=by simp [eE]
    rw [e,e2];exact pq (Fw hn (i_ rfl) (LW (rC aN.1 (i_ rfl) (A1 aG)))) d
  ·simp only [Stmt.mk.injEq,true_and,and_true]at ao;obtain⟨rfl,rfl,rfl,rfl,rfl⟩:=ao;have e:en ⟨3,[],0,A,B,[],[]⟩ d++r=ind d++([112,117,116]++32::(e9 A++32::61::32::(e9 B++59::10::r))):=by simp [en,dp,cat]
   have e2:eE ⟨3,[],0,A,B,[],[]⟩++T=dD [112,117,116]::(fL A++bb [61]::(fL B++bb [59]::T)):=by simp [eE]
   rw [e,e2];exact pq (qw (by decide) (rC aN.1 (i_ rfl) (LW (rC cL.1 (i_ rfl) (A1 aG))))) d
  ·simp only [Stmt.mk.injEq,true_and,and_true]at ao av;obtain⟨rfl,rfl,rfl,rfl,rfl⟩:=ao;rcases av with rfl|rfl
   ·have e:en ⟨4,[],0,A,ej,[],[]⟩ d++r=ind d++([100,101,108,101,116,101]++32::(e9 A++59::10::r)):=by simp [en,dp,cat]
    have e2:eE ⟨4,[],0,A,ej,[],[]⟩++T=dD [100,101,108,101,116,101]::(fL A++bb [59]::T):=by simp [eE]
    rw [e,e2];exact pq (qw (by decide) (rC aN.1 (i_ rfl) (A1 aG))) d
   ·have e:en ⟨7,[],0,A,ej,[],[]⟩ d++r=ind d++([101,109,105,116]++32::(e9 A++59::10::r)):=by simp [en,dp,cat]
    have e2:eE ⟨7,[],0,A,ej,[],[]⟩++T=dD [101,109,105,116]::(fL A++bb [59]::T):=by simp [eE]
    rw [e,e2];exact pq (qw (by decide) (rC aN.1 (i_ rfl) (A1 aG))) d
  ·simp only [Stmt.mk.injEq,true_and,and_true]at ao;obtain⟨rfl,rfl,rfl,rfl⟩:=ao;by_cases ab:bx.length=0
   ·have e:en ⟨5,[],0,A,ej,Body,bx⟩ d++r=ind d++([105,102]++32::(e9 A++32::123::10::(fz Body (d+1)++(dp d [[125]]++r)))):=by
     simp only [en,ab];simp [dp,cat]
    have e2:eE ⟨5,[],0,A,ej,Body,bx⟩++T=dD [105,102]::(fL A++bb [123]::(ga Body++bb [125]::T)):=by simp only [eE,ab];simp
    rw [e,e2];exact pq (qw (by decide) (rC aN.1 (i_ rfl) (Fx (xn _ _ (LX d aG))))) d
   ·have e:en ⟨5,[],0,A,ej,Body,bx⟩ d++r=ind d++([105,102]++32::(e9 A++32::123::10::(fz Body (d+1)++(ind d++(125::32::([101,108,115,101]++32::123::10::(fz bx (d+1)++(dp d [[125]]++r)))))))):=by
     simp only [en,ab];simp [dp,cat]
    have e2:eE ⟨5,[],0,A,ej,Body,bx⟩++T=dD [105,102]::(fL A++bb [123]::(ga Body++bb [125]::dD [101,108,115,101]::bb [123]::(ga bx++bb [125]::T))):=by simp only [eE,ab];simp
    rw [e,e2];exact pq (qw (by decide) (rC aN.1 (i_ rfl) (Fx (xn _ _ (pq (lb (t:=bb [125]) (pm (by decide)) AQ (mE (lb (t:=dD [101,108,115,101]) (uE (by decide)) AQ (Fx (LZ _ _ (LX d aG)))))) d))))) d
  ·simp only [Stmt.mk.injEq,true_and,and_true]at ao;obtain⟨rfl,rfl⟩:=ao;have hm:1≤Max∧Max≤16:=hm
   have e:en ⟨6,Name,Max,A,B,Body,[]⟩ d++r=ind d++([102,111,114]++32::(Name++32::61::32::(e9 A++32::([116,111]++32::(e9 B++32::([109,97,120]++32::(Lib.decDigits Max.toNat++32::123::10::(fz Body (d+1)++(dp d [[125]]++r))))))))):=by
    simp [en,dp,cat]
   have e2:eE ⟨6,Name,Max,A,B,Body,[]⟩++T=dD [102,111,114]::hR Name::bb [61]::(fL A++dD [116,111]::(fL B++dD [109,97,120]::nO Max::bb [123]::(ga Body++bb [125]::T))):=by simp [eE]
   rw [e,e2];exact pq (qw (by decide) (Fw hn (i_ rfl) (LW (rC aN.1 (i_ rfl) (mE (qw (by decide) (rC cL.1 (i_ rfl) (mE (qw (by decide) (abK (by omega) (by omega) (i_ rfl) (Fx (xn _ _ (LX d aG))))))))))))) d
  ·simp only [Stmt.mk.injEq,true_and,and_true]at ao;obtain⟨rfl,rfl,rfl,rfl,rfl,rfl⟩:=ao;have hm:0≤Max∧Max≤999:=hm;have e:en ⟨8,[],Max,ej,ej,[],[]⟩ d++r=ind d++([97,98,111,114,116]++32::(Lib.decDigits Max.toNat++59::10::r)):=by simp [en,dp,cat]
   have e2:eE ⟨8,[],Max,ej,ej,[],[]⟩++T=dD [97,98,111,114,116]::nO Max::bb [59]::T:=by simp [eE]
   rw [e,e2];exact pq (qw (by decide) (abK (by omega) (by omega) (i_ rfl) (A1 aG))) d
def LY:∀(l:List Stmt) (d dE:Nat),ko l dE→∀(r:atW) (T:List Token),eH r T→eH (fz l d++r) (ga l++T)
 |[],d,dE,h,r,T,aG=>aG
 |s::l,d,dE,h,r,T,aG=>by
  have:=ann s d dE h.1 _ _ (LY l d dE h.2 r T aG)
  simp only [fz,ga,List.append_assoc];exact this
end
open Go Go.Ab Go.Proofs
def abL(n:Nat)(s b:atW)(x:Int)(h:b.length+s.length≤1000000000):CY n s (fR b) x=some (((s.length:Nat):Int),fR (b++s)):=by
 unfold CY yP;rw [show(fR b).length+s.length=b.length+s.length by simp [fR],TP (by omega)]
 simp [fR,al,aL]
def ano(n:Nat)(b:atW)(x:Int)(h:b.length≤1000000000):HW n 10 (fR b) x=some (fR (b++[10])):=by
 unfold HW yP;rw [show(fR b).length+([10]:List Int).length=b.length+1 by simp [fR],TP (by omega)]
 simp [fR,al,aL]
def TZ:∀l m:List atW,cat (l++m)=cat l++cat m
 |[],m=>rfl
 |x::l,m=>by simp only [List.cons_append,cat,TZ l m,List.append_assoc]
def T0:∀d,ind (d+1)=ind d++[32,32,32,32]
 | 0=>rfl
 |d+1=>by
  show 32::32::32::32::ind (d+1)=(32::32::32::32::ind d)++[32,32,32,32]
  rw [T0 d];rfl
def Fy:∀d,(ind d).length=4*d
 | 0=>rfl
 |d+1=>by simp only [ind,atL,Fy d];omega
def anp(n:Nat)(parts:List atW)(d:Nat)(b:atW)(ab:b.length+(cat parts).length≤1000000000)(hp:parts.length≤1000):∀m i,parts.length<i+m→i≤parts.length→
 CZ n parts (d:Int) m (fR (b++cat (parts.take i))) (i:Int)=some (fR (b++(cat parts++[10]))):=by
 intro m;induction m with
 |zero=>intro i Z aa;omega
 |succ m aH=>
  intro i Z aa;have hc:cat parts=cat (parts.take i)++cat (parts.drop i):=by rw [←TZ,List.take_append_drop]
  have gJ:(cat parts).length=(cat (parts.take i)).length+(cat (parts.drop i)).length:=by rw [hc,atP]
  simp only [CZ,Pp,Po,atO,atN];by_cases hi:i<parts.length
  ·rw [e8 parts i default hi]at gJ;simp only [cat,atP]at gJ;simp only [hi,atF,atH,bI hi,aL];rw [abL n _ _ _ (by rw [atP];omega),bv (by omega)]
   simp only [al];have:=aH (i+1) (by omega) (by omega)
   rw [xh parts i hi,TZ]at this;simp only [cat,List.append_nil]at this;rw [List.append_assoc];exact this
  ·simp only [hi,atG,atI];obtain rfl:i=parts.length:=by omega
   rw [List.take_length,ano n _ _ (by rw [atP];omega)]
   simp only [al,List.append_assoc]
def nR{n:Nat}(parts:List atW)(d:Nat)(b:atW)(ab:b.length+(cat parts).length≤900000000)(hp:parts.length≤10)(hd:d≤100)(hn:200≤n):
 mt n parts (fR b) (d:Int)=some (fR (b++dp d parts)):=by
 have gN:∀m i,d<i+m→i≤d→C0 n parts (d:Int) m (fR (b++ind i)) (i:Int)=some (fR (b++dp d parts)):=by
  intro m;induction m with
  |zero=>intro i Z aa;omega
  |succ m aH=>
   intro i Z aa;have M7:=Fy i;simp only [C0,Pr,Pq,atO];by_cases hi:i<d
   ·simp only [hi,atF,atH];rw [abL n _ _ _ (by simp only [atP,atL,atM];omega),bv (by omega)]
    simp only [al];have:=aH (i+1) (by omega) (by omega)
    rw [T0]at this;rw [List.append_assoc];exact this
   ·simp only [hi,atG,atI];obtain rfl:i=d:=by omega
    have:=anp n parts i (b++ind i) (by rw [atP];omega) (by omega) n 0 (by omega) (by omega)
    simp only [List.take_zero,cat,List.append_nil]at this;rw [show((0:Nat):Int)=0 from rfl]at this
    rw [this,dp,List.append_assoc]
 have:=gN n 0 (by omega) (by omega)
 simp only [ind,List.append_nil]at this;exact this
def lN(d:Nat)(l:List atW):(dp d l).length=4*d+(cat l).length+1:=by
 unfold dp;simp only [atP,Fy,atL,atM];omega
def mI{e:Expr}(h:iK e):(e9 e).length≤4*dd e:=qS (fE e) e (Nat.le_refl _) h.1
mutual
def abM:∀(s:Stmt) (d:Nat),s9 s d→(en s d).length≤4*fst s
 |⟨Op,Name,Max,A,B,Body,bx⟩,d,h=>by
  obtain⟨hd,hs,c',fA⟩:=(uG _ _).1 h;have xn:=oF Body (d+1) c';have LZ:=oF bx (d+1) fA;rcases hs with⟨av,ao,hn,aN⟩|⟨ao,aN,cL⟩|⟨av,ao,aN⟩|⟨ao,aN⟩|⟨ao,hn,hm,aN,cL⟩|⟨ao,hm⟩
  ·simp only [Stmt.mk.injEq,true_and,and_true]at ao av;obtain⟨rfl,rfl,rfl,rfl⟩:=ao;have Z:=mI aN;have aa:=pp hn;simp only at Z aa
   rcases av with rfl|rfl
   ·rw [show en ⟨1,Name,0,A,ej,[],[]⟩ d=dp d [[108,101,116,32],Name,[32,61,32],e9 A,[59]]by simp [en],lN]
    simp only [cat,fst,atP,atL,atM];omega
   ·rw [show en ⟨2,Name,0,A,ej,[],[]⟩ d=dp d [Name,[32,61,32],e9 A,[59]]by simp [en],lN]
    simp only [cat,fst,atP,atL,atM];omega
  ·simp only [Stmt.mk.injEq,true_and,and_true]at ao;obtain⟨rfl,rfl,rfl,rfl,rfl⟩:=ao;have Z:=mI aN;have aa:=mI cL;simp only at Z aa
   rw [show en ⟨3,[],0,A,B,[],[]⟩ d=dp d [[112,117,116,32],e9 A,[32,61,32],e9 B,[59]]by simp [en],lN]
   simp only [cat,fst,atP,atL,atM];omega
  ·simp only [Stmt.mk.injEq,true_and,and_true]at ao av;obtain⟨rfl,rfl,rfl,rfl,rfl⟩:=ao;have Z:=mI aN;simp only at Z
   rcases av with rfl|rfl
   ·rw [show en ⟨4,[],0,A,ej,[],[]⟩ d=dp d [[100,101,108,101,116,101,32],e9 A,[59]]by simp [en],lN]
    simp only [cat,fst,atP,atL,atM];omega
   ·rw [show en ⟨7,[],0,A,ej,[],[]⟩ d=dp d [[101,109,105,116,32],e9 A,[59]]by simp [en],lN]
    simp only [cat,fst,atP,atL,atM];omega
  ·simp only [Stmt.mk.injEq,true_and,and_true]at ao;obtain⟨rfl,rfl,rfl,rfl⟩:=ao;have Z:=mI aN;simp only at Z
   have aa:(en ⟨5,[],0,A,ej,Body,bx⟩ d).length≤(dp d [[105,102,32],e9 A,[32,123]]).length+((fz Body (d+1)).length+(((dp d [[125,32,101,108,115,101,32,123]]).length+(fz bx (d+1)).length)+(dp d [[125]]).length)):=by
    by_cases ab:bx.length=0
    ·simp [en,ab]
    ·simp [en,ab];omega
   simp only [lN,cat,atP,atL,atM]at aa;simp only [fst];omega
  ·simp only [Stmt.mk.injEq,true_and,and_true]at ao;obtain⟨rfl,rfl⟩:=ao;have hm:1≤Max∧Max≤16:=hm;have Z:=mI aN;have aa:=mI cL;have aj:=pp hn;have aC:=AX Max (by omega) (by omega)
   simp only at Z aa aj
   have aT:en ⟨6,Name,Max,A,B,Body,[]⟩ d=dp d [[102,111,114,32],Name,[32,61,32],e9 A,[32,116,111,32],e9 B,[32,109,97,120,32],Lib.decDigits Max.toNat,[32,123]]++(fz Body (d+1)++dp d [[125]]):=by simp [en]
   rw [aT];simp only [lN,cat,fst,atP,atL,atM];omega
  ·simp only [Stmt.mk.injEq,true_and,and_true]at ao;obtain⟨rfl,rfl,rfl,rfl,rfl,rfl⟩:=ao;have hm:0≤Max∧Max≤999:=hm;have aC:=AX Max (by omega) (by omega)
   rw [show en ⟨8,[],Max,ej,ej,[],[]⟩ d=dp d [[97,98,111,114,116,32],Lib.decDigits Max.toNat,[59]]by simp [en],lN]
   simp only [cat,fst,atP,atL,atM];omega
def oF:∀(l:List Stmt) (d:Nat),ko l d→(fz l d).length≤4*du l
 |[],d,h=>Nat.le_refl _
 |s::l,d,h=>by
  have Z:=abM s d h.1;have aa:=oF l d h.2;simp only [fz,du,atP];omega
end
def abN(n:Nat)(i:Int)(h0:0≤i)(Z:i≤9223372036854775807):wb n i=some (Lib.decDigits i.toNat):=aby n i h0 Z
open Go Go.Ab Go.Proofs
def anq(n:Nat):rc (n+1)=H5 n (rc n) (wd n) (we n):=rfl
def anr(n:Nat):wd (n+1)=H7 n (rc n) (wd n) (we n):=rfl
def ans(n:Nat):we (n+1)=H8 n (rc n) (wd n) (we n):=rfl
def s_{n:Nat}{e:Expr}(h:iK e)(hn:300≤n)(aW:dd e≤1000000):l6 n e=some (e9 e):=am' (fE e) e n (Nat.le_refl _) h.1 (by have:=h.2;omega) aW
def ta(n:Nat)(l:List Stmt)(d:Nat)(b:atW):Prop:=rc n l (fR b) (d:Int)=some (fR (b++fz l (d+1)),(d:Int))
def ant{n d:Nat}{b:atW}{A:Expr}{Body bx:List Stmt}(aN:iK A)(aW:dd A≤300000)(hd:d≤12)(hn:400≤n)(hb:b.length≤10000000)(fk:(fz Body (d+1)).length≤10000000)(eQ:(fz bx (d+1)).length≤10000000)
 (cL:∀bG:atW,bG.length≤b.length+4*dd A+100→ta n Body d bG) (b1:∀bG:atW,bG.length≤b.length+4*dd A+200+(fz Body (d+1)).length→ta n bx d bG):
 wd (n+1) ⟨5,[],0,A,ej,Body,bx⟩ (fR b) (d:Int)=some (fR (b++en ⟨5,[],0,A,ej,Body,bx⟩ d),(d:Int)):=by
 have Z:=mI aN;rw [anr];simp only [H7,H6,i8];rw [s_ aN (by omega) (by omega)]
 simp only [al];rw [nR _ d b (by simp only [cat,atP,atL,atM];omega) (by simp) (by omega) (by omega)]
 simp only [al];have e1:=cL (b++dp d [[105,102,32],e9 A,[32,123]]) (by simp only [atP,lN,cat,atL,atM];omega)
 unfold ta at e1;rw [e1];simp only [al];by_cases ab:bx.length=0
 ·rw [show decide (0<((bx.length:Nat):Int))=false from decide_eq_false (by omega)]
  simp only [atI];rw [nR _ d _ (by simp only [atP,lN,cat,atL,atM];omega) (by simp) (by omega) (by omega)]
  simp only [al];have:en ⟨5,[],0,A,ej,Body,bx⟩ d=dp d [[105,102,32],e9 A,[32,123]]++(fz Body (d+1)++dp d [[125]]):=by simp [en,ab]
  rw [this];simp only [List.append_assoc]
 ·rw [show decide (0<((bx.length:Nat):Int))=true from decide_eq_true (by omega)]
  simp only [atH];rw [nR _ d _ (by simp only [atP,lN,cat,atL,atM];omega) (by simp) (by omega) (by omega)]
  simp only [al];have e2:=b1 (b++dp d [[105,102,32],e9 A,[32,123]]++fz Body (d+1)++dp d [[125,32,101,108,115,101,32,123]]) (by simp only [atP,lN,cat,atL,atM];omega)
  unfold ta at e2;rw [e2];simp only [al];rw [nR _ d _ (by simp only [atP,lN,cat,atL,atM];omega) (by simp) (by omega) (by omega)]
  simp only [al];have:en ⟨5,[],0,A,ej,Body,bx⟩ d=dp d [[105,102,32],e9 A,[32,123]]++(fz Body (d+1)++((dp d [[125,32,101,108,115,101,32,123]]++fz bx (d+1))++dp d [[125]])):=by simp [en,ab]
  rw [this];simp only [List.append_assoc]
def anu{n d:Nat}{b:atW}{Name:atW}{Max:Int}{A B:Expr}{Body:List Stmt}(aN:iK A)(abO:iK B)(aW:dd A≤300000)(tA:dd B≤300000)(aR:gv Name=true)(hm:1≤Max∧Max≤16)(hd:d≤12)(hn:400≤n)(hb:b.length≤10000000)(fk:(fz Body (d+1)).length≤10000000)
 (cL:∀bG:atW,bG.length≤b.length+4*dd A+4*dd B+120→ta n Body d bG):
 we (n+1) ⟨6,Name,Max,A,B,Body,[]⟩ (fR b) (d:Int)=some (fR (b++en ⟨6,Name,Max,A,B,Body,[]⟩ d),(d:Int)):=by
 have Z:=mI aN;have aa:=mI abO;have aj:=pp aR;have aC:=AX Max (by omega) (by omega)
 rw [ans];simp only [H8,i8];rw [s_ aN (by omega) (by omega),s_ abO (by omega) (by omega),abN n Max (by omega) (by omega)]
 simp only [al];rw [nR _ d b (by simp only [cat,atP,atL,atM];omega) (by simp) (by omega) (by omega)]
 simp only [al];have e1:=cL (b++dp d [[102,111,114,32],Name,[32,61,32],e9 A,[32,116,111,32],e9 B,[32,109,97,120,32],Lib.decDigits Max.toNat,[32,123]]) (by simp only [atP,lN,cat,atL,atM];omega)
 unfold ta at e1;rw [e1];simp only [al];rw [nR _ d _ (by simp only [atP,lN,cat,atL,atM];omega) (by simp) (by omega) (by omega)]
 simp only [al];have:en ⟨6,Name,Max,A,B,Body,[]⟩ d=dp d [[102,111,114,32],Name,[32,61,32],e9 A,[32,116,111,32],e9 B,[32,109,97,120,32],Lib.decDigits Max.toNat,[32,123]]++(fz Body (d+1)++dp d [[125]]):=by simp [en]
 rw [this];simp only [List.append_assoc]
def T1:∀(l:List Stmt) (i d:Nat),i<l.length→ko l d→s9 (l.getD i default) d
 |[],i,d,h,_=>by simp at h
 |x::l,0,d,h,ab=>ab.1
 |x::l,i+1,d,h,ab=>by simp only [List.getD_cons_succ];exact T1 l i d (by simpa using h) ab.2
def T2:∀(l m:List Stmt) (d:Nat),ko (l++m) d↔ko l d∧ko m d
 |[],m,d=>by simp [ko]
 |x::l,m,d=>by simp only [List.cons_append,ko,T2 l m d,and_assoc]
def T3:∀(l m:List Stmt) (d:Nat),fz (l++m) d=fz l d++fz m d
 |[],m,d=>rfl
 |x::l,m,d=>by simp only [List.cons_append,fz,T3 l m d,List.append_assoc]
def anv:∀(n:Nat) (l:List Stmt) (d:Nat) (b:atW),ko l (d+1)→d≤12→du l≤300000→2*du l+500≤n→b.length+4*du l≤9000000→ta n l d b:=by
 intro n;induction n using Nat.strongRecOn with
 |_ n aH=>
  intro l d b cE hd aW hn hb;obtain⟨n,rfl⟩:∃k,n=k+2:=⟨n-2,by omega⟩
  have hlen:=s2 l;unfold ta;rw [anq];unfold H5;rw [bv (by omega)]
  have gN:∀m i,l.length<i+m→i≤l.length→C5 (n+1) (rc (n+1)) (wd (n+1)) (we (n+1)) l m (fR (b++fz (l.take i) (d+1))) ((d+1:Nat):Int) (i:Int)=some (fR (b++fz l (d+1)),(d:Int)):=by
   intro m;induction m with
   |zero=>intro i Z aa;omega
   |succ m k8=>
    intro i Z aa;simp only [C5,PG,PF,atO,atN,i8,my];by_cases hi:i<l.length
    ·simp only [hi,atF,atH,bI hi,aL];have dx:=T1 l i (d+1) hi cE;have xe:ko (l.take i) (d+1):=((T2 (l.take i) (l.drop i) (d+1)).1 (by rw [List.take_append_drop];exact cE)).1
     have pR:=oF _ _ xe
     have ol:du l=du (l.take i)+(fst (l.getD i default)+1+du (l.drop (i+1))):=by
      have:du l=du (l.take i++l.drop i):=by rw [List.take_append_drop]
      rw [Tu,e8 l i default hi]at this;simpa only [du]using this
     have gn:=k8 (i+1) (by omega) (by omega)
     rw [xh l i hi,T3,←List.append_assoc]at gn;simp only [fz,List.append_nil]at gn;have nn:(b++fz (l.take i) (d+1)).length≤b.length+4*du (l.take i):=by rw [atP];omega
     generalize b++fz (l.take i) (d+1)=A2 at gn nn
     rw [bv (by omega)]
     generalize l.getD i default=s at dx ol gn
     have mj:=fst_eq s;obtain⟨jh,hs,c',fA⟩:=(uG _ _).1 dx;obtain⟨Op,Name,Max,A,B,Body,bx⟩:=s;simp only at mj c' fA
     rcases hs with⟨av,ao,aR,aN⟩|⟨ao,aN,cL⟩|⟨av,ao,aN⟩|⟨ao,aN⟩|⟨ao,aR,hm,aN,cL⟩|⟨ao,hm⟩
     ·simp only [Stmt.mk.injEq,true_and,and_true]at ao av;obtain⟨rfl,rfl,rfl,rfl⟩:=ao;have aj:=mI aN;have aC:=pp aR;simp only at aj aC
      rcases av with rfl|rfl
      ·simp only [show q_ (n+1) 1=some (.inl ())from rfl,al,ii.on,PB,i8]
       rw [s_ aN (by omega) (by show dd A≤_;omega)]
       simp only [al];rw [nR _ (d+1) A2 (by simp only [cat,atP,atL,atM];omega) (by simp) (by omega) (by omega)]
       simp only [al];rw [show en ⟨1,Name,0,A,ej,[],[]⟩ (d+1)=dp (d+1) [[108,101,116,32],Name,[32,61,32],e9 A,[59]]by simp [en]]at gn
       exact gn
      ·simp only [show q_ (n+1) 2=some (.inr (.inl ()))from rfl,al,ii.on,PA,i8]
       rw [s_ aN (by omega) (by show dd A≤_;omega)]
       simp only [al];rw [nR _ (d+1) A2 (by simp only [cat,atP,atL,atM];omega) (by simp) (by omega) (by omega)]
       simp only [al];rw [show en ⟨2,Name,0,A,ej,[],[]⟩ (d+1)=dp (d+1) [Name,[32,61,32],e9 A,[59]]by simp [en]]at gn
       exact gn
     ·simp only [Stmt.mk.injEq,true_and,and_true]at ao;obtain⟨rfl,rfl,rfl,rfl,rfl⟩:=ao;have aj:=mI aN;have aC:=mI cL;simp only at aj aC
      simp only [show q_ (n+1) 3=some (.inr (.inr (.inl ())))from rfl,al,ii.on,PD,i8]
      rw [s_ aN (by omega) (by show dd A≤_;omega),s_ cL (by omega) (by show dd B≤_;omega)]
      simp only [al];rw [nR _ (d+1) A2 (by simp only [cat,atP,atL,atM];omega) (by simp) (by omega) (by omega)]
      simp only [al];rw [show en ⟨3,[],0,A,B,[],[]⟩ (d+1)=dp (d+1) [[112,117,116,32],e9 A,[32,61,32],e9 B,[59]]by simp [en]]at gn
      exact gn
     ·simp only [Stmt.mk.injEq,true_and,and_true]at ao av;obtain⟨rfl,rfl,rfl,rfl,rfl⟩:=ao;have aj:=mI aN;simp only at aj
      rcases av with rfl|rfl
      ·simp only [show q_ (n+1) 4=some (.inr (.inr (.inr (.inl ()))))from rfl,al,ii.on,PE,i8]
       rw [s_ aN (by omega) (by show dd A≤_;omega)]
       simp only [al];rw [nR _ (d+1) A2 (by simp only [cat,atP,atL,atM];omega) (by simp) (by omega) (by omega)]
       simp only [al];rw [show en ⟨4,[],0,A,ej,[],[]⟩ (d+1)=dp (d+1) [[100,101,108,101,116,101,32],e9 A,[59]]by simp [en]]at gn
       exact gn
      ·simp only [show q_ (n+1) 7=some (.inr (.inr (.inr (.inr (.inr (.inr (.inl ())))))))from rfl,al,ii.on,PC,i8]
       rw [s_ aN (by omega) (by show dd A≤_;omega)]
       simp only [al];rw [nR _ (d+1) A2 (by simp only [cat,atP,atL,atM];omega) (by simp) (by omega) (by omega)]
       simp only [al];rw [show en ⟨7,[],0,A,ej,[],[]⟩ (d+1)=dp (d+1) [[101,109,105,116,32],e9 A,[59]]by simp [en]]at gn
       exact gn
     ·simp only [Stmt.mk.injEq,true_and,and_true]at ao;obtain⟨rfl,rfl,rfl,rfl⟩:=ao;have fk:=oF _ _ c';have eQ:=oF _ _ fA;simp only [show q_ (n+1) 5=some (.inr (.inr (.inr (.inr (.inl ())))))from rfl,al,ii.on]
      rw [ant (A:=A) aN (by show dd A≤_;omega) (by omega) (by omega) (by omega) (by omega) (by omega)
       (λbG bY=>aH n (by omega) Body (d+1) bG c' (by omega) (by omega) (by omega) (by omega)) (λbG bY=>aH n (by omega) bx (d+1) bG fA (by omega) (by omega) (by omega) (by omega))]
      exact gn
     ·simp only [Stmt.mk.injEq,true_and,and_true]at ao;obtain⟨rfl,rfl⟩:=ao;have fk:=oF _ _ c';simp only [show q_ (n+1) 6=some (.inr (.inr (.inr (.inr (.inr (.inl ()))))))from rfl,al,ii.on]
      rw [anu (A:=A) (B:=B) aN cL (by show dd A≤_;omega) (by show dd B≤_;omega) aR hm (by omega) (by omega) (by omega) (by omega)
       (λbG bY=>aH n (by omega) Body (d+1) bG c' (by omega) (by omega) (by omega) (by omega))]
      exact gn
     ·simp only [Stmt.mk.injEq,true_and,and_true]at ao;obtain⟨rfl,rfl,rfl,rfl,rfl,rfl⟩:=ao;have hm:0≤Max∧Max≤999:=hm;have aC:=AX Max (by omega) (by omega)
      simp only [show q_ (n+1) 8=some (.inr (.inr (.inr (.inr (.inr (.inr (.inr ())))))))from rfl,al,ii.on,Ps,i8]
      rw [abN _ Max (by omega) (by omega)]
      simp only [al];rw [nR _ (d+1) A2 (by simp only [cat,atP,atL,atM];omega) (by simp) (by omega) (by omega)]
      simp only [al];rw [show en ⟨8,[],Max,ej,ej,[],[]⟩ (d+1)=dp (d+1) [[97,98,111,114,116,32],Lib.decDigits Max.toNat,[59]]by simp [en]]at gn
      exact gn
    ·simp only [hi,atG,atI];obtain rfl:i=l.length:=by omega
     rw [List.take_length,show atY (((d+1:Nat):Int)-1)=(d:Int)by rw [wr]<;>omega]
  have:=gN (n+1) 0 (by omega) (by omega)
  simp only [List.take_zero,fz,List.append_nil]at this;exact this
open Go Go.Ab Go.Proofs
section
variable {l:List Token}
theorem nd{i n:Nat}{t:Token}{T R:List Token}{w:atW}(ab:l.length≤1000000000)(aN:ck l i (t::T) R)(h:f6 [t] w=true):kF n w ⟨l,(i:Int)⟩=some (true,((i+1:Nat):Int)):=by
 have:=aN.lt
 rw [Ff n l i w (by omega),aN.is,show f6 ((t::T)++R) w=true from h];rfl
theorem hv{i n:Nat}{t:Token}{T R:List Token}{w:atW}(ab:l.length≤1000000000)(aN:ck l i (t::T) R)(h:f6 [t] w=false):kF n w ⟨l,(i:Int)⟩=some (false,((i:Nat):Int)):=by
 have:=aN.lt
 rw [Ff n l i w (by omega),aN.is,show f6 ((t::T)++R) w=false from h];rfl
theorem qx{i n:Nat}{t:Token}{T R:List Token}{w:atW}(ab:l.length≤1000000000)(aN:ck l i (t::T) R)(h:f6 [t] w=true):kG n w ⟨l,(i:Int)⟩=some (.ret () ((i+1:Nat):Int)):=by
 have:=aN.lt
 rw [AM n l i w (by omega) (by omega),aN.is,show f6 ((t::T)++R) w=true from h];rfl
theorem A3{i n:Nat}{T R:List Token}{s:Stmt}(ab:l.length≤1000000000)(aN:ck l i (bb [59]::T) R):rj n s ⟨l,(i:Int)⟩=some (.ret s ((i+1:Nat):Int)):=by
 have:=aN.lt
 rw [alW n s l i (by omega) (by omega),aN.is];rfl
theorem xo{i n:Nat}{t:Token}{T R:List Token}{kd:Int}(ab:l.length≤1000000000)(aN:ck l i (t::T) R)(h:t.Kind=kd):∃u:Token,p_ n kd ⟨l,(i:Int)⟩=some (.ret u ((i+1:Nat):Int))∧u.Text=t.Text∧u.N=t.N:=by
 have:=aN.lt
 obtain⟨Z,aa,aj⟩:=LO aN.hd;refine⟨l.getD i default,?_,aa,aj⟩
 rw [alV n l i kd ab (by omega),if_pos ⟨this,by rw [Z,h]⟩]
theorem rD{i n:Nat}{e:Expr}{R:List Token}(ab:l.length≤1000000000)(hg:k_ l)(he:iK e)(aN:ck l i (fL e) R)(gp:ja R<1)(hn:24*l.length+100≤n):
 hZ n 1 0 ⟨l,(i:Int)⟩=some (.ret e ((i+(fL e).length:Nat):Int)):=by
 have VX:=TH e.Op;have e1:eW e 1=fL e:=by unfold eW fy;rw [if_neg (by omega)]
 have dh:=LN e 1 he.1;have b1:=(am0 ab hg (fE e) e (Nat.le_refl _) he.1).1 1 i 0 R (by omega) (by omega) (by rw [e1];exact aN) gp (Or.inl (by have:=he.2;omega))
 rw [e1]at b1 dh;have:=aN.le dh
 exact b1 n (by omega)
theorem l'{α:Type}{x:α}{a b:Nat}(h:a=b):(some (.ret x (a:Int)):Option (aD α Int))=some (.ret x (b:Int)):=by rw [h]
theorem abP{s:Stmt}{d:Nat}(h:s9 s d)(R:List Token):f6 (eE s++R) [125]=false∧f6 (eE s++R) [101,108,115,101]=false:=by
 obtain⟨_,hs,_,_⟩:=(uG _ _).1 h;obtain⟨Op,Name,Max,A,B,Body,bx⟩:=s;rcases hs with⟨av,ao,hn,aN⟩|⟨ao,aN,cL⟩|⟨av,ao,aN⟩|⟨ao,aN⟩|⟨ao,hn,hm,aN,cL⟩|⟨ao,hm⟩
 ·simp only at av
  rcases av with rfl|rfl<;>simp [eE,f6,dD,hR]
 ·simp only [Stmt.mk.injEq,true_and,and_true]at ao;obtain⟨rfl,rfl,rfl,rfl,rfl⟩:=ao;simp [eE,f6,dD,hR]
 ·simp only at av
  rcases av with rfl|rfl<;>simp [eE,f6,dD,hR]
 ·simp only [Stmt.mk.injEq,true_and,and_true]at ao;obtain⟨rfl,rfl,rfl,rfl⟩:=ao;simp [eE,f6,dD,hR]
 ·simp only [Stmt.mk.injEq,true_and,and_true]at ao;obtain⟨rfl,rfl⟩:=ao;simp [eE,f6,dD,hR]
 ·simp only [Stmt.mk.injEq,true_and,and_true]at ao;obtain⟨rfl,rfl,rfl,rfl,rfl,rfl⟩:=ao;simp [eE,f6,dD,hR]
theorem Fz(R:List Token):ja (bb [59]::R)<1:=by have:ja (bb [59]::R)=0:=rfl;omega
theorem anw(R:List Token):ja (bb [61]::R)<1:=by have:ja (bb [61]::R)=0:=rfl;omega
theorem abQ(R:List Token):ja (bb [123]::R)<1:=by have:ja (bb [123]::R)=0:=rfl;omega
theorem anx(R:List Token):ja (dD [116,111]::R)<1:=by have:ja (dD [116,111]::R)=0:=rfl;omega
theorem anz(R:List Token):ja (dD [109,97,120]::R)<1:=by have:ja (dD [109,97,120]::R)=0:=rfl;omega
def lO(l:List Token)(n d i:Nat)(s:Stmt):Prop:=wN n (d:Int) ⟨l,(i:Int)⟩=some (.ret s ((i+(eE s).length:Nat):Int))
def rE(l:List Token)(n d i:Nat)(b:List Stmt):Prop:=rl n (d:Int) ⟨l,(i:Int)⟩=some (.ret b ((i+(ga b).length+2:Nat):Int))
theorem anA{i n d:Nat}{Name:atW}{A:Expr}{R:List Token}(ab:l.length≤1000000000)(hg:k_ l)(aG:iK A)(aN:ck l i (eE ⟨1,Name,0,A,ej,[],[]⟩) R)(hn:24*l.length+100≤n):lO l (n+1) d i ⟨1,Name,0,A,ej,[],[]⟩:=by
 have e:eE ⟨1,Name,0,A,ej,[],[]⟩=dD [108,101,116]::hR Name::bb [61]::(fL A++[bb [59]]):=by simp [eE]
 unfold lO;rw [e]at aN ⊢;have Z:=aN.fT;have aa:=Z.fT;have aj:=aa.fT;obtain⟨u,t1,t2,t3⟩:=xo (n:=n) (kd:=1) ab Z rfl;rw [s3];unfold o_;rw [nd ab aN rfl];simp only [al,atH];rw [t1];simp only [al,aD.on];rw [qx ab aa rfl];simp only [al,aD.on];rw [rD ab hg aG aj.lM (Fz _) hn];simp only [al,aD.on];rw [A3 ab aj.kn];simp only [al,aD.on,i8,my,t2];exact l' (by simp only [atL,atP,atM];omega)
theorem anB{i n d:Nat}{Name:atW}{A:Expr}{R:List Token}(ab:l.length≤1000000000)(hg:k_ l)(aG:iK A)(aN:ck l i (eE ⟨2,Name,0,A,ej,[],[]⟩) R)(hn:24*l.length+100≤n):lO l (n+1) d i ⟨2,Name,0,A,ej,[],[]⟩:=by
 have e:eE ⟨2,Name,0,A,ej,[],[]⟩=hR Name::bb [61]::(fL A++[bb [59]]):=by simp [eE]
 unfold lO;rw [e]at aN ⊢;have aa:=aN.fT;have aj:=aa.fT;obtain⟨u,t1,t2,t3⟩:=xo (n:=n) (kd:=1) ab aN rfl;rw [s3];unfold o_;simp only [hv ab aN (show f6 [hR Name] _=false from rfl),al,atI]
 rw [t1];simp only [al,aD.on];rw [qx ab aa rfl];simp only [al,aD.on];rw [rD ab hg aG aj.lM (Fz _) hn];simp only [al,aD.on];rw [A3 ab aj.kn];simp only [al,aD.on,i8,my,t2];exact l' (by simp only [atL,atP,atM];omega)
theorem anC{i n d:Nat}{A B:Expr}{R:List Token}(ab:l.length≤1000000000)(hg:k_ l)(aG:iK A)(qr:iK B)(aN:ck l i (eE ⟨3,[],0,A,B,[],[]⟩) R)(hn:24*l.length+100≤n):lO l (n+1) d i ⟨3,[],0,A,B,[],[]⟩:=by
 have e:eE ⟨3,[],0,A,B,[],[]⟩=dD [112,117,116]::(fL A++bb [61]::(fL B++[bb [59]])):=by simp [eE]
 unfold lO;rw [e]at aN ⊢;have Z:=aN.fT;have aa:=Z.kn;have aj:=aa.fT;rw [s3];unfold o_;rw [hv ab aN rfl];simp only [al,atI];rw [nd ab aN rfl];simp only [al,atH];rw [rD ab hg aG Z.lM (anw _) hn];simp only [al,aD.on];rw [qx ab aa rfl];simp only [al,aD.on];rw [rD ab hg qr aj.lM (Fz _) hn];simp only [al,aD.on];rw [A3 ab aj.kn];simp only [al,aD.on,i8,my];exact l' (by simp only [atL,atP,atM];omega)
theorem anD{i n d:Nat}{A:Expr}{R:List Token}(ab:l.length≤1000000000)(hg:k_ l)(aG:iK A)(aN:ck l i (eE ⟨4,[],0,A,ej,[],[]⟩) R)(hn:24*l.length+100≤n):lO l (n+1) d i ⟨4,[],0,A,ej,[],[]⟩:=by
 have e:eE ⟨4,[],0,A,ej,[],[]⟩=dD [100,101,108,101,116,101]::(fL A++[bb [59]]):=by simp [eE]
 unfold lO;rw [e]at aN ⊢;have Z:=aN.fT;rw [s3];unfold o_;rw [hv ab aN rfl];simp only [al,atI];rw [hv ab aN rfl];simp only [al,atI];rw [nd ab aN rfl];simp only [al,atH];rw [rD ab hg aG Z.lM (Fz _) hn];simp only [al,aD.on];rw [A3 ab Z.kn];simp only [al,aD.on,i8,my];exact l' (by simp only [atL,atP,atM];omega)
theorem anE{i n d:Nat}{A:Expr}{R:List Token}(ab:l.length≤1000000000)(hg:k_ l)(aG:iK A)(aN:ck l i (eE ⟨7,[],0,A,ej,[],[]⟩) R)(hn:24*l.length+100≤n):lO l (n+1) d i ⟨7,[],0,A,ej,[],[]⟩:=by
 have e:eE ⟨7,[],0,A,ej,[],[]⟩=dD [101,109,105,116]::(fL A++[bb [59]]):=by simp [eE]
 unfold lO;rw [e]at aN ⊢;have Z:=aN.fT;rw [s3];unfold o_;rw [hv ab aN rfl];simp only [al,atI];rw [hv ab aN rfl];simp only [al,atI];rw [hv ab aN rfl];simp only [al,atI];rw [nd ab aN rfl];simp only [al,atH];rw [rD ab hg aG Z.lM (Fz _) hn];simp only [al,aD.on];rw [A3 ab Z.kn];simp only [al,aD.on,i8,my];exact l' (by simp only [atL,atP,atM];omega)
theorem anF{i n d:Nat}{Max:Int}{R:List Token}(ab:l.length≤1000000000)(aN:ck l i (eE ⟨8,[],Max,ej,ej,[],[]⟩) R):lO l (n+1) d i ⟨8,[],Max,ej,ej,[],[]⟩:=by
 have e:eE ⟨8,[],Max,ej,ej,[],[]⟩=[dD [97,98,111,114,116],nO Max,bb [59]]:=by simp [eE]
 unfold lO;rw [e]at aN ⊢;have Z:=aN.fT;have aa:=Z.fT;obtain⟨u,t1,t2,t3⟩:=xo (n:=n) (kd:=3) ab Z rfl;rw [s3];unfold o_;rw [hv ab aN rfl];simp only [al,atI];rw [hv ab aN rfl];simp only [al,atI];rw [hv ab aN rfl];simp only [al,atI];rw [hv ab aN rfl];simp only [al,atI];rw [nd ab aN rfl];simp only [al,atH];rw [t1];simp only [al,aD.on];rw [A3 ab aa];simp only [al,aD.on,i8,my,t3];exact l' (by simp only [atL,atP,atM])
end
open Go Go.Ab Go.Proofs
section
variable {l:List Token}
def abR(l:List Token)(n d k:Nat)(b:List Stmt):Prop:=∀(i m:Nat) (acc:List Stmt),b.length<m→acc.length+b.length≤1000000→
 zv n (rl n) (wN n) (zw n) (d:Int) ⟨l,(i:Int)⟩ m (k:Int) acc=some (.ret (acc++b) ((k+(ga b).length+1:Nat):Int))
theorem L0{n d i:Nat}{b:List Stmt}{T R:List Token}(ab:l.length≤1000000000)(aN:ck l i (bb [123]::T) R)(hd:d≤12)(hn:b.length<n)(hb:b.length≤1000000)(h:abR l n d (i+1) b):rE l (n+1) d i b:=by
 unfold rE;have:=aN.lt
 rw [alX];unfold I8 I7;rw [xf,al,show decide ((12:Int)<(d:Int))=false from decide_eq_false (by omega)]
 have e:(bif (bif hH l i [123]then false else false) then(true:Bool)else false)=false:=by cases hH l i [123]<;>rfl
 have e2:(bif hH l i [123]then false else false)=false:=by cases hH l i [123]<;>rfl
 rw [e2];simp only [atI];rw [qx ab aN rfl];simp only [al,aD.on];rw [h i n [] hn (by simp;omega)]
 exact l' (by omega)
theorem anG{i n d:Nat}{A:Expr}{Body bx:List Stmt}{R:List Token}(ab:l.length≤1000000000)(hg:k_ l)(aG:iK A)(gp:f6 R [101,108,115,101]=false)(aN:ck l i (eE ⟨5,[],0,A,ej,Body,bx⟩) R)(hn:24*l.length+100≤n)
 (cL:∀T' nq,ck l (i+1+(fL A).length) (bb [123]::(ga Body++bb [125]::T')) nq→rE l n d (i+1+(fL A).length) Body)
 (b1:∀k nq,bx.length≠0→ck l k (bb [123]::(ga bx++[bb [125]])) nq→rE l n d k bx):lO l (n+1) d i ⟨5,[],0,A,ej,Body,bx⟩:=by
 unfold lO;by_cases h0:bx.length=0
 ·have e:eE ⟨5,[],0,A,ej,Body,bx⟩=dD [105,102]::(fL A++bb [123]::(ga Body++bb [125]::[])):=by simp only [eE,h0];simp
  obtain rfl:=List.eq_nil_of_length_eq_zero h0;rw [e]at aN ⊢;have Z:=aN.fT;have aa:=Z.kn;have hb:=cL [] R aa;unfold rE at hb;have aj:=(show ck l (i+1+(fL A).length) ((bb [123]::(ga Body++[bb [125]]))++[]) R by rw [List.append_nil];exact aa).kn
  have anH:=aa.le (by simp)
  simp only [atL,atP,atM]at aj anH;rw [s3];unfold o_ DE;rw [hv ab aN rfl];simp only [al,atI];rw [hv ab aN rfl];simp only [al,atI];rw [hv ab aN rfl];simp only [al,atI];rw [hv ab aN rfl];simp only [al,atI];rw [hv ab aN rfl];simp only [al,atI];rw [nd ab aN rfl];simp only [al,atH];rw [rD ab hg aG Z.lM (abQ _) hn];simp only [al,aD.on];rw [hb];simp only [al,aD.on];rw [Ff n l _ _ (by omega),show i+1+(fL A).length+(ga Body).length+2=i+1+(fL A).length+((ga Body).length+(0+1)+1)by omega,aj.is,show f6 ([]++R) [101,108,115,101]=false from gp]
  simp only [al,atI];exact l' (by simp only [atL,atP,atM];omega)
 ·have e:eE ⟨5,[],0,A,ej,Body,bx⟩=dD [105,102]::(fL A++bb [123]::(ga Body++bb [125]::(dD [101,108,115,101]::bb [123]::(ga bx++[bb [125]])))):=by simp only [eE,h0];simp
  rw [e]at aN ⊢;have Z:=aN.fT;have aa:=Z.kn;have hb:=cL _ R aa;unfold rE at hb;have aj:=(show ck l (i+1+(fL A).length) ((bb [123]::(ga Body++[bb [125]]))++(dD [101,108,115,101]::bb [123]::(ga bx++[bb [125]]))) R by simpa using aa).kn
  simp only [atL,atP,atM]at aj;rw [show i+1+(fL A).length+((ga Body).length+(0+1)+1)=i+1+(fL A).length+(ga Body).length+2 by omega]at aj
  have aC:=aj.fT;have he:=b1 _ R h0 aC;unfold rE at he;rw [s3];unfold o_ DE;rw [hv ab aN rfl];simp only [al,atI];rw [hv ab aN rfl];simp only [al,atI];rw [hv ab aN rfl];simp only [al,atI];rw [hv ab aN rfl];simp only [al,atI];rw [hv ab aN rfl];simp only [al,atI];rw [nd ab aN rfl];simp only [al,atH];rw [rD ab hg aG Z.lM (abQ _) hn];simp only [al,aD.on];rw [hb];simp only [al,aD.on];rw [nd ab aj rfl];simp only [al,atH];rw [he];simp only [al,aD.on];exact l' (by simp only [atL,atP,atM];omega)
theorem anI{i n d:Nat}{Name:atW}{Max:Int}{A B:Expr}{Body:List Stmt}{R:List Token}(ab:l.length≤1000000000)(hg:k_ l)(aG:iK A)(qr:iK B)(aN:ck l i (eE ⟨6,Name,Max,A,B,Body,[]⟩) R)(hn:24*l.length+100≤n)
 (cL:∀k nq,ck l k (bb [123]::(ga Body++[bb [125]])) nq→rE l n d k Body):lO l (n+2) d i ⟨6,Name,Max,A,B,Body,[]⟩:=by
 have e:eE ⟨6,Name,Max,A,B,Body,[]⟩=dD [102,111,114]::hR Name::bb [61]::(fL A++dD [116,111]::(fL B++dD [109,97,120]::nO Max::bb [123]::(ga Body++[bb [125]]))):=by simp [eE]
 unfold lO;rw [e]at aN ⊢;have Z:=aN.fT;have aa:=Z.fT;have aj:=aa.fT;have aC:=aj.kn;have aT:=aC.fT;have bQ:=aT.kn;have cK:=bQ.fT;have di:=cK.fT;have hb:=cL _ _ di;unfold rE at hb;obtain⟨u,t1,t2,t3⟩:=xo (n:=n) (kd:=1) ab Z rfl;obtain⟨v,v1,v2,v3⟩:=xo (n:=n) (kd:=3) ab cK rfl;rw [s3];unfold o_;rw [hv ab aN rfl];simp only [al,atI];rw [hv ab aN rfl];simp only [al,atI];rw [hv ab aN rfl];simp only [al,atI];rw [hv ab aN rfl];simp only [al,atI];rw [hv ab aN rfl];simp only [al,atI];rw [hv ab aN rfl];simp only [al,atI];rw [nd ab aN rfl];simp only [al,atH];rw [alY];unfold Jd;rw [t1];simp only [al,aD.on];rw [qx ab aa rfl];simp only [al,aD.on];rw [rD ab hg aG aj.lM (anx _) hn];simp only [al,aD.on];rw [qx ab aC rfl];simp only [al,aD.on];rw [rD ab hg qr aT.lM (anz _) hn];simp only [al,aD.on];rw [qx ab bQ rfl];simp only [al,aD.on];rw [v1];simp only [al,aD.on];rw [hb];simp only [al,aD.on,i8,my,t2,v3];exact l' (by simp only [atL,atP,atM];omega)
mutual
theorem anJ(ab:l.length≤1000000000)(hg:k_ l):∀(s:Stmt) (d i n:Nat) (R:List Token),s9 s d→f6 R [101,108,115,101]=false→ck l i (eE s) R→fst s≤1000000→24*l.length+200+3*fst s≤n→lO l n d i s
 |⟨Op,Name,Max,A,B,Body,bx⟩,d,i,n,R,cE,gp,aN,aW,hn=>by
  obtain⟨hd,hs,c',fA⟩:=(uG _ _).1 cE;have mj:fst ⟨Op,Name,Max,A,B,Body,bx⟩=80+Name.length+dd A+dd B+du Body+du bx:=rfl;have anK:=s2 Body;have ata:=s2 bx;have xn:=λk n R=>L1 ab hg Body d k n R c'
  have LZ:=λk n R=>L1 ab hg bx d k n R fA
  obtain⟨n,rfl⟩:∃k,n=k+3:=⟨n-3,by omega⟩
  rcases hs with⟨av,ao,aR,aG⟩|⟨ao,aG,qr⟩|⟨av,ao,aG⟩|⟨ao,aG⟩|⟨ao,aR,hm,aG,qr⟩|⟨ao,hm⟩
  ·simp only [Stmt.mk.injEq,true_and,and_true]at ao av;obtain⟨rfl,rfl,rfl,rfl⟩:=ao;rcases av with rfl|rfl
   ·exact anA ab hg aG aN (by omega)
   ·exact anB ab hg aG aN (by omega)
  ·simp only [Stmt.mk.injEq,true_and,and_true]at ao;obtain⟨rfl,rfl,rfl,rfl,rfl⟩:=ao;exact anC ab hg aG qr aN (by omega)
  ·simp only [Stmt.mk.injEq,true_and,and_true]at ao av;obtain⟨rfl,rfl,rfl,rfl,rfl⟩:=ao;rcases av with rfl|rfl
   ·exact anD ab hg aG aN (by omega)
   ·exact anE ab hg aG aN (by omega)
  ·simp only [Stmt.mk.injEq,true_and,and_true]at ao;obtain⟨rfl,rfl,rfl,rfl⟩:=ao;refine anG (A:=A) ab hg aG gp aN (by omega) (λT' nq h=>?_) (λk nq h0 h=>?_)
   ·refine L0 ab h hd (by omega) (by omega) (xn _ (n+1) (T'++nq) ?_ (by omega) (by omega))
    have:=h.fT
    rw [show ga Body++bb [125]::T'=(ga Body++[bb [125]])++T' by simp]at this
    exact this.lM
   ·exact L0 ab h hd (by omega) (by omega) (LZ _ (n+1) nq h.fT (by omega) (by omega))
  ·simp only [Stmt.mk.injEq,true_and,and_true]at ao;obtain⟨rfl,rfl⟩:=ao;refine anI (A:=A) (B:=B) ab hg aG qr aN (by omega) (λk nq h=>?_)
   exact L0 ab h hd (by omega) (by omega) (xn _ n nq h.fT (by omega) (by omega))
  ·simp only [Stmt.mk.injEq,true_and,and_true]at ao;obtain⟨rfl,rfl,rfl,rfl,rfl,rfl⟩:=ao;exact anF ab aN
theorem L1(ab:l.length≤1000000000)(hg:k_ l):∀(b:List Stmt) (d k n:Nat) (R:List Token),ko b (d+1)→ck l k (ga b++[bb [125]]) R→du b≤1000000→24*l.length+200+3*du b≤n→abR l n d k b
 |[],d,k,n,R,cE,aN,aW,hn=>by
  intro i m acc hm ha;obtain⟨m,rfl⟩:∃j,m=j+1:=⟨m-1,by simp at hm;omega⟩
  simp only [zv,I6,Qr];rw [nd ab (show ck l k (bb [125]::[]) R from aN) rfl]
  simp only [al,atJ,atI,List.append_nil];exact l' rfl
 |s::b,d,k,n,R,cE,aN,aW,hn=>by
  intro i m acc hm ha;simp only [atL]at hm ha;obtain⟨m,rfl⟩:∃j,m=j+1:=⟨m-1,by omega⟩
  have mj:du (s::b)=fst s+1+du b:=rfl;simp only [ga,List.append_assoc]at aN
  have gp:f6 ((ga b++[bb [125]])++R) [101,108,115,101]=false:=by
   cases b with
   |nil=>rfl
   |cons x b=>simp only [ga,List.append_assoc];exact(abP cE.2.1 _).2
  have Z:=anJ ab hg s (d+1) k n _ cE.1 gp aN.lM (by omega) (by omega)
  have aa:=L1 ab hg b d (k+(eE s).length) n R cE.2 aN.kn (by omega) (by omega) i m (acc++[s]) (by omega) (by simp only [atP,atL,atM];omega)
  unfold lO at Z
  have hk:k<l.length:=by
   by_cases hk:k<l.length
   ·exact hk
   ·unfold ck at aN;have:=congrArg List.length aN
    simp only [List.length_drop,List.length_map,atP,atL,atM]at this;omega
  simp only [zv,I6];rw [Ff n l k _ (by omega),aN.is,List.append_assoc,(abP cE.1 _).1]
  simp only [al,atK,atH,atI];rw [bv (by have:=((uG _ _).1 cE.1).1;omega),Z]
  simp only [al,aD.on];rw [show(acc.length+([s]:List Stmt).length)=acc.length+1 from rfl,alZ (by omega)]
  simp only [aL];rw [aa];simp only [ga,List.append_assoc,List.cons_append,List.nil_append,atP];exact l' (by omega)
end
end
open Go Go.Ab Go.Proofs
def nS(t:Int):atW:=if t=1 then[105,110,116]else if t=2 then[115,116,114] else[98,111,111,108]
def mJ(x:Param):atW:=(x.Name++[58,32])++nS x.fs
def uH(x:Param):List Token:=[hR x.Name,bb [58],dD (nS x.fs)]
def qy:List Param→List Token
 |[]=>[]
 |x::l=>bb [44]::(uH x++qy l)
def uI:List Param→List Token
 |[]=>[]
 |x::l=>uH x++qy l
def rF(x:Param):Prop:=gv x.Name=true∧1≤x.fs∧x.fs≤3
def abS:∀(l b:List Param),uC b l=0→∀x,x∈l→rF x
 |[],b,h,x,hx=>by cases hx
 |y::l,b,h,x,hx=>by
  unfold uC at h;split at h
  ·omega
  rename_i g1;split at h
  ·omega
  rename_i g2;split at h
  ·omega
  rename_i g3;rcases List.mem_cons.1 hx with rfl|hx
  ·exact⟨by simpa using g1,by omega,by omega⟩
  ·exact abS l _ h x hx
def FA{l:List Param}(h:qm l=0):l.length≤6∧∀x,x∈l→rF x:=by
 unfold qm at h;split at h
 ·omega
 ·exact⟨by omega,abS l [] h⟩
def ne(l:List Param):atW:=Lib.join (l.map mJ) [44,32]
def kP(p:bc):atW:=dp 0 [[112,114,111,99,32],p.Name,[40],ne p.Params,[41,32,123]]++(fz p.Body 1++dp 0 [[125]])
def uJ(p:bc):List Token:=dD [112,114,111,99]::hR p.Name::bb [40]::(uI p.Params++bb [41]::bb [123]::(ga p.Body++[bb [125]]))
def anL(t:Int):nS t∈ph:=by
 unfold nS;by_cases Z:t=1
 ·rw [if_pos Z];decide
 ·rw [if_neg Z];by_cases aa:t=2
  ·rw [if_pos aa];decide
  ·rw [if_neg aa];decide
def T4(t:Int):(nS t).length≤4:=by
 unfold nS;split
 ·simp
 ·split<;>simp
def abT(n:Nat)(t:Int):HV n t=some (nS t):=by
 unfold HV nS;by_cases Z:t=1
 ·simp [Z]
 ·by_cases aa:t=2
  ·simp [aa]
  ·simp [Z,aa]
def abU{x:Param}{r:atW}{T:List Token}(hx:rF x)(hb:nN r)(h:eH r T):eH (mJ x++r) (uH x++T):=by
 have e:mJ x++r=x.Name++58::32::(nS x.fs++r):=by simp [mJ]
 rw [e];exact Fw hx.1 (i_ rfl) (lb (t:=bb [58]) (pm (by decide)) (Fn (by decide)) (mE (lb (t:=dD (nS x.fs)) (uE (anL _)) (Fm (by simp [dD]) hb) h)))
def FB(x:atW)(l:List atW):Lib.joinTail [44,32] (x::l)=44::32::(x++Lib.joinTail [44,32] l):=by simp [Lib.joinTail]
def abV{l:List Param}{r:atW}(hb:nN r):nN (Lib.joinTail [44,32] (l.map mJ)++r):=by
 cases l with
 |nil=>exact hb
 |cons x l=>rw [List.map_cons,FB];exact i_ rfl
def abW{r:atW}{T:List Token}(hb:nN r)(h:eH r T):∀l:List Param,(∀x,x∈l→rF x)→eH (Lib.joinTail [44,32] (l.map mJ)++r) (qy l++T)
 |[],_=>h
 |x::l,ab=>by
  rw [List.map_cons,FB];have:=abU (ab x (by simp)) (abV (l:=l) hb) (abW hb h l λy ce=>ab y (by simp [ce]))
  simp only [List.cons_append,List.append_assoc,qy];exact lb (t:=bb [44]) (pm (by decide)) (Fn (by decide)) (mE this)
def anM{r:atW}{T:List Token}(hb:nN r)(h:eH r T)(l:List Param)(ab:∀x,x∈l→rF x):eH (ne l++r) (uI l++T):=by
 unfold ne;cases l with
 |nil=>exact h
 |cons x l=>
  rw [List.map_cons,Lib.join_cons];simp only [List.append_assoc,uI];exact abU (ab x (by simp)) (abV (l:=l) hb) (abW hb h l λy ce=>ab y (by simp [ce]))
def anN{p:bc}(hp:LU p){r:atW}{T:List Token}(h:eH r T):eH (kP p++r) (uJ p++T):=by
 obtain⟨Z,aa,aj⟩:=hp;have e:kP p++r=[112,114,111,99]++32::(p.Name++40::(ne p.Params++41::32::123::10::(fz p.Body 1++(dp 0 [[125]]++r)))):=by simp [kP,dp,ind,cat]
 have e2:uJ p++T=dD [112,114,111,99]::hR p.Name::bb [40]::(uI p.Params++bb [41]::bb [123]::(ga p.Body++bb [125]::T)):=by simp [uJ]
 rw [e,e2];exact qw (by decide) (Fw Z (i_ rfl) (TF (anM (i_ rfl) (LH (Fx (LY p.Body 1 1 aj _ _ (LX 0 h)))) p.Params (FA aa).2)))
def abX{x:Param}(h:rF x):(mJ x).length≤22:=by
 have:=pp h.1
 have:=T4 x.fs
 unfold mJ;simp only [atP,atL,atM];omega
def abY:∀l:List Param,(∀x,x∈l→rF x)→(Lib.joinTail [44,32] (l.map mJ)).length≤24*l.length
 |[],_=>Nat.le_refl _
 |x::l,h=>by
  have Z:=abY l λy ce=>h y (by simp [ce])
  have aa:=abX (h x (by simp))
  rw [List.map_cons,FB];simp only [atP,atL];omega
def T6{l:List Param}(ab:∀x,x∈l→rF x):(ne l).length≤24*l.length:=by
 unfold ne;cases l with
 |nil=>exact Nat.le_refl _
 |cons x l=>
  have Z:=abY l λy ce=>ab y (by simp [ce])
  have aa:=abX (ab x (by simp))
  rw [List.map_cons,Lib.join_cons];simp only [atP,atL];omega
def abZ{p:bc}(hp:LU p):(kP p).length≤4*du p.Body+300:=by
 obtain⟨Z,aa,aj⟩:=hp;obtain⟨aC,aT⟩:=FA aa;have bQ:=T6 aT;have cK:=pp Z;have di:=oF p.Body 1 aj;unfold kP;simp only [atP,lN,cat,atL,atM];omega
def anO{n:Nat}(p:bc)(hi:qv p)(aw:mB p=0)(hn:3000000≤n)(aW:h2 p.Params≤300000)(cL:du p.Body≤300000):t8 n p=some (kP p):=by
 have hp:=LV hi aw;have yb:=hp;obtain⟨Z,aa,aj⟩:=hp;obtain⟨aC,aT⟩:=FA aa;have bQ:=T6 aT;have cK:=pp Z;have di:=oF p.Body 1 aj;have el:(fz p.Body (0+1)).length≤4*du p.Body:=di;unfold t8;rw [Tz p (by omega) (by omega) (by omega) (by omega) (by omega),aw]
 simp only [al,atF,atJ,atI]
 have gN:∀m i,p.Params.length<i+m→i≤p.Params.length→C6 n p m (i:Int) ((p.Params.take i).map mJ)=some (kP p):=by
  intro m;induction m with
  |zero=>intro i g1 g2;omega
  |succ m aH=>
   intro i g1 g2;simp only [C6,PI,atO,atN];by_cases hi:i<p.Params.length
   ·have hx:=aT (p.Params.getD i default) (by rw [List.getD_eq_getElem?_getD,List.getElem?_eq_getElem hi];exact List.getElem_mem hi)
    have hnx:=pp hx.1;have ab0:=T4 (p.Params.getD i default).fs;have:=aH (i+1) (by omega) (by omega)
    rw [xh p.Params i hi,List.map_append]at this;simp only [List.map_cons,List.map_nil]at this;simp only [hi,atF,atH,bI hi,aL];rw [gT (by simp only [atL,atM];omega),abT]
    simp only [aL,al];rw [gT (by simp only [atP,atL,atM];omega)]
    simp only [aL]
    rw [show room ((List.map mJ (p.Params.take i)).length+([(p.Params.getD i default).Name++[58,32]++nS (p.Params.getD i default).fs]:List atW).length) 16=true by
     simp [room];omega]
    simp only [aL];rw [bv (by omega)]
    exact this
   ·simp only [hi,atG,atI];obtain rfl:i=p.Params.length:=by omega
    unfold PH;rw [List.take_length];unfold Hq;rw [show decide ((p.Params.map mJ).length≤140737488355328∧(Lib.join (p.Params.map mJ) [44,32]).length≤140737488355328)=true from decide_eq_true ⟨by rw [List.length_map];omega,by show(ne p.Params).length≤_;omega⟩]
    simp only [aL,al];have ab:=nR (n:=n) [[112,114,111,99,32],p.Name,[40],ne p.Params,[41,32,123]] 0 [] (by simp only [cat,atP,atL,atM];omega) (by simp) (by omega) (by omega)
    have ab:mt n [[112,114,111,99,32],p.Name,[40],Lib.join (p.Params.map mJ) [44,32],[41,32,123]] [] 0=_:=ab;rw [ab];simp only [al,List.nil_append];have hb:=anv n p.Body 0 (dp 0 [[112,114,111,99,32],p.Name,[40],ne p.Params,[41,32,123]]) aj (by omega) (by omega) (by omega) (by simp only [lN,cat,atP,atL,atM];omega)
    unfold ta at hb;rw [show rc n p.Body (fR (dp 0 [[112,114,111,99,32],p.Name,[40],ne p.Params,[41,32,123]])) 0=_ from hb]
    simp only [al];rw [nR _ 0 _ (by simp only [cat,atP,lN,atL,atM];omega) (by simp) (by omega) (by omega)]
    simp only [al];unfold H9;rw [Tb,Ta];have hlen:=abZ yb;have anP:dp 0 [[112,114,111,99,32],p.Name,[40],ne p.Params,[41,32,123]]++fz p.Body (0+1)++dp 0 [[125]]=kP p:=by unfold kP;rw [List.append_assoc]
    rw [anP];rw [show decide ((fR (kP p)).length≤9223372036854775807)=true from decide_eq_true (by rw [show(fR (kP p)).length=(kP p).length by simp [fR]];omega)]
    rfl
 exact gN n 0 (by omega) (by omega)
open Go Go.Ab Go.Proofs
section
variable {l:List Token}
theorem ab1{i n:Nat}{x:Param}{R:List Token}(ab:l.length≤1000000000)(hx:rF x)(aN:ck l i (uH x) R):DO n ⟨l,(i:Int)⟩=some (.ret x ((i+3:Nat):Int)):=by
 have aN:ck l i (hR x.Name::bb [58]::dD (nS x.fs)::[]) R:=aN;have Z:=aN.fT;have aa:=Z.fT;obtain⟨u,t1,t2,t3⟩:=xo (n:=n) (kd:=1) ab aN rfl;obtain⟨mz,ty⟩:=x;unfold DO zx;rw [t1];simp only [al,aD.on];rw [qx ab Z rfl];simp only [al,aD.on];obtain⟨_,g1,g2⟩:=hx;simp only at g1 g2
 have:ty=1∨ty=2∨ty=3:=by omega
 rcases this with rfl|rfl|rfl
 ·rw [nd ab aa rfl];simp only [al,atH,t2];exact l' rfl
 ·rw [hv ab aa rfl];simp only [al,atI];rw [nd ab aa rfl];simp only [al,atH,t2];exact l' rfl
 ·rw [hv ab aa rfl];simp only [al,atI];rw [hv ab aa rfl];simp only [al,atI];rw [nd ab aa rfl];simp only [al,atH,t2];exact l' rfl
theorem ab2{n:Nat}{b:Int}{t:Token}(ab:l.length≤1000000000):∀(b6 acc:List Param) (k m:Nat) (T R:List Token),(∀x,x∈b6→rF x)→ck l k (qy b6++bb [41]::T) R→b6.length<m→acc.length+b6.length≤1000→
 zy n ⟨l,b⟩ t m (k:Int) acc=Jg n ⟨l,b⟩ t ((k+(qy b6).length:Nat):Int) (acc++b6)
 |[],acc,k,m,T,R,hx,aN,hm,ha=>by
  obtain⟨m,rfl⟩:∃j,m=j+1:=⟨m-1,by simp at hm;omega⟩
  simp only [zy,Jh];rw [hv ab (show ck l k (bb [41]::T) R from aN) rfl]
  simp only [al,atI,List.append_nil];rfl
 |x::b6,acc,k,m,T,R,hx,aN,hm,ha=>by
  simp only [atL]at hm ha;obtain⟨m,rfl⟩:∃j,m=j+1:=⟨m-1,by omega⟩
  have aN:ck l k (bb [44]::(uH x++qy b6++bb [41]::T)) R:=aN;have Z:=aN.fT;rw [List.append_assoc]at Z;have aa:=ab2 (n:=n) (b:=b) (t:=t) ab b6 (acc++[x]) (k+1+(uH x).length) m T R (λy ce=>hx y (by simp [ce])) Z.kn (by omega) (by simp only [atP,atL,atM];omega)
  simp only [zy,Jh];rw [nd ab aN rfl];simp only [al,atH];rw [ab1 ab (hx x (by simp)) Z.lM]
  simp only [al,aD.on];rw [show acc.length+([x]:List Param).length=acc.length+1 from rfl,aaT (by omega)]
  simp only [aL];have e3:(uH x).length=3:=rfl;rw [e3]at aa;rw [aa,List.append_assoc,show k+1+3+(qy b6).length=k+(qy (x::b6)).length by simp only [qy,atL,atP,e3];omega]
  rfl
theorem ab3{n i k:Nat}{b:Int}{t:Token}{b6:List Param}{Body:List Stmt}{R:List Token}(ab:l.length≤1000000000)(hg:k_ l)(cE:ko Body 1)(aW:du Body≤1000000)(hn:24*l.length+201+3*du Body≤n)(aN:ck l k (bb [123]::(ga Body++[bb [125]])) R):
 DP n ⟨l,b⟩ t (k:Int) b6=some (.ret ⟨t.Text,b6,Body⟩ ((k+(ga Body).length+2:Nat):Int)):=by
 have anK:=s2 Body;obtain⟨n,rfl⟩:∃j,n=j+1:=⟨n-1,by omega⟩
 have Z:=L1 ab hg Body 0 (k+1) n R cE aN.fT aW (by omega)
 have aa:=L0 ab aN (by omega) (by omega) (by omega) Z
 unfold rE at aa;unfold DP;rw [show rl (n+1) 0 ⟨l,(k:Int)⟩=_ from aa]
 simp only [al,aD.on]
theorem anQ{n i:Nat}{p:bc}{R:List Token}(ab:l.length≤1000000000)(hg:k_ l)(hp:LU p)(aW:du p.Body≤1000000)(hn:24*l.length+201+3*du p.Body≤n)(aN:ck l i (uJ p) R):
 DQ n ⟨l,(i:Int)⟩=some (.ret p ((i+(uJ p).length:Nat):Int)):=by
 obtain⟨mz,b6,kW⟩:=p;obtain⟨g1,g2,g3⟩:=hp;obtain⟨g4,g5⟩:=FA g2;simp only at g1 g4 g5 g3 aW hn
 have aN:ck l i (dD [112,114,111,99]::hR mz::bb [40]::(uI b6++bb [41]::bb [123]::(ga kW++[bb [125]]))) R:=aN;have Z:=aN.fT;have aa:=Z.fT;have aj:=aa.fT;obtain⟨u,t1,t2,t3⟩:=xo (n:=n) (kd:=1) ab Z rfl;have t2:u.Text=mz:=t2;unfold DQ;rw [qx ab aN rfl];simp only [al,aD.on];rw [t1];simp only [al,aD.on];rw [qx ab aa rfl];simp only [al,aD.on];cases b6 with
 |nil=>
  have aj:ck l (i+1+1+1) (bb [41]::bb [123]::(ga kW++[bb [125]])) R:=aj;rw [nd ab aj rfl];simp only [al,atJ,atI];rw [ab3 (i:=0) ab hg g3 aW hn aj.fT,t2];exact l' (by simp only [uJ,uI,atL,atP,atM];omega)
 |cons x b6=>
  have e3:(uH x).length=3:=rfl;simp only [uI,List.append_assoc]at aj;have aC:=aj.kn;rw [e3]at aC;have aT:=aC.kn;rw [hv ab (show ck l (i+1+1+1) (hR x.Name::(bb [58]::dD (nS x.fs)::(qy b6++bb [41]::bb [123]::(ga kW++[bb [125]])))) R from aj) rfl]
  simp only [al,atK,atH];rw [ab1 ab (g5 x (by simp)) aj.lM]
  simp only [al,aD.on];rw [show(([]:List Param).length+([x]:List Param).length)=1 from rfl,aaT (by omega)]
  simp only [aL,List.nil_append];simp only [atL]at g4;rw [ab2 ab b6 [x] _ n _ R (λy ce=>g5 y (by simp [ce])) aC (by omega) (by simp;omega)]
  unfold Jg;rw [qx ab aT rfl];simp only [al,aD.on];rw [ab3 (i:=0) ab hg g3 aW hn aT.fT,t2];exact l' (by simp only [uJ,uI,e3,atL,atP,atM];omega)
end
def anR{l T:List Token}(h:l.map c8=T):ck l 0 T []:=by
 unfold ck;rw [List.drop_zero,h,List.append_nil]
def anS{l T:List Token}(h:l.map c8=T):l.length=T.length:=by rw [←h,List.length_map]
def anT{n:Nat}{p:bc}(hi:qv p)(aw:mB p=0)(hn:3000000≤n)(aW:h2 p.Params≤300000)(cL:du p.Body≤300000)(hs:(kP p).length≤16384):DR n (kP p)=some (p,0,0):=by
 have hp:=LV hi aw
 have aG:eH (kP p) (uJ p):=by
  have:=anN hp eH.nil
  rwa [List.append_nil,List.append_nil]at this
 have aR:=pp hp.1;obtain⟨l,Z,aa,aj,aC,aT⟩:=ams aG hs (n:=n) (by omega) (by omega)
 have hlen:=Lv l;have anU:=anS aa;unfold DR Ji QM;rw [Z];simp only [al,atF,atJ,atI];have anV:=anQ (l:=l) (i:=0) (n:=n) (by omega) aC hp (by omega) (by omega) (anR aa)
 rw [show DQ n ⟨l,0⟩=_ from anV]
 simp only [al,aD.on,anU,Nat.zero_add,atS,atG,atI,atF,atH,aa9];rw [Tz p (by omega) (by omega) (by omega) (by omega) (by omega),aw]
 simp only [al,Jj,atF,atJ,atI,aa9]
open Go Go.Ab Go.Proofs
def g'(s:atW):List Int:=s.map λb=>(b.toNat:Int)
def T7(s:atW):jR (g' s)=s:=by
 simp only [jR,g',List.map_map]
 conv=>rhs;rw [←List.map_id s]
 apply List.map_congr_left;intro b _;simp
def T8(s:atW):nv (g' s)=true:=by
 simp only [nv,g',List.all_eq_true,List.mem_map,forall_exists_index,and_imp,forall_apply_eq_imp_iff₂];intro b _;have:=b.toNat_lt
 simp;omega
def T9(s t:atW):g' (s++t)=g' s++g' t:=List.map_append
def L2(s:atW):(g' s).length=s.length:=List.length_map _
def T_:([]:List Int)=g' []:=rfl
def e'(u:Nat):atW:=if u<128 then[UInt8.ofNat u]else UInt8.ofNat (u % 128+128)::e' (u / 128)
termination_by u
decreasing_by omega
def ab4:∀(k u:Nat),u<128 ^ k→0<k→(e' u).length≤k
 | 0,u,_,h=>by omega
 |k+1,u,hu,_=>by
  rw [e'];split
  ·simp
  ·have hk:0<k:=by
    rcases Nat.eq_zero_or_pos k with rfl|h
    ·simp at hu;omega
    ·exact h
   have:=ab4 k (u / 128) (by rw [Nat.pow_succ]at hu;omega) hk
   simp;omega
def nf{u:Nat}(h:u<18446744073709551616):(e' u).length≤10:=ab4 10 u (by omega) (by omega)
def anW:∀x:Nat,x<256→qK .u8 (x:Int) 128=((x % 128+128:Nat):Int):=by decide +kernel
def ab5(u:Nat):IntKind.u8.wrap (u:Int)=((u % 256:Nat):Int):=by rw [IntKind.wrap_u8];omega
def rG{u:Nat}(h:u<18446744073709551616):IntKind.u64.wrap (u:Int)=(u:Int):=by rw [IntKind.wrap_u64];omega
def Ua(u:Nat)(h:u<256):([(u:Int)]:List Int)=g' [UInt8.ofNat u]:=by
 simp only [g',List.map_cons,List.map_nil,UInt8.toNat_ofNat',Nat.mod_eq_of_lt (show u<2 ^ 8 from h)]
def anX(u:Nat):nj .u64 (u:Int) 7=((u / 128:Nat):Int):=by
 unfold nj;rw [show min (7:Int).toNat (IntKind.bits .u64)=7 by decide,Int.fdiv_eq_ediv_of_nonneg _ (by omega)]
 omega
def Ub{n:Nat}(h:n≤140737488355328):room n 1=true:=by simp [room];omega
def gC{n:Nat}(h:n≤9223372036854775807):b0 n=true:=by simp [b0];omega
def anY(n:Nat):∀m u (acc:atW),u<18446744073709551616→(e' u).length≤m→acc.length+(e' u).length≤1000→CM n m (u:Int) (g' acc)=some (acc++e' u):=by
 intro m;induction m with
 |zero=>intro u acc _ h _;rw [e']at h;split at h<;>simp at h
 |succ m aH=>
  intro u acc hu hm ab;simp only [CM,O0,OZ,Hw];rw [e']at hm ab ⊢;by_cases h:u<128
  ·rw [if_pos h]at hm ab ⊢;simp only [atQ]at ab;have:¬ (128:Int)≤(u:Int):=by omega
   rw [ab5,Nat.mod_eq_of_lt (by omega),Ua u (by omega),←T9]
   simp only [this,atG,atI,atQ,L2,Ub (show acc.length+1≤140737488355328 by omega),aL,al,T8,T7]
  ·rw [if_neg h]at hm ab ⊢;simp only [atL]at hm ab;have:(128:Int)≤(u:Int):=by omega
   rw [ab5,anW _ (by omega),show u % 256 % 128=u % 128 by omega,Ua _ (by omega),←T9,anX]
   simp only [this,atF,atH,atQ,L2,Ub (show acc.length+1≤140737488355328 by omega),aL,al]
   rw [aH (u / 128) _ (by omega) (by omega) (by simp;omega)]
   simp
def uK{n u:Nat}(hn:10≤n)(hu:u<18446744073709551616):hY n (u:Int)=some (e' u):=by
 have:=nf hu
 exact anY n n u [] hu (by omega) (by simp;omega)
def fold(n:Int):Nat:=if n<0 then(2*(-(n+1))+1).toNat else(2*n).toNat
def e5(x:Int):Prop := -9223372036854775808≤x∧x≤9223372036854775807
def Uc{n:Int}(h:e5 n):fold n<18446744073709551616:=by
 unfold e5 at h;unfold fold;split<;>omega
def mK(n:Int):atW:=e' (fold n)
def rH{n:Int}(h:e5 n):(mK n).length≤10:=nf (Uc h)
def xor_zero{a:Nat}(h:a<18446744073709551616):mP .u64 (a:Int) 0=(a:Int):=by
 unfold mP;rw [show BitVec.ofInt (IntKind.bits .u64) 0=0#_ from rfl,BitVec.xor_zero]
 rw [show((BitVec.ofInt (IntKind.bits .u64) (a:Int)).toNat:Int)=(a:Int) by
  rw [BitVec.toNat_ofInt];simp only [IntKind.bits];omega]
 exact rG h
def anZ{a:Nat}(h:a<18446744073709551616):mP .u64 (a:Int) 18446744073709551615=((18446744073709551615-a:Nat):Int):=by
 unfold mP;rw [show BitVec.ofInt (IntKind.bits .u64) 18446744073709551615=BitVec.allOnes _ by decide,BitVec.xor_allOnes]
 rw [show((~~~ BitVec.ofInt (IntKind.bits .u64) (a:Int)).toNat:Int)=((18446744073709551615-a:Nat):Int) by
  rw [BitVec.toNat_not,BitVec.toNat_ofInt];simp only [IntKind.bits];omega]
 exact rG (by omega)
def an0{x:Int}(h:e5 x):mP .u64 (oP .u64 (IntKind.u64.wrap x) 1) (IntKind.u64.wrap (nj .i64 x 63))=(fold x:Int):=by
 unfold e5 at h
 have e1:nj .i64 x 63=if x<0 then -1 else 0:=by
  unfold nj;rw [show min (63:Int).toNat (IntKind.bits .i64)=63 by decide,Int.fdiv_eq_ediv_of_nonneg _ (by omega)]
  split<;>omega
 have e2:oP .u64 (IntKind.u64.wrap x) 1=(((2*x) % 18446744073709551616).toNat:Int):=by
  unfold oP;rw [show min (1:Int).toNat (IntKind.bits .u64)=1 by decide,IntKind.wrap_u64,IntKind.wrap_u64]
  omega
 rw [e1,e2];unfold fold;by_cases hx:x<0
 ·rw [if_pos hx,if_pos hx,show IntKind.u64.wrap (-1)=18446744073709551615 by decide,anZ (by omega)]
  omega
 ·rw [if_neg hx,if_neg hx,show IntKind.u64.wrap 0=0 by decide,xor_zero (by omega)]
  omega
def xp{n:Nat}{x:Int}(hn:10≤n)(h:e5 x):q9 n x=some (mK x):=by
 unfold q9;rw [an0 h,uK hn (Uc h)];rfl
def gb(s:atW):atW:=e' s.length++s
def uL{n:Nat}{s:atW}(hn:10≤n)(h:s.length≤4611686018427387904):p4 n s=some (gb s):=by
 unfold p4;have:=nf (u:=s.length) (by omega)
 rw [rG (by omega),uK hn (by omega)]
 simp only [al,gC (show(e' s.length).length+s.length≤9223372036854775807 by omega),aL];rfl
def L3{s:atW}(h:s.length≤4611686018427387904):(gb s).length≤s.length+10:=by
 have:=nf (u:=s.length) (by omega)
 simp [gb];omega
open Go Go.Ab Go.Proofs
def ab6(n:Nat)(op:Int):Kb n op=some ((b_ op:Nat):Int):=TQ n op
def an1(n:Nat)(op:Int)(h:4≤op∧op≤8∨10≤op∧op≤17∨op=19):Kc n op=some (spell (nP op)):=abx n op h
def ab7(n:Nat)(op:Int)(h:20≤op∧op≤27):Kd n op=some (spell (hI op)):=by
 obtain rfl|rfl|rfl|rfl|rfl|rfl|rfl|rfl:op=20∨op=21∨op=22∨op=23∨op=24∨op=25∨op=26∨op=27:=by omega
 all_goals rfl
def ab8(u:Nat)(h:u<18446744073709551616):jR ([(IntKind.u8.wrap (IntKind.u64.wrap (48+(Int.tmod (u:Int) 10))))]:List Int)=[UInt8.ofNat (48+u % 10)]∧nv ([(IntKind.u8.wrap (IntKind.u64.wrap (48+(Int.tmod (u:Int) 10))))]:List Int)=true:=by
 have:IntKind.u8.wrap (IntKind.u64.wrap (48+(Int.tmod (u:Int) 10)))=((48+u % 10:Nat):Int):=by
  rw [Int.tmod_eq_emod_of_nonneg (by omega),IntKind.wrap_u64,IntKind.wrap_u8];omega
 rw [this,Ua _ (by omega)]
 exact⟨T7 _,T8 _⟩
def ab9(u:Nat)(h:u<18446744073709551616):IntKind.u64.wrap (Int.tdiv (u:Int) 10)=((u / 10:Nat):Int):=by
 rw [Int.tdiv_eq_ediv_of_nonneg (by omega),IntKind.wrap_u64];omega
def an2(n:Nat)(i:Int)(hi:0≤i):∀(m f u:Nat) (acc:atW),u<18446744073709551616→u<10 ^ m→acc.length+m≤1000000000→(0<u∨acc≠[])→qc n i (m+f+1) (u:Int) acc=some ((if u=0 then[]else Lib.decDigits u)++acc):=by
 intro m;induction m with
 |zero=>
  intro f u acc hu Z ab dw;have h0:u=0:=by simp at Z;omega
  subst h0;have Ud:acc≠[]:=by rcases dw with h|h;exact absurd h (by omega);exact h
  have:¬ i<0:=by omega
  simp [qc,sS,Eb,Ud,this]
 |succ m aH=>
  intro f u acc hu Z ab dw;rw [show m+1+f+1=m+f+1+1 by omega,show qc n i (m+f+1+1)=sS n i (qc n i (m+f+1))from rfl]
  simp only [sS,Eb];by_cases h0:u=0
  ·subst h0;have Ud:acc≠[]:=by rcases dw with h|h;exact absurd h (by omega);exact h
   have:¬ i<0:=by omega
   simp [Ud,this]
  ·have hp:(0:Int)<(u:Int):=by omega
   obtain⟨d1,d2⟩:=ab8 u hu;rw [d1,d2,ab9 u hu];simp only [hp,atF,atH,aL,atQ,gC (show 1+acc.length≤9223372036854775807 by omega)]
   rw [aH f (u / 10) _ (by omega) (by rw [Nat.pow_succ]at Z;omega) (by simp;omega) (.inr (by simp))]
   rw [if_neg h0]
   conv=>rhs;rw [Lib.decDigits]
   by_cases el:u<10
   ·rw [dif_pos el,if_pos (by omega),Nat.mod_eq_of_lt el];rfl
   ·rw [dif_neg el,if_neg (by omega)];simp
def ab'(n:Nat)(hn:30≤n)(i:Int)(h0:0≤i)(Z:i≤9223372036854775807):wS n i=some (Lib.decDigits i.toNat):=by
 unfold wS RQ;obtain⟨u,rfl⟩:=Int.eq_ofNat_of_zero_le h0;have:¬ (u:Int)<0:=by omega
 simp only [this,atG,atI,al,rG (show u<18446744073709551616 by omega),atN]
 obtain⟨k,rfl⟩:∃k,n=k+30:=⟨n-30,by omega⟩
 by_cases dw:u=0
 ·subst dw;rw [show qc (k+30) ((0:Nat):Int) (k+30)=sS (k+30) ((0:Nat):Int) (qc (k+30) ((0:Nat):Int) (k+28+1))from rfl]
  obtain⟨d1,d2⟩:=ab8 0 (by omega)
  have hs:=gC (n:=([UInt8.ofNat (48+0 % 10)]:atW).length+([]:atW).length) (by decide)
  simp only [sS,d1,d2,ab9 0 (by omega),hs,aL]
  rw [show qc (k+30) ((0:Nat):Int) (k+28+1)=sS (k+30) ((0:Nat):Int) (qc (k+30) ((0:Nat):Int) (k+28))from rfl]
  simp [sS,Eb,Lib.decDigits]
 ·have:=an2 (k+30) (u:Int) h0 20 (k+9) u [] (by omega) (by omega) (by simp) (.inl (by omega))
  rw [if_neg dw,List.append_nil,show 20+(k+9)+1=k+30 by omega]at this;exact this
def an3(n:Nat)(s:atW)(hs:s.length≤4611686018427387904):∀m i,s.length<i+m→i≤s.length→z7 n s m (i:Int)=some ((s.drop i).all okB):=by
 intro m;induction m with
 |zero=>intro i h aa;omega
 |succ m aH=>
  intro i hm hi;simp only [z7,RV,RU];by_cases h:i<s.length
  ·rw [e8 s i 0 h,bv (by omega),aH (i+1) (by omega) (by omega)]
   simp only [h,bI h,atN,atO,atF,atH,aL,atT,List.all_cons,pg,eL,dt,AH];cases okB (s.getD i 0)<;>simp
  ·rw [gu s i h];simp [h]
def ab_{n:Nat}(s:atW)(h:s.length<n)(hs:s.length≤4611686018427387904):RW n s=some (s.all okB):=by
 have:=an3 n s hs n 0 (by omega) (by omega)
 rw [List.drop_zero]at this;exact this
def take_one(s:atW)(i:Nat)(h:i<s.length):(s.take (i+1)).drop i=[s.getD i 0]:=by
 rw [List.drop_take,e8 s i 0 h];simp
def an4(n:Nat)(s:atW)(hs:s.length≤64):∀m i,s.length<i+m→i≤s.length→Ed n s m (34::gB (s.take i)) (i:Int)=some (quo s,0):=by
 intro m;induction m with
 |zero=>intro i h aa;omega
 |succ m aH=>
  intro i hm hi;simp only [Ed,RZ,RX,RY,J'];have hlen:=xj (s.take i);have Fe:(s.take i).length≤i:=by simp;omega
  by_cases h:i<s.length
  ·(rw [bv (by omega)];simp only [atN];rw [take_one s i h])
   have hn:=aH (i+1) (by omega) (by omega)
   have aF:s.take (i+1)=s.take i++[s.getD i 0]:=by
    rw [List.take_add,e8 s i 0 h,List.take_succ_cons,List.take_zero]
   rw [aF,abz]at hn;generalize s.getD i 0=c at hn
   simp only [h,bI h,atO,atF,atH,aL,atT,fq,dt,E' (show i≤i+1 by omega) (show i+1≤s.length by omega)]
   by_cases hc:c.toNat=34∨c.toNat=92
   ·have hb:(decide (c.toNat=34)||decide (c.toNat=92))=true:=by rcases hc with hc|hc<;>rw [decide_eq_true hc]<;>simp
    rw [hb];simp only [atH];rw [gC (by simp only [atL,atM];omega),gC (by simp only [atP,atL,atM];omega)]
    simp only [aL];rw [show(34::gB (s.take i)++[92]++[c])=34::(gB (s.take i)++gB [c])by simp only [gB];rw [if_pos hc];simp]
    exact hn
   ·have hb:(decide (c.toNat=34)||decide (c.toNat=92))=false:=by rw [decide_eq_false (λe=>hc (Or.inl e)),decide_eq_false (λe=>hc (Or.inr e))];rfl
    rw [hb];simp only [atI];rw [gC (by simp only [atL,atM];omega)]
    simp only [aL];rw [show(34::gB (s.take i)++[c])=34::(gB (s.take i)++gB [c])by simp only [gB];rw [if_neg hc];simp]
    exact hn
  ·have TR:i=s.length:=by omega
   subst TR;simp only [atO,Nat.lt_irrefl,atG,atI,List.take_length];have ab:=xj s;rw [gC (by simp only [atL,atM];omega)]
   rfl
def an5{n:Nat}(s:atW)(h:js s=true)(hn:100<n):J_ n s=some (quo s,0):=by
 unfold js at h;simp only [Bool.and_eq_true,decide_eq_true_eq]at h;unfold J_;simp only [eL,show¬ 64<s.length by omega,atG,atI,ab_ s (show s.length<n by omega) (by omega),al,h.1,atJ]
 exact an4 n s (by omega) n 0 (by omega) (by omega)
open Go Go.Ab Go.Proofs
def an6(n:Nat):k5 (n+1)=Ke n (k5 n) (wU n):=rfl
def an7(n:Nat):wU (n+1)=Kf n (k5 n) (wU n):=rfl
def FC{n:Nat}{e:Expr}{k:Nat}(h:k5 n e=some (flat (bR e)))(ab:(flat (bR e)).length≤100000000):wU (n+1) e (k:Int)=some (flat (fy e.Op (bR e) k)):=by
 rw [an7];unfold Kf fy;rw [ab6,h];simp only [al,atO];by_cases hk:b_ e.Op<k
 ·simp only [hk,atF,atH,atU];rw [gT (by simp;omega),gT (by simp;omega)]
  simp only [aL,flat,mF,spell,bb];simp
 ·simp only [hk,atG,atI,atV]
def an8:∀(h:Nat) (e:Expr) (n:Nat),fE e≤h→gK e→2*h+200≤n→dd e≤1000000→k5 n e=some (flat (bR e)):=by
 intro h;induction h with
 |zero=>intro e n he;rw [s7]at he;omega
 |succ h aH=>
  intro e n he cE hn am_;obtain⟨n,rfl⟩:∃j,n=j+1:=⟨n-1,by omega⟩
  obtain⟨n,rfl⟩:∃j,n=j+1:=⟨n-1,by omega⟩
  have nQ:=(LG e).1 cE;have uz:=qi e;rw [an6];unfold Ke;rw [ab6];simp only [al];rcases xi e cE with⟨Z,ao⟩|⟨Z,ao⟩|⟨Z,ao⟩|⟨ai,ao⟩|⟨a,ao,ha,bm,dV⟩|⟨a,b,ao,ha,hb,bm,dV⟩
  ·have e2:flat (bR e)=Lib.decDigits e.N.toNat++[]:=by rw [ao];rfl
   rw [ab' _ (by omega) e.N (nQ.2.1 Z).1 (nQ.2.1 Z).2,e2,List.append_nil]
   simp only [Z,atF,atH,al]
  ·have e2:flat (bR e)=quo e.S++[]:=by rw [ao];rfl
   rw [an5 e.S (nQ.2.2.2.2.1 Z) (by omega),e2,List.append_nil]
   simp only [Z,show¬ (2:Int)=1 by omega,atF,atG,atH,atI,al]
  ·have e2:flat (bR e)=e.S++[]:=by rw [ao];rfl
   rw [e2,List.append_nil];simp only [Z,show¬ (3:Int)=1 by omega,show¬ (3:Int)=2 by omega,atF,atG,atH,atI]
  ·have hw:=AY e.Op;have TT:=ab7 (n+1) e.Op (by omega)
   have fY:b_ e.Op=9:=by
    have:e.Op=25∨e.Op=26∨e.Op=27:=by omega
    rcases this with h|h|h<;>rw [h]<;>decide
   have e7:e.ar=[]:=by rw [ao]
   have e2:flat (bR e)=spell (hI e.Op)++([40]++([41]++[])):=by
    generalize e.Op=op at ai ao
    rw [ao];simp only [bR,jt,kO];rw [if_neg (by omega),if_neg (by omega),if_neg (by omega)];rfl
   rw [TT,e2];simp only [al];rw [gT (show(spell (hI e.Op)).length+([40,41]:atW).length≤1000000000000 by simp;omega)]
   simp only [fY,e7,show¬ e.Op=1 by omega,show¬ e.Op=2 by omega,show¬ e.Op=3 by omega,show¬ e.Op=18 by omega,show¬ e.Op=9 by omega,atG,atI,atM,fq,atF,atH,aL]
   simp
  ·have Fs:dd e=30+(dd a+1):=by rw [ao];simp [dd,mx]
   have qs:=aH a n (by omega) ha (by omega) (by omega)
   have TU:=aH a (n+1) (by omega) ha (by omega) (by omega)
   have Fr:=qS (fE a) a (Nat.le_refl _) ha;have e7:e.ar=[a]:=by rw [ao]
   have aj:=po a.Op (bR a) 3;have di:=po a.Op (bR a) 8
   have e2:bR e=if e.Op=18 then some (dD [110,111,116])::none::fy a.Op (bR a) 3 else if e.Op=9 then some (bb [45])::fy a.Op (bR a) 8 else some (hI e.Op)::some (bb [40])::(bR a++[some (bb [41])]):=by
    generalize e.Op=op at dV ao
    rw [ao];simp only [bR,jt,kO];rw [if_neg (by omega),if_neg (by omega),if_neg (by omega)]
   rw [e2,e7];simp only [atL,atM,l8 (show 0<0+1 by omega),aL,List.getD_cons_zero,show¬ e.Op=1 by omega,show¬ e.Op=2 by omega,show¬ e.Op=3 by omega,atG,atI]
   by_cases mG:e.Op=18
   ·have:=FC (k:=3) qs (by omega)
    rw [mG];simp only [atF,atH,atU,show b_ 18=3 from rfl]
    rw [this];simp only [al];rw [gT (by simp;omega)]
    rfl
   ·by_cases el:e.Op=9
    ·have:=FC (k:=8) qs (by omega)
     rw [el];simp only [show¬ (9:Int)=18 by omega,atF,atG,atH,atI,atU,atV,show b_ 9=8 from rfl]
     rw [this];simp only [al];rw [gT (by simp;omega)]
     rfl
    ·have TN:20≤e.Op∧e.Op≤24:=by omega
     have fY:b_ e.Op=9:=by
      have:e.Op=20∨e.Op=21∨e.Op=22∨e.Op=23∨e.Op=24:=by omega
      rcases this with h|h|h|h|h<;>rw [h]<;>decide
     have hw:=AY e.Op;rw [ab7 (n+1) e.Op (by omega),TU,if_neg mG,if_neg el]
     have e3:flat (some (hI e.Op)::some (bb [40])::(bR a++[some (bb [41])]))=spell (hI e.Op)++([40]++(flat (bR a)++([41]++[]))):=by
      simp only [flat,mF];rfl
     rw [e3];generalize spell (hI e.Op)=W at hw
     simp only [mG,el,fY,atG,atF,atI,atH,al];rw [gT (show W.length+(0+1)≤1000000000000 by omega),gT (show(W++([40]:atW)).length+(flat (bR a)).length≤1000000000000 by simp;omega),gT (show((W++([40]:atW))++flat (bR a)).length+(0+1)≤1000000000000 by simp;omega)]
     simp only [show((0+1:Nat):Int)=1 from rfl,show¬ (1:Int)=0 by omega,show((9:Nat):Int)=9 from rfl,atF,atG,atH,atI,aL]
     simp
  ·have Fs:dd e=30+(dd a+1+(dd b+1)):=by rw [ao];simp [dd,mx]
   have qs:=aH a n (by omega) ha (by omega) (by omega)
   have TV:=aH b n (by omega) hb (by omega) (by omega)
   have Fr:=qS (fE a) a (Nat.le_refl _) ha;have abB:=qS (fE b) b (Nat.le_refl _) hb;have e7:e.ar=[a,b]:=by rw [ao]
   have fY:=AU dV;have ana:=TS e.Op
   have e2:bR e=fy a.Op (bR a) (if b_ e.Op=4 then 5 else b_ e.Op)++none::some (nP e.Op)::none::fy b.Op (bR b) (b_ e.Op+1):=by
    generalize e.Op=op at dV ao
    rw [ao,LL dV]
   have aj:=po a.Op (bR a) (if b_ e.Op=4 then 5 else b_ e.Op)
   have di:=po b.Op (bR b) (b_ e.Op+1);have xk:=FC (k:=b_ e.Op+1) TV (by omega)
   rw [e2,e7,an1 (n+1) e.Op dV];simp only [atL,atM,l8 (show 0<0+1+1 by omega),aL,List.getD_cons_zero,List.getD_cons_succ,show¬ e.Op=1 by omega,show¬ e.Op=2 by omega,show¬ e.Op=3 by omega,show¬ e.Op=18 by omega,show¬ e.Op=9 by omega,atG,atI,fq,show¬ b_ e.Op=9 by omega,show aJ 1 (0+1+1)=true from rfl]
   by_cases aC:b_ e.Op=4
   ·have sh:=FC (k:=5) qs (by omega)
    rw [aC]at xk ⊢;rw [if_pos rfl];rw [if_pos aC]at aj;simp only [atF,atH];rw [show wU (n+1) a 5=_ from sh,show wU (n+1) b 5=_ from xk]
    simp only [al];rw [aC]at di;rw [gT (by simp;omega),gT (by simp;omega),gT (by simp;omega),gT (by simp only [atP,atL,atM];omega)]
    simp only [aL,mF,flat];simp
   ·have sh:=FC (k:=b_ e.Op) qs (by omega)
    rw [if_neg aC]at aj ⊢;simp only [aC,atG,atI];rw [sh,bv (by omega),xk]
    simp only [al];rw [gT (by simp;omega),gT (by simp;omega),gT (by simp;omega),gT (by simp only [atP,atL,atM];omega)]
    simp only [aL,mF,flat];simp
open Go Go.Ab Go.Proofs
def an9(n d:Nat)(hd:d≤100):∀m i,d<i+m→i≤d→Ec n (d:Int) m (ind i) (i:Int)=some (ind d):=by
 intro m;induction m with
 |zero=>intro i h aa;omega
 |succ m aH=>
  intro i hm hi;simp only [Ec,RS,RR,atO];by_cases h:i<d
  ·simp only [h,atF,atH];rw [gC (by rw [Fy];simp;omega),bv (by omega),←T0,aH (i+1) (by omega) (by omega)]
   rfl
  ·simp only [h,atG,atI];rw [show i=d by omega]
def an'{n d:Nat}(hd:d≤100)(hn:d<n):RT n (d:Int)=some (ind d):=an9 n d hd n 0 (by omega) (by omega)
def aca{n:Nat}{e:Expr}(h:iK e)(hn:300≤n)(aW:dd e≤1000000):k5 n e=some (e9 e):=an8 (fE e) e n (Nat.le_refl _) h.1 (by have:=h.2;omega) aW
def an_(n:Nat):rn (n+1)=Kg n (rn n) (z_ n):=rfl
def aoa(n:Nat):z_ (n+1)=Kh n (rn n) (z_ n):=rfl
set_option maxHeartbeats 4000000 in
def aob{n:Nat}{s:Stmt}{d:Nat}(cE:s9 s d)(aW:fst s≤300000)(hn:500≤n)
 (hb:rn n s.Body ((d+1:Nat):Int)=some (fz s.Body (d+1))) (he:rn n s.bx ((d+1:Nat):Int)=some (fz s.bx (d+1))):z_ (n+1) s (d:Int)=some (en s d):=by
 obtain⟨hd,hsh,cn,nQ⟩:=(uG s d).1 cE;have Z:=oF _ _ cn;have aa:=oF _ _ nQ;have hi:=Fy d;obtain⟨Op,Name,Max,A,B,Body,bx⟩:=s
 dsimp only at hb he cn nQ Z aa
 have mj:dd A≤300000∧dd B≤300000∧du Body≤300000∧du bx≤300000:=by simp only [fst]at aW;omega
 obtain⟨f1,f2,f3,f4⟩:=mj;rw [aoa];unfold Kh;rw [an' (by omega) (by omega)]
 simp only [al,i8,bv (show d≤4611686018427387904 by omega)]
 have aN:iK A→k5 n A=some (e9 A)∧(e9 A).length≤1200000:=λh=>⟨aca h (by omega) (by omega),by have:=mI h;omega⟩
 have cL:iK B→k5 n B=some (e9 B)∧(e9 B).length≤1200000:=λh=>⟨aca h (by omega) (by omega),by have:=mI h;omega⟩
 have aR:gv Name=true→Name.length≤16:=λh=>by obtain⟨_,_,_,_,_,_,h⟩:=LE h;exact h
 have cT:0≤Max∧Max≤999→wS n Max=some (Lib.decDigits Max.toNat)∧(Lib.decDigits Max.toNat).length≤21:=λh=>⟨ab' n (by omega) Max h.1 (by omega),AX Max h.1 (by omega)⟩
 unfold en;unfold Fu at hsh;simp only at hsh
 rcases hsh with⟨av,ao,Co,ha⟩|⟨ao,ha,qP⟩|⟨av,ao,ha⟩|⟨ao,ha⟩|⟨ao,Co,Oa,ha,qP⟩|⟨ao,Oa⟩
 ·obtain⟨aZ,a2⟩:=aN ha;have a3:=aR Co;rcases av with rfl|rfl
  ·simp (disch:=first|omega|(simp only [atP,atL,atM];omega)) only [aZ,decide_true,cond_true,al,gC,aL,if_true,dp,cat]
   simp
  ·simp (disch:=first|omega|(simp only [atP,atL,atM];omega)) only [aZ,show¬ (2:Int)=1 by omega,decide_true,decide_false,cond_false,if_false,cond_true,al,gC,aL,if_true,dp,cat]
   simp
 ·cases ao;obtain⟨aZ,a2⟩:=aN ha;obtain⟨cY,jj⟩:=cL qP;simp (disch:=first|omega|(simp only [atP,atL,atM];omega)) only [aZ,cY,show¬ (3:Int)=1 by omega,show¬ (3:Int)=2 by omega,decide_true,decide_false,cond_false,if_false,cond_true,al,gC,aL,if_true,dp,cat]
  simp
 ·obtain⟨aZ,a2⟩:=aN ha;rcases av with rfl|rfl<;>simp (disch:=first|omega|(simp only [atP,atL,atM];omega)) only [aZ,show¬ (4:Int)=1 by omega,show¬ (4:Int)=2 by omega,show¬ (4:Int)=3 by omega,show¬ (7:Int)=1 by omega,show¬ (7:Int)=2 by omega,show¬ (7:Int)=3 by omega,show¬ (7:Int)=4 by omega,show¬ (7:Int)=5 by omega,show¬ (7:Int)=6 by omega,decide_true,decide_false,cond_false,if_false,cond_true,al,gC,aL,if_true,dp,cat]<;>simp
 ·cases ao;obtain⟨aZ,a2⟩:=aN ha;have b3:¬ (5:Int)=1∧¬ (5:Int)=2∧¬ (5:Int)=3∧¬ (5:Int)=4∧¬ (5:Int)=7∧¬ (5:Int)=8∧¬ (5:Int)=6:=by omega
  obtain⟨e1,e2,e3,h',A4,L4,A5⟩:=b3;by_cases dw:bx.length=0
  ·simp (disch:=first|omega|(simp only [atP,atL,atM];omega)) only [aZ,hb,e1,e2,e3,h',A5,A4,L4,dw,Ef,Int.lt_irrefl,show¬ ((0:Int)<((0:Nat):Int))by omega,decide_true,decide_false,cond_false,if_false,cond_true,al,gC,aL,if_true,dp,cat]
   simp
  ·have hp:(0:Int)<((bx.length:Nat):Int):=by omega
   simp (disch:=first|omega|(simp only [atP,atL,atM];omega)) only [aZ,hb,he,hp,e1,e2,e3,h',A5,A4,L4,dw,Ef,decide_true,decide_false,cond_false,if_false,cond_true,al,gC,aL,if_true,dp,cat]
   simp
 ·cases ao;obtain⟨aZ,a2⟩:=aN ha;obtain⟨cY,jj⟩:=cL qP;obtain⟨m1,m2⟩:=cT ⟨by omega,by omega⟩
  have a3:=aR Co;have b3:¬ (6:Int)=1∧¬ (6:Int)=2∧¬ (6:Int)=3∧¬ (6:Int)=4∧¬ (6:Int)=7∧¬ (6:Int)=8∧¬ (6:Int)=5:=by omega
  obtain⟨e1,e2,e3,h',A4,L4,pP⟩:=b3;simp (disch:=first|omega|(simp only [atP,atL,atM];omega)) only [aZ,cY,m1,hb,e1,e2,e3,h',pP,A4,L4,decide_true,decide_false,cond_false,if_false,cond_true,al,gC,aL,if_true,dp,cat]
  simp
 ·cases ao;obtain⟨m1,m2⟩:=cT ⟨by omega,by omega⟩
  have b3:¬ (8:Int)=1∧¬ (8:Int)=2∧¬ (8:Int)=3∧¬ (8:Int)=4∧¬ (8:Int)=7∧¬ (8:Int)=5∧¬ (8:Int)=6:=by omega
  obtain⟨e1,e2,e3,h',A4,pP,A5⟩:=b3;simp (disch:=first|omega|(simp only [atP,atL,atM];omega)) only [m1,e1,e2,e3,h',pP,A5,A4,decide_true,decide_false,cond_false,if_false,cond_true,al,gC,aL,if_true,dp,cat]
  simp
open Go Go.Ab Go.Proofs
def aoc:∀(n:Nat) (l:List Stmt) (d:Nat),ko l d→du l≤300000→2*du l+600≤n→rn n l (d:Int)=some (fz l d):=by
 intro n;induction n using Nat.strongRecOn with
 |_ n aH=>
  intro l d cE aW hn;obtain⟨n,rfl⟩:∃k,n=k+2:=⟨n-2,by omega⟩
  have hlen:=s2 l;rw [an_];unfold Kg
  have gN:∀m i,l.length<i+m→i≤l.length→Ee (n+1) (rn (n+1)) (z_ (n+1)) l (d:Int) m (fz (l.take i) d) (i:Int)=some (fz l d):=by
   intro m;induction m with
   |zero=>intro i Z aa;omega
   |succ m k8=>
    intro i Z aa;simp only [Ee,R2,R1,atO,atN,my];by_cases hi:i<l.length
    ·simp only [hi,atF,atH,bI hi,aL];have dx:=T1 l i d hi cE;have xe:ko (l.take i) d:=((T2 (l.take i) (l.drop i) d).1 (by rw [List.take_append_drop];exact cE)).1
     have pR:=oF _ _ xe
     have ol:du l=du (l.take i)+(fst (l.getD i default)+1+du (l.drop (i+1))):=by
      have:du l=du (l.take i++l.drop i):=by rw [List.take_append_drop]
      rw [Tu,e8 l i default hi]at this;simpa only [du]using this
     have gn:=k8 (i+1) (by omega) (by omega)
     rw [xh l i hi,T3]at gn;generalize l.getD i default=s at dx ol gn
     have hx:=abM s d dx;have uz:=fst_eq s;obtain⟨_,_,aod,aoe⟩:=(uG s d).1 dx;have hb:=aH n (by omega) s.Body (d+1) aod (by omega) (by omega)
     have he:=aH n (by omega) s.bx (d+1) aoe (by omega) (by omega)
     rw [aob dx (by omega) (by omega) hb he,al,gC (by omega),aL,bv (by omega)]
     simpa only [fz,List.append_nil]using gn
    ·simp only [hi,atG,atI];rw [List.take_of_length_le (by omega)]
  exact gN (n+1) 0 (by omega) (by omega)
end Go.Ab.Y

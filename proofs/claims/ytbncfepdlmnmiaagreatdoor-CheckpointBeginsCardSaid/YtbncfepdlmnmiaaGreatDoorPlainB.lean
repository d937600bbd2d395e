/- The plain law: what the functions compute answers as the statement says. -/
import Derived.Lib.ItoaLen
import Derived.Test.YtbncfepdlmnmiaaGreatDoorPlainA
set_option linter.all false
namespace Go.Ab.Y
open Go Go.Ab Go.Proofs
def bN(l:List Token)(i:Nat)(T R:List Token):Prop:=(l.map dd).drop i=T++R
def ga(R:List Token)(w:av3):Bool:=
 match R with
 |[]=>false
 |t::_=>(decide (t.Kind=2)||decide (t.Kind=5))&&decide (t.Text=w)
def ao6(l:List Token)(i:Nat)(w:av3):hI l i w=ga ((l.map dd).drop i) w:=by
 unfold hI;by_cases h:i<l.length
 ·rw [fo (l.map dd) i default (by simpa using h)]
  have:(l.map dd).getD i default=dd (l.getD i default):=by simp [List.getD,h]
  rw [this];generalize l.getD i default=t
  simp only [ga,h,dd,avM,Bool.true_and]
  congr
 ·rw [gE (l.map dd) i (by simpa using h)]
  simp [ga,h]
def bN.is{l T R:List Token}{i:Nat}(h:bN l i T R)(w:av3):hI l i w=ga (T++R) w:=by rw [ao6,h]
def bN.adq{l T R:List Token}{i:Nat}(h:bN l i T R):ta l i=LQ (rF.find? λr=>ga (T++R) r.1):=by
 unfold ta
 congr 2
 funext r
 exact h.is r.1
def bN.call{l T R:List Token}{i:Nat}(h:bN l i T R):LS l i=call2 (qr.find? λr=>ga (T++R) r.1):=by
 unfold LS
 congr 2
 funext r
 exact h.is r.1
def bN.lt{l T R:List Token}{t:Token}{i:Nat}(h:bN l i (t::T) R):i<l.length:=by
 by_cases hi:i<l.length
 ·exact hi
 ·unfold bN at h;rw [gE (l.map dd) i (by simpa using hi)]at h
  cases h
def bN.hd{l T R:List Token}{t:Token}{i:Nat}(h:bN l i (t::T) R):dd (l.getD i default)=t:=by
 have hi:=h.lt;unfold bN at h;rw [fo (l.map dd) i default (by simpa using hi),List.cons_append]at h
 injection h with Z ab;rw [←Z];simp [List.getD,hi]
def bN.jK{l T U R:List Token}{i:Nat}(h:bN l i (T++U) R):bN l (i+T.length) U R:=by
 unfold bN at *;rw [←List.drop_drop,h,List.append_assoc,List.drop_left]
def bN.fX{l T R:List Token}{t:Token}{i:Nat}(h:bN l i (t::T) R):bN l (i+1) T R:=bN.jK (T:=[t]) (U:=T) h
def bN.lV{l T U R:List Token}{i:Nat}(h:bN l i (T++U) R):bN l i T (U++R):=by
 unfold bN at *;rw [h,List.append_assoc]
def bN.le{l T R:List Token}{i:Nat}(h:bN l i T R)(aC:T≠[]):i+T.length≤l.length:=by
 have:=congrArg List.length h
 simp only [List.length_drop,List.length_map,avW]at this;have:0<T.length:=List.length_pos_iff.2 aC
 omega
def i_(R:List Token):Int:=(LQ (rF.find? λr=>ga R r.1)).1
def UQ(op:Int)(R:List Token)(h:4≤op∧op≤8∨10≤op∧op≤17∨op=19):LQ (rF.find? λr=>ga (nX op::R) r.1)=(((cd op:Nat):Int),op):=by
 have:op=4∨op=5∨op=6∨op=7∨op=8∨op=10∨op=11∨op=12∨op=13∨op=14∨op=15∨op=16∨op=17∨op=19:=by omega
 rcases this with rfl|rfl|rfl|rfl|rfl|rfl|rfl|rfl|rfl|rfl|rfl|rfl|rfl|rfl<;>rfl
def adr(op:Int)(R:List Token)(h:20≤op∧op≤27):call2 (qr.find? λr=>ga (hJ op::R) r.1)=op:=by
 have:op=20∨op=21∨op=22∨op=23∨op=24∨op=25∨op=26∨op=27:=by omega
 rcases this with rfl|rfl|rfl|rfl|rfl|rfl|rfl|rfl<;>rfl
def ao7(R:List Token):call2 (qr.find? λr=>ga (bh [40]::R) r.1)=0:=rfl
section
variable {l:List Token}
def fU(l:List Token)(i d lv:Nat)(e:Expr)(k B:Nat):Prop:=∀n,B≤n→h5 n (lv:Int) (d:Int) ⟨l,(i:Int)⟩=some (.ret e (k:Int))
def pz(l:List Token)(i d:Nat)(e:Expr)(k B:Nat):Prop:=∀n,B≤n→m_ n (d:Int) ⟨l,(i:Int)⟩=some (.ret e (k:Int))
def Be(l:List Token)(i d:Nat)(e:Expr)(k B:Nat):Prop:=∀n,B≤n→oF n (d:Int) ⟨l,(i:Int)⟩=some (.ret e (k:Int))
theorem fU.mono{i d lv:Nat}{e:Expr}{k B ads:Nat}(h:fU l i d lv e k B)(cW:B≤ads):fU l i d lv e k ads:=λn hn=>h n (by omega)
theorem adt(e:Expr):(⟨e.Op,e.N,e.S,e.ax⟩:Expr)=e:=by cases e;rfl
theorem fU.down{i d lv:Nat}{e:Expr}{k B:Nat}(h:fU l i d (lv+1) e k B)(f7:1≤lv)(avb:lv≤7)(hs:(ta l k).1≠(lv:Int))(aj:lv=3→hI l i [110,111,116]=false):fU l i d lv e k (B+2):=by
 intro n hn;obtain⟨n,rfl⟩:∃j,n=j+1:=⟨n-1,by omega⟩
 have he:=h n (by omega)
 rw [Fx];unfold uv;simp only [fx,xA,an];by_cases e3:lv=3
 ·subst e3;rw [aj rfl];simp only [avM,avO,avP];rw [show h5 n 4 (d:Int) ⟨l,(i:Int)⟩=_ from he]
  rfl
 ·simp only [e3,show¬ lv=8 by omega,avN,avP]
  rw [eb (by omega),he]
  obtain⟨m,hm⟩:∃j,n=j+1:=⟨n-1,by omega⟩
  simp only [an,aG.on]
  conv=>lhs;arg 9;rw [hm]
  simp only [qf,DY,UB,an,hs,avN,avR,avO,adt]
theorem pz.down{i d:Nat}{e:Expr}{k B:Nat}(h:pz l i d e k B)(dr:hI l i [45]=false):fU l i d 8 e k (B+1):=by
 intro n hn;obtain⟨n,rfl⟩:∃j,n=j+1:=⟨n-1,by omega⟩
 rw [Fx];unfold uv;simp only [fx,xA,an,show¬ 8=3 by omega,avM,avN,avO,avP,dr]
 rw [h n (by omega)]
 rfl
theorem fU.L3{i d lv:Nat}{e:Expr}{k B:Nat}:∀(x:Nat),fU l i d (lv+x) e k B→1≤lv→lv+x≤8→(ta l k).1<(lv:Int)→(lv≤3→3<lv+x→hI l i [110,111,116]=false)→fU l i d lv e k (B+2*x)
 | 0,h,Z,ab,hs,aj=>h.mono (by omega)
 |x+1,h,Z,ab,hs,aj=>by
  have cS:fU l i d (lv+x) e k (B+2):=fU.down (lv:=lv+x) h (by omega) (by omega) (by omega) (λe3=>aj (by omega) (by omega))
  exact(fU.L3 x cS Z (by omega) hs (λa b=>aj a (by omega))).mono (by omega)
theorem Be.of{i d:Nat}{e:Expr}{k B:Nat}(aa:l.length≤1000000000)(hi:hI l i [40]=true)(h:fU l (i+1) d 1 e k B)(hk:hI l k [41]=true):Be l i d e (k+1) (B+1):=by
 intro n hn;obtain⟨n,rfl⟩:∃j,n=j+1:=⟨n-1,by omega⟩
 have Z:=Uz hi;have ab:=Uz hk;rw [aob];unfold Jj;rw [A' n l i _ (by omega) (by omega),hi]
 simp only [an,avO,aG.on];rw [show h5 n 1 (d:Int) ⟨l,((i+1:Nat):Int)⟩=_ from h n (by omega)]
 simp only [an,aG.on];rw [A' n l k _ (by omega) (by omega),hk]
 rfl
theorem Bf{n i d:Nat}(aa:l.length≤1000000000)(h:i<l.length):m_ (n+1) (d:Int) ⟨l,(i:Int)⟩ =
 if(l.getD i default).Kind=3 then some (.ret ⟨1,(l.getD i default).N,[],[]⟩ ((i+1:Nat):Int))else if(l.getD i default).Kind=4 then some (.ret ⟨2,0,(l.getD i default).Text,[]⟩ ((i+1:Nat):Int))
 else if(l.getD i default).Kind=1 then some (.ret ⟨3,0,(l.getD i default).Text,[]⟩ ((i+1:Nat):Int))else w0 n (h5 n) (oE n) (m_ n) (oF n) (d:Int) ⟨l,(i:Int)⟩ (i:Int):=by
 rw [aoa];unfold Ji
 (rw [eb (by omega)];simp only [avU];rw [acW (by omega)])
 simp only [avV,h,avM,avO,b1 h,aT];by_cases aj:(l.getD i default).Kind=3
 ·simp only [aj,avM,avO,av1]
 ·by_cases aD:(l.getD i default).Kind=4
  ·simp only [aD,show¬ (4:Int)=3 by omega,avM,avN,avO,avP,av1,av2]
  ·by_cases aX:(l.getD i default).Kind=1
   ·simp only [aX,show¬ (1:Int)=3 by omega,show¬ (1:Int)=4 by omega,avM,avN,avO,avP,av1,av2]
   ·simp only [aj,aD,aX,avN,avP,av2]
theorem pz.paren{i d:Nat}{e:Expr}{k B:Nat}(aa:l.length≤1000000000)(hg:lk l){T R:List Token}(aS:bN l i (bh [40]::T) R)(hd:d≤23)(h:Be l i (d+1) e k B):pz l i d e k (B+1):=by
 intro n hn;obtain⟨n,rfl⟩:∃j,n=j+1:=⟨n-1,by omega⟩
 have cO:=aS.lt;have bm:=aS.hd;have hk:(l.getD i default).Kind=5:=by have:=congrArg Token.Kind bm;exact this
 rw [Bf aa cO,hk,if_neg (by decide),if_neg (by decide),if_neg (by decide)]
 unfold w0 Jh;rw [UC n l i hg,aS.call,List.cons_append,ao7,xA,aS.is,List.cons_append,UD n l i d (by omega) (by omega),if_neg (by omega)]
 simp only [an,avM,avO,show ga (bh [40]::(T++R)) [40]=true from rfl,avQ,avP,aG.on]
 rw [h n (by omega)]
 rfl
theorem pz.word{i d:Nat}{e:Expr}{k B:Nat}{op:Int}(d':20≤op∧op≤24)(aa:l.length≤1000000000)(hg:lk l){T R:List Token}(aS:bN l i (hJ op::T) R)(hd:d≤23)(h:Be l (i+1) (d+1) e k B):pz l i d ⟨op,0,[],[e]⟩ k (B+1):=by
 intro n hn;obtain⟨n,rfl⟩:∃j,n=j+1:=⟨n-1,by omega⟩
 have cO:=aS.lt;have bm:=aS.hd;have hk:(l.getD i default).Kind=2:=by have:=congrArg Token.Kind bm;exact this.trans (Bd op).2
 rw [Bf aa cO,hk,if_neg (by decide),if_neg (by decide),if_neg (by decide)]
 unfold w0 zQ QV;rw [UC n l i hg,aS.call,List.cons_append,adr op _ (by omega),UD n l i d (by omega) (by omega),if_neg (by omega)]
 simp only [an,show¬ op=0 by omega,show¬ op=25 by omega,show¬ op=26 by omega,show¬ op=27 by omega,avN,avP,aG.on]
 rw [eb (by omega),h n (by omega)]
 rfl
theorem pz.ao8{i d:Nat}{op:Int}(d':25≤op∧op≤27)(aa:l.length≤1000000000)(hg:lk l){R:List Token}(aS:bN l i [hJ op,bh [40],bh [41]] R):pz l i d ⟨op,0,[],[]⟩ (i+3) 1:=by
 intro n hn;obtain⟨n,rfl⟩:∃j,n=j+1:=⟨n-1,by omega⟩
 have cO:=aS.lt;have bm:=aS.hd;have Z:=aS.fX.is [40];have ab:=aS.fX.fX.is [41];have hk:(l.getD i default).Kind=2:=by have:=congrArg Token.Kind bm;exact this.trans (Bd op).2
 rw [Bf aa cO,hk,if_neg (by decide),if_neg (by decide),if_neg (by decide)]
 unfold w0 zQ;rw [UC n l i hg,aS.call,List.cons_append,adr op _ (by omega),eb (by omega),A' n l (i+1) _ (by omega) (by omega),Z]
 simp only [an,show¬ op=0 by omega,avN,avP,show ga ([bh [40],bh [41]]++R) [40]=true from rfl,cond_true,aG.on]
 rw [A' n l (i+1+1) _ (by omega) (by omega),ab]
 simp only [an,show ga ([bh [41]]++R) [41]=true from rfl,cond_true,aG.on]
 by_cases aX:op=25
 ·simp only [aX,avM,avO]
 ·by_cases bW:op=26
  ·simp only [bW,show¬ (26:Int)=25 by omega,avM,avN,avO,avP]
  ·obtain rfl:op=27:=by omega
   simp only [show¬ (27:Int)=25 by omega,show¬ (27:Int)=26 by omega,avM,avN,avO,avP]
theorem fU.adu{i d lv:Nat}{e:Expr}{k B:Nat}{op:Int}{w:av3}(aw:(lv=3∧w=[110,111,116]∧op=18)∨(lv=8∧w=[45]∧op=9))(aa:l.length≤1000000000)(hi:hI l i w=true)(hd:d≤23)(h:fU l (i+1) (d+1) lv e k B):fU l i d lv ⟨op,0,[],[e]⟩ k (B+2):=by
 intro n hn;obtain⟨n,rfl⟩:∃j,n=j+1:=⟨n-1,by omega⟩
 obtain⟨n,rfl⟩:∃j,n=j+1:=⟨n-1,by omega⟩
 have cO:=Uz hi
 have hp:oE (n+1) op (lv:Int) (d:Int) ⟨l,(i:Int)⟩=some (.ret ⟨op,0,[],[e]⟩ (k:Int)):=by
  rw [an_];unfold Jg;rw [UD n l i d (by omega) (by omega),if_neg (by omega)]
  simp only [an,aG.on];rw [eb (by omega),h n (by omega)]
  rfl
 rw [Fx];unfold uv;rcases aw with⟨rfl,rfl,rfl⟩|⟨rfl,rfl,rfl⟩
 ·simp only [fx,xA,an,hi,avM,avO,hp,aG.on]
 ·simp only [fx,xA,an,hi,show¬ 8=3 by omega,avM,avN,avO,avP,hp,aG.on]
end
def ao9{op:Int}{p:ln}{k:Nat}{R:List Token}{w:av3}(hw:w≠[40])(h:cd op<k):ga (df (fD op p k)++R) w=false:=by
 unfold fD;rw [if_pos h];simp only [df,List.cons_append,ga,bh,decide_eq_false (show¬ ([40]:av3)=w from λe=>hw e.symm),Bool.and_false]
def ao'{l:List Expr}{n:Int}(h:(l.length:Int)=n)(ab:n=2):∃a b,l=[a,b]:=by
 match l,h with
 |[a,b],_=>exact⟨a,b,rfl⟩
 |[],h=>simp at h;omega
 |[a],h=>simp at h;omega
 |a::b::c::l,h=>simp at h;omega
def ao_{l:List Expr}{n:Int}(h:(l.length:Int)=n)(ab:n=1):∃a,l=[a]:=by
 match l,h with
 |[a],_=>exact⟨a,rfl⟩
 |[],h=>simp at h;omega
 |a::b::l,h=>simp at h;omega
def apa{l:List Expr}{n:Int}(h:(l.length:Int)=n)(ab:n=0):l=[]:=by
 match l,h with
 |[],_=>rfl
 |a::l,h=>simp at h;omega
def xD(e:Expr)(h:gO e):
 (e.Op=1∧e=⟨1,e.N,[],[]⟩)∨(e.Op=2∧e=⟨2,0,e.S,[]⟩)∨(e.Op=3∧e=⟨3,0,e.S,[]⟩)∨((25≤e.Op∧e.Op≤27)∧e=⟨e.Op,0,[],[]⟩)∨
 (∃a,e=⟨e.Op,0,[],[a]⟩∧gO a∧fJ e=1+fJ a∧(e.Op=9∨e.Op=18∨20≤e.Op∧e.Op≤24))∨
 (∃a b,e=⟨e.Op,0,[],[a,b]⟩∧gO a∧gO b∧fJ e=1+max (fJ a) (fJ b)∧(4≤e.Op∧e.Op≤8∨10≤e.Op∧e.Op≤17∨e.Op=19)):=by
 obtain⟨Op,N,S,ax⟩:=e;obtain⟨⟨Z,ab⟩,aj,aD,aX,bW,cZ,dr⟩:=h;rcases ao5 Z with⟨ha,hb⟩|⟨ha,hb⟩|⟨ha,hb⟩
 ·obtain rfl:=apa ab ha;by_cases e1:Op=1
  ·subst e1;obtain rfl:=aX (by omega);exact Or.inl ⟨rfl,rfl⟩
  ·obtain rfl:=aD e1;by_cases e2:Op=2
   ·subst e2;exact Or.inr (Or.inl ⟨rfl,rfl⟩)
   ·by_cases e3:Op=3
    ·subst e3;exact Or.inr (Or.inr (Or.inl ⟨rfl,rfl⟩))
    ·obtain rfl:=aX ⟨e2,e3⟩;exact Or.inr (Or.inr (Or.inr (Or.inl ⟨⟨by simp only;omega,by simp only;omega⟩,rfl⟩)))
 ·obtain⟨a,rfl⟩:=ao_ ab ha;obtain rfl:=aD (by omega)
  obtain rfl:=aX (by omega)
  exact Or.inr (Or.inr (Or.inr (Or.inr (Or.inl ⟨a,rfl,dr.1,by simp [fJ,qv],hb⟩))))
 ·obtain⟨a,b,rfl⟩:=ao' ab ha;obtain rfl:=aD (by omega)
  obtain rfl:=aX (by omega)
  exact Or.inr (Or.inr (Or.inr (Or.inr (Or.inr ⟨a,b,rfl,dr.1,dr.2.1,by simp [fJ,qv],hb⟩))))
def L4{op:Int}{a b:Expr}(h:4≤op∧op≤8∨10≤op∧op≤17∨op=19):bX ⟨op,0,[],[a,b]⟩=fD a.Op (bX a) (if cd op=4 then 5 else cd op)++none::some (nX op)::none::fD b.Op (bX b) (cd op+1):=by
 simp only [bX,jw,kX];rw [if_neg (by omega),if_neg (by omega),if_neg (by omega)]
def FE{op:Int}{a b:Expr}(h:4≤op∧op≤8∨10≤op∧op≤17∨op=19):df (bX ⟨op,0,[],[a,b]⟩)=df (fD a.Op (bX a) (if cd op=4 then 5 else cd op))++nX op::df (fD b.Op (bX b) (cd op+1)):=by
 rw [L4 h,tf];rfl
def Bg{op:Int}(h:4≤op∧op≤8∨10≤op∧op≤17∨op=19):cd op=1∨cd op=2∨cd op=4∨cd op=5∨cd op=6∨cd op=7:=by
 have:op=4∨op=5∨op=6∨op=7∨op=8∨op=10∨op=11∨op=12∨op=13∨op=14∨op=15∨op=16∨op=17∨op=19:=by omega
 rcases this with rfl|rfl|rfl|rfl|rfl|rfl|rfl|rfl|rfl|rfl|rfl|rfl|rfl|rfl<;>decide
def UR(op:Int):1≤cd op∧cd op≤9:=by
 unfold cd;by_cases Z:op=17
 ·rw [if_pos Z];omega
 by_cases ab:op=16
 ·rw [if_neg Z,if_pos ab];omega
 by_cases aj:op=18
 ·rw [if_neg Z,if_neg ab,if_pos aj];omega
 by_cases aD:10≤op∧op≤15
 ·rw [if_neg Z,if_neg ab,if_neg aj,if_pos aD];omega
 by_cases aX:op=19
 ·rw [if_neg Z,if_neg ab,if_neg aj,if_neg aD,if_pos aX];omega
 by_cases bW:op=4∨op=5
 ·rw [if_neg Z,if_neg ab,if_neg aj,if_neg aD,if_neg aX,if_pos bW];omega
 by_cases cZ:6≤op∧op≤8
 ·rw [if_neg Z,if_neg ab,if_neg aj,if_neg aD,if_neg aX,if_neg bW,if_pos cZ];omega
 by_cases dr:op=9
 ·rw [if_neg Z,if_neg ab,if_neg aj,if_neg aD,if_neg aX,if_neg bW,if_neg cZ,if_pos dr];omega
 rw [if_neg Z,if_neg ab,if_neg aj,if_neg aD,if_neg aX,if_neg bW,if_neg cZ,if_neg dr];omega
def adv{c:Prop}[Decidable c]{a b:Token}{R:List Token}{w:av3}(ha:ga (a::R) w=false)(hb:ga (b::R) w=false):ga ((if c then a else b)::R) w=false:=by
 by_cases h:c
 ·rw [if_pos h];exact ha
 ·rw [if_neg h];exact hb
def L5(op:Int)(R:List Token):ga (hJ op::R) [110,111,116]=false∧ga (hJ op::R) [45]=false:=by
 unfold hJ;constructor
 ·repeat refine adv rfl ?_
  rfl
 ·repeat refine adv rfl ?_
  rfl
def adw:∀(h:Nat) (e:Expr),fJ e≤h→gO e→3<cd e.Op→∀R,ga (df (bX e)++R) [110,111,116]=false:=by
 intro h;induction h with
 |zero=>intro e he;rw [tg]at he;omega
 |succ h aJ=>
  intro e he cP f7 R;rcases xD e cP with⟨_,au⟩|⟨_,au⟩|⟨_,au⟩|⟨ai,au⟩|⟨a,au,ha,bm,d'⟩|⟨a,b,au,ha,hb,bm,d'⟩
  ·rw [au];rfl
  ·rw [au];rfl
  ·rw [au];rfl
  ·generalize e.Op=op at ai au
   rw [au];simp only [bX,jw,kX];rw [if_neg (by omega),if_neg (by omega),if_neg (by omega)]
   exact(L5 _ _).1
  ·generalize e.Op=op at f7 au d'
   rw [au];simp only [bX,jw,kX];rw [if_neg (by omega),if_neg (by omega),if_neg (by omega)]
   by_cases mM:op=18
   ·rw [mM]at f7;exact absurd f7 (by decide)
   ·rw [if_neg mM];by_cases eR:op=9
    ·rw [if_pos eR];rfl
    ·rw [if_neg eR];exact(L5 _ _).1
  ·generalize e.Op=op at f7 au d'
   rw [au,FE d',List.append_assoc];by_cases hp:cd a.Op<(if cd op=4 then 5 else cd op)
   ·exact ao9 (by decide) hp
   ·unfold fD;rw [if_neg hp];refine aJ a (by omega) ha ?_ _
    split at hp<;>omega
def apb(e:Expr)(cP:gO e)(f7:8<cd e.Op)(R:List Token):ga (df (bX e)++R) [45]=false:=by
 rcases xD e cP with⟨_,au⟩|⟨_,au⟩|⟨_,au⟩|⟨ai,au⟩|⟨a,au,ha,bm,d'⟩|⟨a,b,au,ha,hb,bm,d'⟩
 ·rw [au];rfl
 ·rw [au];rfl
 ·rw [au];rfl
 ·generalize e.Op=op at ai au
  rw [au];simp only [bX,jw,kX];rw [if_neg (by omega),if_neg (by omega),if_neg (by omega)]
  exact(L5 _ _).2
 ·generalize e.Op=op at f7 au d'
  rw [au];simp only [bX,jw,kX];rw [if_neg (by omega),if_neg (by omega),if_neg (by omega)]
  by_cases mM:op=18
  ·rw [mM]at f7;exact absurd f7 (by decide)
  ·rw [if_neg mM];by_cases eR:op=9
   ·rw [eR]at f7;exact absurd f7 (by decide)
   ·rw [if_neg eR];exact(L5 _ _).2
 ·have:=Bg d';omega
section
variable {l:List Token}
abbrev eZ(e:Expr)(lv:Nat):List Token:=df (fD e.Op (bX e) lv)
def qw(l:List Token)(e:Expr):Prop:=∀(lv i d:Nat) (R:List Token),1≤lv→lv≤8→bN l i (eZ e lv) R→i_ R<(lv:Int)→d+2*fJ e≤25∨(lv≤cd e.Op∧d+2*fJ e≤26)→
 fU l i d lv e (i+(eZ e lv).length) (24*(eZ e lv).length+40-2*lv)
def US(l:List Token)(e:Expr):Prop:=∀(L i d:Nat) (R:List Token),(L=1∨L=2∨L=5∨L=6∨L=7)→bN l i (eZ e L) R→i_ R≤(L:Int)→d+2*fJ e≤25→∀n,24*(eZ e L).length+40≤n+2*L+1→
 ∃j,j≤(eZ e L).length∧h5 (n+1) (L:Int) (d:Int) ⟨l,(i:Int)⟩=qf n (h5 n) (oE n) (m_ n) (oF n) (L:Int) (d:Int) ⟨l,(i:Int)⟩ (n-j) ((i+(eZ e L).length:Nat):Int) e.Op e.N e.S e.ax
theorem bN.UT{T R:List Token}{i:Nat}(h:bN l i T R)(aC:T≠[]):(ta l (i+T.length)).1=i_ R:=by
 have ab:bN l (i+T.length) [] R:=by
  unfold bN at *;rw [←List.drop_drop,h,List.drop_left];rfl
 rw [ab.adq];rfl
theorem adx{n i d L k m:Nat}{op:Int}{a b:Expr}(aa:l.length≤1000000000)(d':4≤op∧op≤8∨10≤op∧op≤17∨op=19)(dc:L=cd op)(hb:qw l b){R:List Token}
 (aS:bN l k (nX op::eZ b (L+1)) R) (gm:i_ R≤(L:Int)) (hd:d+2*fJ b≤25) (hn:24*(eZ b (L+1)).length+40≤n+2*(L+1)):
 qf n (h5 n) (oE n) (m_ n) (oF n) (L:Int) (d:Int) ⟨l,(i:Int)⟩ (m+1) (k:Int) a.Op a.N a.S a.ax =
  if L=4 then some (.ret ⟨op,0,[],[a,b]⟩ ((k+1+(eZ b (L+1)).length:Nat):Int)) else
  qf n (h5 n) (oE n) (m_ n) (oF n) (L:Int) (d:Int) ⟨l,(i:Int)⟩ m ((k+1+(eZ b (L+1)).length:Nat):Int) op 0 [] [a,b]:=by
 have f7:=Bg d';have hk:=aS.lt;have apc:ta l k=((L:Int),op):=by rw [aS.adq,List.cons_append,UQ op _ d',dc]
 have cW:=hb (L+1) (k+1) d R (by omega) (by omega) aS.fX (by omega) (Or.inl hd) n (by omega)
 simp only [qf,DY];rw [UB,apc];simp only [an,avM,avQ,avP];rw [eb (by omega),eb (by omega),cW]
 simp only [an,aG.on,fx,adt];by_cases aD:L=4
 ·simp only [aD,avM,avO,av1]
 ·simp only [aD,avN,avP,av2]
theorem L6(e:Expr)(lv:Nat)(h:gO e):eZ e lv≠[]:=by
 unfold eZ fD;split
 ·simp [df]
 ·rcases xD e h with⟨_,au⟩|⟨_,au⟩|⟨_,au⟩|⟨ai,au⟩|⟨a,au,ha,bm,d'⟩|⟨a,b,au,ha,hb,bm,d'⟩
  ·rw [au];simp [bX,kX,df]
  ·rw [au];simp [bX,kX,df]
  ·rw [au];simp [bX,kX,df]
  ·generalize e.Op=op at ai au
   rw [au];simp only [bX,jw,kX];rw [if_neg (by omega),if_neg (by omega),if_neg (by omega)]
   simp [df]
  ·generalize e.Op=op at d' au
   rw [au];simp only [bX,jw,kX];rw [if_neg (by omega),if_neg (by omega),if_neg (by omega)]
   split
   ·simp [df]
   ·split<;>simp [df]
  ·generalize e.Op=op at d' au
   rw [au,FE d'];simp
theorem ady{i d n:Nat}{op:Int}{a b:Expr}(aa:l.length≤1000000000)(d':4≤op∧op≤8∨10≤op∧op≤17∨op=19)(adz:cd op≠4)(avc:gO a)(ha:US l a)(hb:qw l b){R:List Token}
 (aS:bN l i (df (bX ⟨op,0,[],[a,b]⟩)) R) (gm:i_ R≤(cd op:Int)) (apd:d+2*fJ a≤25) (ape:d+2*fJ b≤25) (hn:24*(df (bX ⟨op,0,[],[a,b]⟩)).length+40≤n+2*cd op+1):
 ∃j,j≤(df (bX ⟨op,0,[],[a,b]⟩)).length∧h5 (n+1) (cd op:Int) (d:Int) ⟨l,(i:Int)⟩ =
  qf n (h5 n) (oE n) (m_ n) (oF n) (cd op:Int) (d:Int) ⟨l,(i:Int)⟩ (n-j) ((i+(df (bX ⟨op,0,[],[a,b]⟩)).length:Nat):Int) op 0 [] [a,b]:=by
 have f7:=Bg d';have aF:=FE (a:=a) (b:=b) d';rw [if_neg adz]at aF;rw [aF]at aS hn ⊢;have bG:df (fD a.Op (bX a) (cd op))=eZ a (cd op):=rfl;have e1:df (fD b.Op (bX b) (cd op+1))=eZ b (cd op+1):=rfl;rw [bG,e1]at aS hn ⊢;have apf:=aS.lV;simp only [avW,avS]at hn ⊢;obtain⟨j,hj,UU⟩:=ha (cd op) i d _ (by omega) apf (by unfold i_;rw [List.cons_append,UQ op _ d'];exact Int.le_refl _) apd n (by omega)
 refine⟨j+1,by omega,?_⟩
 rw [UU];obtain⟨m,hm⟩:∃m,n-j=m+1:=⟨n-j-1,by omega⟩
 rw [hm,adx aa d' rfl hb aS.jK gm ape (by omega),if_neg adz]
 rw [show n-(j+1)=m by omega,show i+(eZ a (cd op)).length+1+(eZ b (cd op+1)).length=i+((eZ a (cd op)).length+((eZ b (cd op+1)).length+1))by omega]
end
section
variable {l:List Token}
def fF(l:List Token)(e:Expr):Prop:=∀(i d:Nat) (R:List Token),bN l i (df (bX e)) R→i_ R<(cd e.Op:Int)→d+2*fJ e≤26→
 if cd e.Op=9 then pz l i d e (i+(df (bX e)).length) (24*(df (bX e)).length+20)else fU l i d (cd e.Op) e (i+(df (bX e)).length) (24*(df (bX e)).length+40-2*cd e.Op)
theorem UV(aa:l.length≤1000000000)(e:Expr)(t:Token)(eR:cd e.Op=9)(aF:df (bX e)=[t])(hu:∀n i d,i<l.length→dd (l.getD i default)=t→m_ (n+1) ((d:Nat):Int) ⟨l,(i:Int)⟩=some (.ret e ((i+1:Nat):Int))):fF l e:=by
 intro i d R aS gm hd;rw [if_pos eR];intro n hn;obtain⟨n,rfl⟩:∃j,n=j+1:=⟨n-1,by omega⟩
 rw [aF]at aS ⊢;exact hu n i d aS.lt aS.hd
theorem L7{t u:Token}(h:dd t=u):t.Kind=u.Kind∧t.Text=u.Text∧t.N=u.N:=by subst h;exact⟨rfl,rfl,rfl⟩
theorem Bh(aa:l.length≤1000000000)(hg:lk l){e:Expr}(cP:gO e)(h:fF l e):qw l e:=by
 have W9:=UR e.Op
 have dk:df (bX e)≠[]:=by
  have:=L6 e 0 cP
  unfold eZ fD at this
  rwa [if_neg (by omega)]at this
 have GO:0<(df (bX e)).length:=List.length_pos_iff.2 dk
 -- agR avd, from any level below
 have core:∀(lv i d:Nat) (R:List Token),1≤lv→lv≤8→lv≤cd e.Op→bN l i (df (bX e)) R→i_ R<(lv:Int)→d+2*fJ e≤26→fU l i d lv e (i+(df (bX e)).length) (24*(df (bX e)).length+40-2*lv):=by
  intro lv i d R Z dr f7 aS gm hd;have uV:=aS.UT dk;have hc:=h i d R aS (by omega) hd
  by_cases eR:cd e.Op=9
  ·rw [if_pos eR]at hc;have lA:=hc.down (by rw [aS.is];exact apb e cP (by omega) R)
   have:=fU.L3 (lv:=lv) (8-lv) (by rw [show lv+(8-lv)=8 by omega];exact lA) Z (by omega) (by rw [uV];exact gm) (λ_ _=>by rw [aS.is];exact adw (fJ e) e (Nat.le_refl _) cP (by omega) R)
   exact this.mono (by omega)
  ·rw [if_neg eR]at hc;have:=fU.L3 (lv:=lv) (cd e.Op-lv) (by rw [show lv+(cd e.Op-lv)=cd e.Op by omega];exact hc) Z (by omega) (by rw [uV];exact gm) (λ_ _=>by rw [aS.is];exact adw (fJ e) e (Nat.le_refl _) cP (by omega) R)
   exact this.mono (by omega)
 intro lv i d R Z dr aS gm hd;by_cases hp:cd e.Op<lv
 ·have ave:d+2*fJ e≤25:=by rcases hd with h|h<;>omega
  have bm:=tg e
  have th:eZ e lv=bh [40]::(df (bX e)++[bh [41]]):=by
   unfold eZ fD;rw [if_pos hp];simp only [df,tf]
  have uV:=aS.UT (L6 e lv cP);rw [th]at aS uV ⊢;simp only [avS,avW,avT]at uV ⊢;have adA:=aS.fX;have uQ:=adA.jK;have hin:=core 1 (i+1) (d+1) _ (by omega) (by omega) (by omega) adA.lV (by show i_ (bh [41]::R)<1;rw [show i_ (bh [41]::R)=0 from rfl];omega) (by omega)
  have my:=Be.of aa (by rw [aS.is];rfl) hin (by rw [uQ.is];rfl)
  have f6:=pz.paren aa hg aS (by omega) my
  have lA:=f6.down (by rw [aS.is];rfl)
  have:=fU.L3 (lv:=lv) (8-lv) (by rw [show lv+(8-lv)=8 by omega];exact lA) Z (by omega) (by rw [show i+1+(df (bX e)).length+1=i+((df (bX e)).length+(0+1)+1)by omega,uV];exact gm) (λ_ _=>by rw [aS.is];rfl)
  rw [show i+1+(df (bX e)).length+1=i+((df (bX e)).length+(0+1)+1)by omega]at this
  exact this.mono (by omega)
 ·have th:eZ e lv=df (bX e):=by unfold eZ fD;rw [if_neg hp]
  rw [th]at aS ⊢;exact core lv i d R Z dr (by omega) aS gm (by rcases hd with h|h<;>omega)
theorem Bi{e:Expr}(cP:gO e)(b7:qw l e)
 (apg:cd e.Op=1∨cd e.Op=2∨cd e.Op=5∨cd e.Op=6∨cd e.Op=7→∀(i d n:Nat) (R:List Token),bN l i (df (bX e)) R→i_ R≤(cd e.Op:Int)→d+2*fJ e≤26→24*(df (bX e)).length+40≤n+2*cd e.Op+1→
  ∃j,j≤(df (bX e)).length∧h5 (n+1) (cd e.Op:Int) (d:Int) ⟨l,(i:Int)⟩=qf n (h5 n) (oE n) (m_ n) (oF n) (cd e.Op:Int) (d:Int) ⟨l,(i:Int)⟩ (n-j) ((i+(df (bX e)).length:Nat):Int) e.Op e.N e.S e.ax):US l e:=by
 intro L i d R dc aS gm hd n hn;by_cases hp:cd e.Op=L
 ·have th:eZ e L=df (bX e):=by unfold eZ fD;rw [if_neg (by omega)]
  rw [th]at aS hn ⊢;subst hp;exact apg dc i d n R aS gm (by omega) hn
 ·have th:eZ e (L+1)=eZ e L:=by
   unfold eZ fD;by_cases h:cd e.Op<L
   ·rw [if_pos h,if_pos (by omega)]
   ·rw [if_neg h,if_neg (by omega)]
  have h:=b7 (L+1) i d R (by omega) (by omega) (by rw [th];exact aS) (by omega) (Or.inl hd) n (by rw [th];omega)
  rw [th]at h;refine⟨0,by omega,?_⟩
  rw [Fx];unfold uv;simp only [fx,show¬ L=3 by omega,show¬ L=8 by omega,avN,avP]
  rw [eb (by omega),h]
  simp only [an,aG.on,Nat.sub_zero]
theorem aph(aa:l.length≤1000000000)(hg:lk l):∀(h:Nat) (e:Expr),fJ e≤h→gO e→qw l e∧US l e:=by
 intro h;induction h with
 |zero=>intro e he;rw [tg]at he;omega
 |succ h aJ=>
  intro e he cP;rcases xD e cP with⟨Z,au⟩|⟨Z,au⟩|⟨Z,au⟩|⟨ai,au⟩|⟨a,au,ha,bm,d'⟩|⟨a,b,au,ha,hb,bm,d'⟩
  ·have b7:qw l e:=Bh aa hg cP (by
    rw [au];refine UV aa _ (nW e.N) rfl rfl λn i d hi aF=>?_
    obtain⟨Z,ab,aj⟩:=L7 aF;rw [Bf aa hi,Z,aj];rfl)
   exact⟨b7,Bi cP b7 (λhc=>by rw [Z]at hc;exact absurd hc (by decide))⟩
  ·have b7:qw l e:=Bh aa hg cP (by
    rw [au];refine UV aa _ (LY e.S) rfl rfl λn i d hi aF=>?_
    obtain⟨Z,ab,aj⟩:=L7 aF;rw [Bf aa hi,Z,ab];rfl)
   exact⟨b7,Bi cP b7 (λhc=>by rw [Z]at hc;exact absurd hc (by decide))⟩
  ·have b7:qw l e:=Bh aa hg cP (by
    rw [au];refine UV aa _ (hW e.S) rfl rfl λn i d hi aF=>?_
    obtain⟨Z,ab,aj⟩:=L7 aF;rw [Bf aa hi,Z,ab];rfl)
   exact⟨b7,Bi cP b7 (λhc=>by rw [Z]at hc;exact absurd hc (by decide))⟩
  ·have f7:cd e.Op=9:=by
    have:e.Op=25∨e.Op=26∨e.Op=27:=by omega
    rcases this with h|h|h<;>rw [h]<;>decide
   have b7:qw l e:=Bh aa hg cP (by
    intro i d R aS gm hd;rw [if_pos f7];generalize e.Op=op at ai au
    have aF:df (bX e)=[hJ op,bh [40],bh [41]]:=by
     rw [au];simp only [bX,jw,kX];rw [if_neg (by omega),if_neg (by omega),if_neg (by omega)];rfl
    rw [aF]at aS ⊢;rw [au];exact λn hn=>pz.ao8 ai aa hg aS n (by simp only [avS,avT]at hn;omega))
   exact⟨b7,Bi cP b7 (λhc=>by omega)⟩
  ·obtain⟨FF,UW⟩:=aJ a (by omega) ha
   have f7:cd e.Op=9∨cd e.Op=3∨cd e.Op=8:=by
    have:e.Op=9∨e.Op=18∨e.Op=20∨e.Op=21∨e.Op=22∨e.Op=23∨e.Op=24:=by omega
    rcases this with h|h|h|h|h|h|h<;>rw [h]<;>decide
   have b7:qw l e:=Bh aa hg cP (by
    intro i d R aS gm hd;rw [bm]at hd;have avf:=tg a;generalize e.Op=op at d' au f7 gm
    have dk:=L6 a 3 ha;by_cases mM:op=18
    ·subst mM;have aF:df (bX e)=dK [110,111,116]::eZ a 3:=by rw [au];rfl
     rw [if_neg (show¬ cd 18=9 by decide)]
     rw [aF]at aS ⊢;have:=FF 3 (i+1) (d+1) R (by omega) (by omega) aS.fX gm (Or.inl (by omega))
     have ab:=fU.adu (op:=18) (Or.inl ⟨rfl,rfl,rfl⟩) aa (by rw [aS.is];rfl) (by omega) this
     rw [au];simp only [avS];rw [show i+((eZ a 3).length+1)=i+1+(eZ a 3).length by omega]
     exact ab.mono (by rw [show cd 18=3 from rfl];omega)
    ·by_cases eR:op=9
     ·subst eR;have aF:df (bX e)=bh [45]::eZ a 8:=by rw [au];rfl
      rw [if_neg (show¬ cd 9=9 by decide)]
      rw [aF]at aS ⊢;have:=FF 8 (i+1) (d+1) R (by omega) (by omega) aS.fX gm (Or.inl (by omega))
      have ab:=fU.adu (op:=9) (Or.inr ⟨rfl,rfl,rfl⟩) aa (by rw [aS.is];rfl) (by omega) this
      rw [au];simp only [avS];rw [show i+((eZ a 8).length+1)=i+1+(eZ a 8).length by omega]
      exact ab.mono (by rw [show cd 9=8 from rfl];omega)
     ·have UX:20≤op∧op≤24:=by omega
      have api:cd op=9:=by
       have:op=20∨op=21∨op=22∨op=23∨op=24:=by omega
       rcases this with h|h|h|h|h<;>rw [h]<;>decide
      have e1:eZ a 1=df (bX a):=by unfold eZ fD;rw [if_neg (by have:=UR a.Op;omega)]
      have aF:df (bX e)=hJ op::bh [40]::(eZ a 1++[bh [41]]):=by
       rw [au,e1];simp only [bX,jw,kX];rw [if_neg (by omega),if_neg (by omega),if_neg (by omega),if_neg mM,if_neg eR]
       simp only [df,tf]
      rw [if_pos api];rw [aF]at aS ⊢;have uQ:=aS.fX.fX;have apj:=uQ.jK;have:=FF 1 (i+1+1) (d+1) _ (by omega) (by omega) uQ.lV (by show i_ (bh [41]::R)<1;rw [show i_ (bh [41]::R)=0 from rfl];omega) (Or.inl (by omega))
      have my:=Be.of aa (by rw [aS.fX.is];rfl) this (by rw [apj.is];rfl)
      have f6:=pz.word UX aa hg aS (by omega) my
      rw [au];simp only [avS,avW,avT];rw [show i+((eZ a 1).length+(0+1)+1+1)=i+1+1+(eZ a 1).length+1 by omega]
      exact λn hn=>f6 n (by omega))
   exact⟨b7,Bi cP b7 (λhc=>by omega)⟩
  ·obtain⟨FF,UW⟩:=aJ a (by omega) ha
   obtain⟨UY,avg⟩:=aJ b (by omega) hb
   have f7:=Bg d'
   have b7:qw l e:=Bh aa hg cP (by
    intro i d R aS gm hd;rw [bm]at hd;generalize e.Op=op at d' au f7 gm
    rw [if_neg (by omega)]
    rw [au]at aS ⊢;intro n hn;obtain⟨n,rfl⟩:∃j,n=j+1:=⟨n-1,by omega⟩
    by_cases aD:cd op=4
    ·have aF:=FE (a:=a) (b:=b) d';rw [if_pos aD]at aF;have bG:df (fD a.Op (bX a) 5)=eZ a 5:=rfl;have e1:df (fD b.Op (bX b) (cd op+1))=eZ b (4+1):=by rw [aD]
     rw [bG,e1]at aF;rw [aF]at aS hn ⊢;rw [aD]at gm hn ⊢;simp only [avW,avS]at hn ⊢;have:=FF 5 i d _ (by omega) (by omega) aS.lV (by unfold i_;rw [List.cons_append,UQ op _ d',aD];show((4:Nat):Int)<((5:Nat):Int);omega) (Or.inl (by omega)) n (by omega)
     rw [Fx];unfold uv;simp only [fx,show¬ 4=3 by omega,show¬ 4=8 by omega,avN,avP]
     rw [eb (by omega),this]
     simp only [an,aG.on];obtain⟨m,hm⟩:∃j,n=j+1:=⟨n-1,by omega⟩
     conv=>lhs;arg 9;rw [hm]
     rw [adx aa d' aD.symm UY aS.jK (by omega) (by omega) (by omega),if_pos rfl]
     rw [show i+(eZ a 5).length+1+(eZ b (4+1)).length=i+((eZ a 5).length+((eZ b (4+1)).length+1))by omega]
    ·obtain⟨j,hj,UU⟩:=ady (i:=i) (d:=d) (n:=n) aa d' aD ha UW UY aS (by omega) (by omega) (by omega) (by omega)
     rw [UU];have dk:df (bX ⟨op,0,[],[a,b]⟩)≠[]:=by rw [FE d'];simp
     have uV:=aS.UT dk;obtain⟨m,hm⟩:∃m,n-j=m+1:=⟨n-j-1,by omega⟩
     rw [hm];simp only [qf,DY];rw [UB];simp only [an];rw [decide_eq_false (show¬ (ta l (i+(df (bX ⟨op,0,[],[a,b]⟩)).length)).1=(cd op:Int)by rw [uV];omega)]
     simp only [avR,avO])
   refine⟨b7,Bi cP b7 (λhc i d n R aS gm hd hn=>?_)⟩
   rw [bm]at hd;generalize e.Op=op at d' au f7 gm hc hn
   rw [au]at aS hn ⊢;exact ady (i:=i) (d:=d) (n:=n) aa d' (by omega) ha UW UY aS gm (by omega) (by omega) hn
end
def g_{k:Nat}(h:k≤1000000000000):b3 k=true:=Un (by omega)
def UZ{k:Nat}(h:k≤1000000000000):room k 1=true:=by simp [room];omega
def U0(n:Nat)(op:Int):Do n op=some ((cd op:Nat):Int):=by
 by_cases h:1≤op∧op≤27
 ·obtain rfl|rfl|rfl|rfl|rfl|rfl|rfl|rfl|rfl|rfl|rfl|rfl|rfl|rfl|rfl|rfl|rfl|rfl|rfl|rfl|rfl|rfl|rfl|rfl|rfl|rfl|rfl:op=1∨op=2∨op=3∨op=4∨op=5∨op=6∨op=7∨op=8∨op=9∨op=10∨op=11∨op=12∨op=13∨op=14∨op=15∨op=16∨op=17∨op=18∨op=19∨op=20∨op=21∨op=22∨op=23∨op=24∨op=25∨op=26∨op=27:=by omega
  all_goals rfl
 ·have e:cd op=9:=by
   unfold cd;rw [if_neg (by omega),if_neg (by omega),if_neg (by omega),if_neg (by omega),if_neg (by omega),if_neg (by omega),if_neg (by omega),if_neg (by omega)]
  rw [e];simp only [Do,ui,Ik,Dn,P',show¬ op=17 by omega,show¬ op=16 by omega,show¬ op=18 by omega,show¬ op=10 by omega,show¬ op=11 by omega,show¬ op=12 by omega,show¬ op=13 by omega,show¬ op=14 by omega,show¬ op=15 by omega,show¬ op=19 by omega,show¬ op=4 by omega,show¬ op=5 by omega,show¬ op=6 by omega,show¬ op=7 by omega,show¬ op=8 by omega,show¬ op=9 by omega,avN,avP]
  rfl
def adB(n:Nat)(op:Int)(h:20≤op∧op≤27):Im n op=some (spell (hJ op)):=by
 obtain rfl|rfl|rfl|rfl|rfl|rfl|rfl|rfl:op=20∨op=21∨op=22∨op=23∨op=24∨op=25∨op=26∨op=27:=by omega
 all_goals rfl
def adC(n:Nat)(op:Int)(h:4≤op∧op≤8∨10≤op∧op≤17∨op=19):Il n op=some (spell (nX op)):=by
 have:op=4∨op=5∨op=6∨op=7∨op=8∨op=10∨op=11∨op=12∨op=13∨op=14∨op=15∨op=16∨op=17∨op=19:=by omega
 rcases this with rfl|rfl|rfl|rfl|rfl|rfl|rfl|rfl|rfl|rfl|rfl|rfl|rfl|rfl<;>rfl
def adD(n:Nat)(i:Int)(h0:0≤i)(Z:i≤9223372036854775807):wz n i=some (Lib.decDigits i.toNat):=by
 unfold wz HK;rw [decide_eq_true (show(10:Int)=10 ∧ -9223372036854775808≤i∧i≤9223372036854775807 from⟨rfl,by omega,Z⟩)]
 simp only [aT,an];unfold Lib.itoa;rw [if_neg (by omega)]
def Bj(i:Int)(h0:0≤i)(Z:i≤9223372036854775807):(Lib.decDigits i.toNat).length≤21:=by
 have:=Lib.itoa_length_le i (by omega) Z
 unfold Lib.itoa at this
 rwa [if_neg (by omega)]at this
def FG(n:Nat)(c:UInt8)(b:av3)(h:b.length≤100000000):rn n ((c.toNat:Nat):Int) (fV b)=some (fV (b++[c])):=by
 unfold rn zb;simp only [an,LM,avS,avT,UZ (show b.length+(0+1)≤1000000000000 by omega),aT,Um]
def apk(n:Nat)(s:av3)(hs:s.length≤4611686018427387904):∀m i,s.length<i+m→i≤s.length→Dl n s m (i:Int)=some ((s.drop i).all okB):=by
 intro m;induction m with
 |zero=>intro i h ab;omega
 |succ m aJ=>
  intro i hm hi;simp only [Dl,P5,P4];by_cases h:i<s.length
  ·rw [fo s i 0 h,eb (by omega),aJ (i+1) (by omega) (by omega)]
   simp only [h,b1 h,avU,avV,avM,avO,aT,av0,List.all_cons,ps,fp,dH,A5];cases okB (s.getD i 0)<;>simp
  ·rw [gE s i h];simp [h]
def apl{n:Nat}(s:av3)(h:s.length<n)(hs:s.length≤4611686018427387904):P6 n s=some (s.all okB):=by
 have:=apk n s hs n 0 (by omega) (by omega)
 rw [List.drop_zero]at this;exact this
def xE:∀s:av3,(gF s).length≤2*s.length
 |[]=>Nat.le_refl _
 |c::s=>by
  have:=xE s
  simp only [gF];split<;>simp only [avS]<;>omega
def adE(s:av3)(c:UInt8):gF (s++[c])=gF s++gF [c]:=by
 induction s with
 |nil=>rfl
 |cons d s aJ=>simp only [List.cons_append,gF,aJ];split<;>rfl
def apm(n:Nat)(s:av3)(hs:s.length≤64):∀m i,s.length<i+m→i≤s.length→Dm n s m (fV (34::gF (s.take i))) (i:Int)=some (quo s,0):=by
 intro m;induction m with
 |zero=>intro i h ab;omega
 |succ m aJ=>
  intro i hm hi;simp only [Dm,P9,P7,P8,Ii];have hlen:=xE (s.take i);have vY:(s.take i).length≤i:=by simp;omega
  by_cases h:i<s.length
  ·(rw [eb (by omega)];simp only [avU])
   have hn:=aJ (i+1) (by omega) (by omega)
   have aF:s.take (i+1)=s.take i++[s.getD i 0]:=by
    rw [List.take_add,fo s i 0 h,List.take_succ_cons,List.take_zero]
   rw [aF,adE]at hn;generalize s.getD i 0=c at hn
   simp only [h,b1 h,avV,avM,avO,aT,av0,fx,dH];by_cases hc:c.toNat=34∨c.toNat=92
   ·have hb:(decide (c.toNat=34)||decide (c.toNat=92))=true:=by rcases hc with hc|hc<;>rw [decide_eq_true hc]<;>simp
    have e1:=FG n 92 (34::gF (s.take i)) (by simp only [avS];omega)
    have e2:=FG n c (34::gF (s.take i)++[92]) (by simp only [avW,avS,avT];omega)
    rw [hb];simp only [avO];rw [show rn n 92 _=_ from e1]
    simp only [an];rw [e2];simp only [an];rw [show(34::gF (s.take i)++[92]++[c])=34::(gF (s.take i)++gF [c])by simp only [gF];rw [if_pos hc];simp]
    exact hn
   ·have hb:(decide (c.toNat=34)||decide (c.toNat=92))=false:=by rw [decide_eq_false (λe=>hc (Or.inl e)),decide_eq_false (λe=>hc (Or.inr e))];rfl
    have e2:=FG n c (34::gF (s.take i)) (by simp only [avS];omega)
    rw [hb];simp only [avP];rw [e2];simp only [an];rw [show(34::gF (s.take i)++[c])=34::(gF (s.take i)++gF [c])by simp only [gF];rw [if_neg hc];simp]
    exact hn
  ·have U1:i=s.length:=by omega
   subst U1;simp only [avV,Nat.lt_irrefl,avN,avP,List.take_length];have e1:=FG n 34 (34::gF s) (by have:=xE s;simp only [avS];omega)
   rw [show rn n 34 _=_ from e1]
   have aa:=xE s;have eH:(fV (34::gF s++[34])).length≤9223372036854775807:=by rw [LM];simp only [avW,avS,avT];omega
   simp only [an,rm,Ul,Uk,eH,avM,Bool.and_self,aT];rfl
def apn{n:Nat}(s:av3)(h:jv s=true)(hn:100<n):Ij n s=some (quo s,0):=by
 unfold jv at h;simp only [Bool.and_eq_true,decide_eq_true_eq]at h;unfold Ij;simp only [fp,show¬ 64<s.length by omega,avN,avP,apl s (show s.length<n by omega) (by omega),an,h.1,avQ]
 have e1:=FG n 34 [] (by simp)
 rw [show rn n 34 []=_ from e1]
 exact apm n s (by omega) n 0 (by omega) (by omega)
def apo(s:av3):(quo s).length≤2*s.length+2:=by
 have:=xE s
 simp only [quo,avS,avW,avT];omega
def adF{c:Prop}[Decidable c]{a b:Token}{k:Nat}(ha:(spell a).length≤k)(hb:(spell b).length≤k):(spell (if c then a else b)).length≤k:=by
 by_cases h:c
 ·rw [if_pos h];exact ha
 ·rw [if_neg h];exact hb
def U2(op:Int):(spell (nX op)).length≤3:=by
 unfold nX
 repeat refine adF (by decide) ?_
 decide
def Bk(op:Int):(spell (hJ op)).length≤6:=by
 unfold hJ
 repeat refine adF (by decide) ?_
 decide
def pA(op:Int)(p:ln)(k:Nat):(flat (fD op p k)).length≤(flat p).length+2:=by
 unfold fD;split
 ·simp only [flat,mL,spell,bh,avW,avS];simp;omega
 ·omega
def pB{w:av3}(h:gy w=true):w.length≤16:=by
 obtain⟨c,l,_,_,_,_,aX⟩:=LX h;exact aX
def q1:∀(h:Nat) (e:Expr),fJ e≤h→gO e→(flat (bX e)).length≤4*di e:=by
 intro h;induction h with
 |zero=>intro e he;rw [tg]at he;omega
 |succ h aJ=>
  intro e he cP;have nY:=(LZ e).1 cP;have uN:=qo e;rcases xD e cP with⟨Z,au⟩|⟨Z,au⟩|⟨Z,au⟩|⟨ai,au⟩|⟨a,au,ha,bm,d'⟩|⟨a,b,au,ha,hb,bm,d'⟩
  ·have:=Bj e.N (nY.2.1 Z).1 (nY.2.1 Z).2
   have e2:flat (bX e)=Lib.decDigits e.N.toNat++[]:=by rw [au];rfl
   rw [e2,List.append_nil];omega
  ·have:=apo e.S
   have e2:flat (bX e)=quo e.S++[]:=by rw [au];rfl
   rw [e2,List.append_nil];omega
  ·have:=pB (nY.2.2.2.2.2.1 Z)
   have e2:flat (bX e)=e.S++[]:=by rw [au];rfl
   rw [e2,List.append_nil];omega
  ·have:=Bk e.Op
   generalize e.Op=op at ai au this
   have e2:flat (bX e)=spell (hJ op)++([40]++([41]++[])):=by
    rw [au];simp only [bX,jw,kX];rw [if_neg (by omega),if_neg (by omega),if_neg (by omega)];rfl
   rw [e2];simp only [avW,avS,avT];omega
  ·have FH:=aJ a (by omega) ha
   have FI:di e=30+(di a+1):=by rw [au];simp [di,mE]
   have:=Bk e.Op
   have aj:=pA a.Op (bX a) 3;have dr:=pA a.Op (bX a) 8;generalize e.Op=op at d' au this
   have e2:bX e=if op=18 then some (dK [110,111,116])::none::fD a.Op (bX a) 3 else if op=9 then some (bh [45])::fD a.Op (bX a) 8 else some (hJ op)::some (bh [40])::(bX a++[some (bh [41])]):=by
    rw [au];simp only [bX,jw,kX];rw [if_neg (by omega),if_neg (by omega),if_neg (by omega)]
   rw [e2];split
   ·simp only [flat,spell,dK,avW,avS];simp;omega
   ·split
    ·simp only [flat,spell,bh,avW,avS];simp;omega
    ·simp only [flat,mL,avW];have e3:(spell (bh [40])).length=1:=rfl;have ie:(spell (bh [41])).length=1:=rfl;simp only [avT];omega
  ·have FH:=aJ a (by omega) ha
   have adG:=aJ b (by omega) hb
   have FI:di e=30+(di a+1+(di b+1)):=by rw [au];simp [di,mE]
   have:=U2 e.Op
   have aj:=pA a.Op (bX a) (if cd e.Op=4 then 5 else cd e.Op)
   have dr:=pA b.Op (bX b) (cd e.Op+1);generalize e.Op=op at d' au this aj dr
   have e2:bX e=fD a.Op (bX a) (if cd op=4 then 5 else cd op)++none::some (nX op)::none::fD b.Op (bX b) (cd op+1):=by rw [au,L4 d']
   rw [e2];simp only [mL,flat,avW,avS];omega
def apq(n:Nat):mg (n+1)=In n (mg n) (wA n):=rfl
def apr(n:Nat):wA (n+1)=Io n (mg n) (wA n):=rfl
def FJ{n:Nat}{e:Expr}{k:Nat}(h:mg n e=some (flat (bX e)))(aa:(flat (bX e)).length≤100000000):wA (n+1) e (k:Int)=some (flat (fD e.Op (bX e) k)):=by
 rw [apr];unfold Io fD;rw [U0,h];simp only [an,avV];by_cases hk:cd e.Op<k
 ·simp only [hk,avM,avO,av1];rw [g_ (by simp;omega),g_ (by simp;omega)]
  simp only [aT,flat,mL,spell,bh];simp
 ·simp only [hk,avN,avP,av2]
def aps:∀(h:Nat) (e:Expr) (n:Nat),fJ e≤h→gO e→2*h+200≤n→di e≤1000000→mg n e=some (flat (bX e)):=by
 intro h;induction h with
 |zero=>intro e n he;rw [tg]at he;omega
 |succ h aJ=>
  intro e n he cP hn apt;obtain⟨n,rfl⟩:∃j,n=j+1:=⟨n-1,by omega⟩
  obtain⟨n,rfl⟩:∃j,n=j+1:=⟨n-1,by omega⟩
  have nY:=(LZ e).1 cP;have uN:=qo e;rw [apq];unfold In;rw [U0];simp only [an];rcases xD e cP with⟨Z,au⟩|⟨Z,au⟩|⟨Z,au⟩|⟨ai,au⟩|⟨a,au,ha,bm,d'⟩|⟨a,b,au,ha,hb,bm,d'⟩
  ·have e2:flat (bX e)=Lib.decDigits e.N.toNat++[]:=by rw [au];rfl
   rw [adD _ e.N (nY.2.1 Z).1 (nY.2.1 Z).2,e2,List.append_nil];simp only [Z,avM,avO,an]
  ·have e2:flat (bX e)=quo e.S++[]:=by rw [au];rfl
   rw [apn e.S (nY.2.2.2.2.1 Z) (by omega),e2,List.append_nil]
   simp only [Z,show¬ (2:Int)=1 by omega,avM,avN,avO,avP,an]
  ·have e2:flat (bX e)=e.S++[]:=by rw [au];rfl
   rw [e2,List.append_nil];simp only [Z,show¬ (3:Int)=1 by omega,show¬ (3:Int)=2 by omega,avM,avN,avO,avP]
  ·have hw:=Bk e.Op;have U3:=adB (n+1) e.Op (by omega)
   have f7:cd e.Op=9:=by
    have:e.Op=25∨e.Op=26∨e.Op=27:=by omega
    rcases this with h|h|h<;>rw [h]<;>decide
   have e9:e.ax=[]:=by rw [au]
   have e2:flat (bX e)=spell (hJ e.Op)++([40]++([41]++[])):=by
    generalize e.Op=op at ai au
    rw [au];simp only [bX,jw,kX];rw [if_neg (by omega),if_neg (by omega),if_neg (by omega)];rfl
   rw [U3,e2];simp only [an];rw [g_ (show(spell (hJ e.Op)).length+([40,41]:av3).length≤1000000000000 by simp;omega)]
   simp only [f7,e9,show¬ e.Op=1 by omega,show¬ e.Op=2 by omega,show¬ e.Op=3 by omega,show¬ e.Op=18 by omega,show¬ e.Op=9 by omega,avN,avP,avT,fx,avM,avO,aT]
   simp
  ·have FI:di e=30+(di a+1):=by rw [au];simp [di,mE]
   have qx:=aJ a n (by omega) ha (by omega) (by omega)
   have U4:=aJ a (n+1) (by omega) ha (by omega) (by omega)
   have FH:=q1 (fJ a) a (Nat.le_refl _) ha;have e9:e.ax=[a]:=by rw [au]
   have aj:=pA a.Op (bX a) 3;have dr:=pA a.Op (bX a) 8
   have e2:bX e=if e.Op=18 then some (dK [110,111,116])::none::fD a.Op (bX a) 3 else if e.Op=9 then some (bh [45])::fD a.Op (bX a) 8 else some (hJ e.Op)::some (bh [40])::(bX a++[some (bh [41])]):=by
    generalize e.Op=op at d' au
    rw [au];simp only [bX,jw,kX];rw [if_neg (by omega),if_neg (by omega),if_neg (by omega)]
   rw [e2,e9];simp only [avS,avT,mi (show 0<0+1 by omega),aT,List.getD_cons_zero,show¬ e.Op=1 by omega,show¬ e.Op=2 by omega,show¬ e.Op=3 by omega,avN,avP]
   by_cases mM:e.Op=18
   ·have:=FJ (k:=3) qx (by omega)
    rw [mM];simp only [avM,avO,av1,show cd 18=3 from rfl]
    rw [this];simp only [an];rw [g_ (by simp;omega)]
    rfl
   ·by_cases eR:e.Op=9
    ·have:=FJ (k:=8) qx (by omega)
     rw [eR];simp only [show¬ (9:Int)=18 by omega,avM,avN,avO,avP,av1,av2,show cd 9=8 from rfl]
     rw [this];simp only [an];rw [g_ (by simp;omega)]
     rfl
    ·have UX:20≤e.Op∧e.Op≤24:=by omega
     have f7:cd e.Op=9:=by
      have:e.Op=20∨e.Op=21∨e.Op=22∨e.Op=23∨e.Op=24:=by omega
      rcases this with h|h|h|h|h<;>rw [h]<;>decide
     have hw:=Bk e.Op;rw [adB (n+1) e.Op (by omega),U4,if_neg mM,if_neg eR]
     have e3:flat (some (hJ e.Op)::some (bh [40])::(bX a++[some (bh [41])]))=spell (hJ e.Op)++([40]++(flat (bX a)++([41]++[]))):=by
      simp only [flat,mL];rfl
     rw [e3];generalize spell (hJ e.Op)=W at hw
     simp only [mM,eR,f7,avN,avM,avP,avO,an];rw [g_ (show W.length+(0+1)≤1000000000000 by omega),g_ (show(W++([40]:av3)).length+(flat (bX a)).length≤1000000000000 by simp;omega),g_ (show((W++([40]:av3))++flat (bX a)).length+(0+1)≤1000000000000 by simp;omega)]
     simp only [show((0+1:Nat):Int)=1 from rfl,show¬ (1:Int)=0 by omega,show((9:Nat):Int)=9 from rfl,avM,avN,avO,avP,aT]
     simp
  ·have FI:di e=30+(di a+1+(di b+1)):=by rw [au];simp [di,mE]
   have qx:=aJ a n (by omega) ha (by omega) (by omega)
   have U5:=aJ b n (by omega) hb (by omega) (by omega)
   have FH:=q1 (fJ a) a (Nat.le_refl _) ha;have adG:=q1 (fJ b) b (Nat.le_refl _) hb;have e9:e.ax=[a,b]:=by rw [au]
   have f7:=Bg d';have apu:=U2 e.Op
   have e2:bX e=fD a.Op (bX a) (if cd e.Op=4 then 5 else cd e.Op)++none::some (nX e.Op)::none::fD b.Op (bX b) (cd e.Op+1):=by
    generalize e.Op=op at d' au
    rw [au,L4 d']
   have aj:=pA a.Op (bX a) (if cd e.Op=4 then 5 else cd e.Op)
   have dr:=pA b.Op (bX b) (cd e.Op+1);have xF:=FJ (k:=cd e.Op+1) U5 (by omega)
   rw [e2,e9,adC (n+1) e.Op d'];simp only [avS,avT,mi (show 0<0+1+1 by omega),aT,List.getD_cons_zero,List.getD_cons_succ,show¬ e.Op=1 by omega,show¬ e.Op=2 by omega,show¬ e.Op=3 by omega,show¬ e.Op=18 by omega,show¬ e.Op=9 by omega,avN,avP,fx,show¬ cd e.Op=9 by omega,show aM 1 (0+1+1)=true from rfl]
   by_cases aD:cd e.Op=4
   ·have so:=FJ (k:=5) qx (by omega)
    rw [aD]at xF ⊢;rw [if_pos rfl];rw [if_pos aD]at aj;simp only [avM,avO];rw [show wA (n+1) a 5=_ from so,show wA (n+1) b 5=_ from xF]
    simp only [an];rw [aD]at dr;rw [g_ (by simp;omega),g_ (by simp;omega),g_ (by simp;omega),g_ (by simp only [avW,avS,avT];omega)]
    simp only [aT,mL,flat];simp
   ·have so:=FJ (k:=cd e.Op) qx (by omega)
    rw [if_neg aD]at aj ⊢;simp only [aD,avN,avP];rw [so,eb (by omega),xF]
    simp only [an];rw [g_ (by simp;omega),g_ (by simp;omega),g_ (by simp;omega),g_ (by simp only [avW,avS,avT];omega)]
    simp only [aT,mL,flat];simp
mutual
def mN:Expr→Prop
 |⟨Op,N,S,ax⟩=>N≤9223372036854775807∧S.length≤9223372036854775807∧ax.length≤9223372036854775807∧Bl ax
def Bl:List Expr→Prop
 |[]=>True
 |x::l=>mN x∧Bl l
end
def L8(e:Expr):mN e↔e.N≤9223372036854775807∧e.S.length≤9223372036854775807∧e.ax.length≤9223372036854775807∧Bl e.ax:=by cases e;rfl
def adH:∀(l:List Expr) (i:Nat),i<l.length→Bl l→mN (l.getD i default)
 |[],i,h,_=>by simp at h
 |x::l,0,h,aa=>aa.1
 |x::l,i+1,h,aa=>by simp only [List.getD_cons_succ];exact adH l i (by simpa using h) aa.2
mutual
def rH:Expr→Nat
 |⟨_,_,S,ax⟩=>1+S.length / 64+xG ax
def xG:List Expr→Nat
 |[]=>0
 |x::l=>rH x+xG l
end
def apv(e:Expr):rH e=1+e.S.length / 64+xG e.ax:=by cases e;rfl
mutual
def U6:∀e:Expr,di e+1≤95*rH e
 |⟨Op,N,S,ax⟩=>by
  have:=adI ax
  simp only [di,rH];omega
def adI:∀l:List Expr,mE l≤95*xG l
 |[]=>Nat.le_refl _
 |x::l=>by
  have Z:=U6 x;have ab:=adI l;simp only [mE,xG];omega
end
def U7(k:Nat):Int.tdiv ((k:Nat):Int) 64=((k / 64:Nat):Int):=by
 rw [Int.tdiv_eq_ediv_of_nonneg (by omega)];rfl
def apw:∀(n:Nat) (e:Expr) (m:Nat),m≤1000→m+3≤n→mN e→
 ∃r:Nat,rz n e (m:Int)=some (r:Int)∧1≤r∧r≤m+144115188075855873∧(r≤m→r=rH e):=by
 intro n;induction n with
 |zero=>intro e m h ab;omega
 |succ n aJ=>
  intro e m hm hn he;obtain⟨Z,ab,aj,aD⟩:=(L8 e).1 he;simp only [rz,JN];rw [U7];rw [show av5 ((e.S.length / 64:Nat):Int)=((e.S.length / 64:Nat):Int)by rw [wr]<;>omega]
  rw [show av5 (1+((e.S.length / 64:Nat):Int))=((1+e.S.length / 64:Nat):Int)by rw [wr]<;>omega]
  have gS:∀k i v,m+2≤v+k→i≤e.ax.length→i≤v→1≤v→v≤m+144115188075855873→1≤k→
   ∃r:Nat,z7 n (rz n) (m:Int) e k (v:Int) (i:Int)=some (r:Int)∧v≤r∧r≤m+144115188075855873∧(r≤m→r=v+xG (e.ax.drop i)):=by
   intro k;induction k with
   |zero=>intro i v Z ab h0 aj aD aX;omega
   |succ k Bm=>
    intro i v g1 g2 g0 g3 g4 g5;simp only [z7,JM,JL,el,avV,Int.ofNat_le];by_cases hi:i<e.ax.length
    ·by_cases av:v≤m
     ·obtain⟨r1,e1,e2,e3,ie⟩:=aJ (e.ax.getD i default) (m-v) (by omega) (by omega) (adH _ _ hi aD)
      (rw [show av5 ((m:Int)-(v:Int))=((m-v:Nat):Int)by rw [wr]<;>omega,eb (by omega)];simp only [avU];rw [e1])
      simp only [hi,av,avM,Bool.and_self,avO,b1 hi,aT,an];rw [show av5 ((v:Int)+(r1:Int))=((v+r1:Nat):Int)by rw [wr]<;>omega]
      obtain⟨r,f1,f2,f3,f4⟩:=Bm (i+1) (v+r1) (by omega) (by omega) (by omega) (by omega) (by omega) (by omega)
      refine⟨r,f1,by omega,f3,λai=>?_⟩
      have:=f4 ai
      have hE:=ie (by omega)
      rw [fo e.ax i default hi];simp only [xG];omega
     ·simp only [hi,av,avM,avN,Bool.and_false,avP];exact⟨v,rfl,Nat.le_refl _,g4,λh=>absurd h av⟩
    ·rw [gE e.ax i hi];simp only [hi,avN,Bool.false_and,avP];exact⟨v,rfl,Nat.le_refl _,g4,λh=>rfl⟩
  obtain⟨r,f1,f2,f3,f4⟩:=gS n 0 (1+e.S.length / 64) (by omega) (by omega) (by omega) (by omega) (by omega) (by omega)
  exact⟨r,f1,by omega,f3,λai=>by rw [f4 ai,apv,List.drop_zero]⟩
def apx:∀(h:Nat) (e:Expr) (d:Nat),fJ e≤h→mN e→g' e (d:Int)=0→d≤1000→gO e∧d+fJ e≤13:=by
 intro h;induction h with
 |zero=>intro e d he;rw [tg]at he;omega
 |succ h aJ=>
  intro e d he hi av hd;obtain⟨i1,i2,i3,i4⟩:=(L8 e).1 hi;rw [acY]at av
  have ko:pu e (d:Int)=0:=by
   by_cases h0:pu e (d:Int)=0
   ·exact h0
   ·rw [if_neg h0]at av;exact absurd av h0
  rw [if_pos ko]at av;unfold pu at ko;split at ko
  ·omega
  rename_i g1;split at ko
  ·omega
  rename_i g2;split at ko
  ·omega
  rename_i g3;split at ko
  ·omega
  rename_i g4;simp only [not_or,not_and,Bool.not_eq_false]at g1 g2 g3;obtain⟨bb,a2,a3⟩:=g1;obtain⟨cb,jn,FA⟩:=g3
  have d':1≤e.Op∧e.Op≤27:=by
   unfold jJ at bb;by_cases Z:e.Op<1
   ·simp [Z]at bb
   ·by_cases ab:27<e.Op
    ·simp [ab]at bb
    ·omega
  rw [show av5 ((d:Int)+1)=((d+1:Nat):Int)by rw [wr]<;>omega]at av
  have aa:∀l:List Expr,qv l≤h→Bl l→td l ((d+1:Nat):Int)=0→FB l∧(d+1+qv l≤13∨l=[]):=by
   intro l;induction l with
   |nil=>intro _ _ _;exact⟨trivial,Or.inr rfl⟩
   |cons x l apy=>
    intro bm hin vO;simp only [qv]at bm;simp only [td]at vO
    have hx:g' x ((d+1:Nat):Int)=0:=by
     by_cases h0:g' x ((d+1:Nat):Int)=0
     ·exact h0
     ·rw [if_neg h0]at vO;exact absurd vO h0
    rw [if_pos hx]at vO;obtain⟨fm,ey⟩:=aJ x (d+1) (by omega) hin.1 hx (by omega)
    obtain⟨aL,bo⟩:=apy (by omega) hin.2 vO
    refine⟨⟨fm,aL⟩,Or.inl ?_⟩
    simp only [qv];rcases bo with bo|rfl
    ·omega
    ·simp only [qv];omega
  have adJ:=tg e;obtain⟨dt,ak⟩:=aa e.ax (by omega) i4 av
  refine⟨(LZ e).2 ⟨⟨d',?_⟩,λZ=>⟨by omega,i1⟩,λZ=>?_,λZ=>?_,λZ=>?_,λZ=>?_,dt⟩,?_⟩
  ·by_cases hc:(e.ax.length:Int)=jJ e.Op
   ·exact hc
   ·exact absurd hc FA
  ·by_cases hc:e.N=0
   ·exact hc
   ·exact absurd hc (a2 Z)
  ·by_cases hc:e.S=[]
   ·exact hc
   ·exact absurd hc (a3 Z.1 Z.2)
  ·exact jn Z
  ·exact g2 Z
  ·rcases ak with ak|ak
   ·omega
   ·rw [ak]at adJ;simp only [qv]at adJ;omega
open Go Go.Ab Go.Proofs
mutual
def rI:Stmt→Prop
 |⟨_,Name,Max,A,B,Body,bB⟩=>(-9223372036854775808≤Max∧Max≤9223372036854775807)∧Name.length≤9223372036854775807∧mN A∧mN B∧rJ Body∧rJ bB
def rJ:List Stmt→Prop
 |[]=>True
 |x::l=>rI x∧rJ l
end
def U8(s:Stmt):rI s↔(-9223372036854775808≤s.Max∧s.Max≤9223372036854775807)∧s.Name.length≤9223372036854775807∧mN s.A∧mN s.B∧rJ s.Body∧rJ s.bB:=by cases s;rfl
def adK:∀(l:List Stmt) (i:Nat),i<l.length→rJ l→rI (l.getD i default)
 |[],i,h,_=>by simp at h
 |x::l,0,h,aa=>aa.1
 |x::l,i+1,h,aa=>by simp only [List.getD_cons_succ];exact adK l i (by simpa using h) aa.2
mutual
def L9:Stmt→Nat
 |⟨_,Name,_,A,B,Body,bB⟩=>1+Name.length / 64+rH A+rH B+qy Body+qy bB
def qy:List Stmt→Nat
 |[]=>0
 |x::l=>L9 x+qy l
end
def apz(s:Stmt):L9 s=1+s.Name.length / 64+rH s.A+rH s.B+qy s.Body+qy s.bB:=by cases s;rfl
mutual
def apA:∀s:Stmt,fst s+1≤150*L9 s
 |⟨Op,Name,Max,A,B,Body,bB⟩=>by
  have Z:=U6 A;have ab:=U6 B;have aj:=L' Body;have aD:=L' bB;simp only [fst,L9];omega
def L':∀l:List Stmt,dC l≤150*qy l
 |[]=>Nat.zero_le _
 |x::l=>by
  have Z:=apA x;have ab:=L' l;simp only [dC,qy];omega
end
def apB(n:Nat)(e:Expr)(m:Int)(hm:m<0)(hn:2≤n)(he:mN e):rz n e m=some ((1+e.S.length / 64:Nat):Int):=by
 obtain⟨n,rfl⟩:∃k,n=k+2:=⟨n-2,by omega⟩
 obtain⟨Z,ab,aj,aD⟩:=(L8 e).1 he;simp only [rz,JN];rw [U7];rw [show av5 ((e.S.length / 64:Nat):Int)=((e.S.length / 64:Nat):Int)by rw [wr]<;>omega]
 rw [show av5 (1+((e.S.length / 64:Nat):Int))=((1+e.S.length / 64:Nat):Int)by rw [wr]<;>omega]
 simp only [z7,JM,JL,el];rw [show decide (((1+e.S.length / 64:Nat):Int)≤m)=false from decide_eq_false (by omega)]
 simp
def adL(n:Nat)(e:Expr)(m:Int)(hm:m≤1000)(hn:m+3≤n)(rE:3≤n)(he:mN e):
 ∃r:Nat,rz n e m=some (r:Int)∧1≤r∧(r:Int)≤(if m<0 then 0 else m)+144115188075855873∧((r:Int)≤m→r=rH e):=by
 by_cases h:m<0
 ·have ab:=((L8 e).1 he).2.1;exact⟨_,apB n e m h (by omega) he,by omega,by rw [if_pos h];omega,λai=>by omega⟩
 ·obtain⟨k,rfl⟩:=Int.eq_ofNat_of_zero_le (show 0≤m by omega)
  obtain⟨r,Z,ab,aj,aD⟩:=apw n e k (by omega) (by omega) he
  exact⟨r,Z,ab,by rw [if_neg h];omega,λai=>aD (by omega)⟩
def apC:∀(n:Nat) (l:List Stmt) (m:Int),-4611686018427387904≤m→m≤1000→m+6≤n→5≤n→rJ l→
 ∃r:Nat,z8 n l m=some (r:Int)∧(r:Int)≤(if m<0 then 0 else m+576460752303423500)∧((r:Int)≤m→r=qy l):=by
 intro n;induction n with
 |zero=>intro l m _ _ _ h;omega
 |succ n aJ=>
  intro l m avh hm hn rE aa;simp only [z8,Rs]
  have gS:∀(k i v:Nat),m+2≤v+k→1≤k→i≤v→(v:Int)≤(if m<0 then 0 else m+576460752303423500)→
   ∃r:Nat,Ed n (z8 n) l m k (v:Int) (i:Int)=some (r:Int)∧v≤r∧(r:Int)≤(if m<0 then 0 else m+576460752303423500)∧((r:Int)≤m→r=v+qy (l.drop i)):=by
   intro k;induction k with
   |zero=>intro i v _ h;omega
   |succ k Bm=>
    intro i v g1 g2 g3 g4;simp only [Ed,Rr,Rq,el,avV];by_cases hi:i<l.length
    ·by_cases av:(v:Int)≤m
     ·have adM:¬ m<0:=by omega
      rw [if_neg adM];simp only [if_neg adM]at Bm g4;obtain⟨bb,a2,a3,a4,a5,qz⟩:=(U8 _).1 (adK l i hi aa)
      (simp only [avU])
      generalize hs:l.getD i default=s at bb a2 a3 a4 a5 qz
      simp only [hi,av,avM,Bool.and_self,avO,b1 hi,aT];rw [U7];rw [show av5 ((s.Name.length / 64:Nat):Int)=((s.Name.length / 64:Nat):Int)by rw [wr]<;>omega]
      rw [show av5 ((v:Int)+1)=((v+1:Nat):Int)by rw [wr]<;>omega]
      rw [show av5 (((v+1:Nat):Int)+((s.Name.length / 64:Nat):Int))=((v+1+s.Name.length / 64:Nat):Int)by rw [wr]<;>omega]
      rw [show av5 (m-((v+1+s.Name.length / 64:Nat):Int))=m-((v+1+s.Name.length / 64:Nat):Int)by rw [wr]<;>omega]
      obtain⟨r1,e1,cb,c1,d1⟩:=adL n s.A (m-((v+1+s.Name.length / 64:Nat):Int)) (by omega) (by omega) (by omega) a3
      rw [e1];simp only [an];have Ww:(v+1+s.Name.length / 64+r1:Nat)≤m+288230376151711750:=by split at c1<;>omega
      rw [show av5 (((v+1+s.Name.length / 64:Nat):Int)+(r1:Int))=((v+1+s.Name.length / 64+r1:Nat):Int)by rw [wr]<;>omega]
      rw [show av5 (m-((v+1+s.Name.length / 64+r1:Nat):Int))=m-((v+1+s.Name.length / 64+r1:Nat):Int)by rw [wr]<;>omega]
      obtain⟨r2,e2,jn,c2,d2⟩:=adL n s.B (m-((v+1+s.Name.length / 64+r1:Nat):Int)) (by omega) (by omega) (by omega) a4
      rw [e2];simp only [an];have Wx:(v+1+s.Name.length / 64+r1+r2:Nat)≤m+432345564227567625:=by split at c2<;>omega
      rw [show av5 (((v+1+s.Name.length / 64+r1:Nat):Int)+(r2:Int))=((v+1+s.Name.length / 64+r1+r2:Nat):Int)by rw [wr]<;>omega]
      rw [show av5 (m-((v+1+s.Name.length / 64+r1+r2:Nat):Int))=m-((v+1+s.Name.length / 64+r1+r2:Nat):Int)by rw [wr]<;>omega]
      obtain⟨r3,e3,c3,d3⟩:=aJ s.Body (m-((v+1+s.Name.length / 64+r1+r2:Nat):Int)) (by omega) (by omega) (by omega) (by omega) a5
      rw [e3];simp only [an];have avi:(v+1+s.Name.length / 64+r1+r2+r3:Nat)≤m+576460752303423500:=by split at c3<;>omega
      rw [show av5 (((v+1+s.Name.length / 64+r1+r2:Nat):Int)+(r3:Int))=((v+1+s.Name.length / 64+r1+r2+r3:Nat):Int)by rw [wr]<;>omega]
      rw [show av5 (m-((v+1+s.Name.length / 64+r1+r2+r3:Nat):Int))=m-((v+1+s.Name.length / 64+r1+r2+r3:Nat):Int)by rw [wr]<;>omega]
      obtain⟨aR,ie,c4,d4⟩:=aJ s.bB (m-((v+1+s.Name.length / 64+r1+r2+r3:Nat):Int)) (by omega) (by omega) (by omega) (by omega) qz
      rw [ie];simp only [an];have avj:(v+1+s.Name.length / 64+r1+r2+r3+aR:Nat)≤m+576460752303423500:=by split at c4<;>omega
      rw [show av5 (((v+1+s.Name.length / 64+r1+r2+r3:Nat):Int)+(aR:Int))=((v+1+s.Name.length / 64+r1+r2+r3+aR:Nat):Int)by rw [wr]<;>omega]
      rw [eb (by omega)]
      obtain⟨r,f1,f2,f3,f4⟩:=Bm (i+1) (v+1+s.Name.length / 64+r1+r2+r3+aR) (by omega) (by omega) (by omega) (by omega)
      refine⟨r,f1,by omega,f3,λai=>?_⟩
      have h0:=f4 ai;have Z:=d1 (by omega)
      have ab:=d2 (by omega)
      have aj:=d3 (by omega)
      have aD:=d4 (by omega)
      rw [fo l i default hi,hs];have:=apz s
      simp only [qy];omega
     ·simp only [hi,av,avM,avN,Bool.and_false,avP];exact⟨v,rfl,Nat.le_refl _,g4,λh=>absurd h av⟩
    ·rw [gE l i hi];simp only [hi,avN,Bool.false_and,avP];exact⟨v,rfl,Nat.le_refl _,g4,λh=>rfl⟩
  obtain⟨r,f1,f2,f3,f4⟩:=gS n 0 0 (by omega) (by omega) (by omega) (by split<;>omega)
  exact⟨r,f1,f3,λai=>by rw [f4 ai,List.drop_zero];omega⟩
def rK(p:bg):Prop:=p.Name.length≤9223372036854775807∧p.Params.length≤9223372036854775807∧(∀i,i<p.Params.length→(p.Params.getD i default).Name.length≤9223372036854775807)∧rJ p.Body
def adN:∀l:List Param,(∀i,i<l.length→(l.getD i default).Name.length≤200)→h8 l≤400*l.length
 |[],_=>Nat.le_refl _
 |x::l,h=>by
  have h0:=h 0 (by simp)
  have Z:=adN l λi hi=>by have:=h (i+1) (by simpa using hi);simpa using this
  simp only [List.getD_cons_zero]at h0;simp only [h8,avS];omega
def L_(p:bg)(m:Nat):Prop:=p.Name.length≤200∧p.Params.length≤40∧h8 p.Params≤16000∧qy p.Body≤m
def apD{n:Nat}(p:bg)(m:Nat)(hm:m≤1000)(hn:1100≤n)(hp:rK p):∃b,Ef n p (m:Int)=some b∧(b=true→L_ p m):=by
 obtain⟨Z,ab,aj,aD⟩:=hp;simp only [Ef,dH];by_cases hc:40<p.Params.length∨200<p.Name.length
 ·rw [show(decide (40<((p.Params.length:Nat):Int))||decide (200<((p.Name.length:Nat):Int)))=true by
   rcases hc with h|h
   ·rw [decide_eq_true (show 40<((p.Params.length:Nat):Int)by omega)];rfl
   ·rw [decide_eq_true (show 200<((p.Name.length:Nat):Int)by omega),av0]]
  exact⟨false,rfl,λh=>by cases h⟩
 ·rw [show(
   decide (40<((p.Params.length:Nat):Int))||decide (200<((p.Name.length:Nat):Int)))=false by
   rw [decide_eq_false (show¬ 40<((p.Params.length:Nat):Int)by omega),decide_eq_false (show¬ 200<((p.Name.length:Nat):Int)by omega)];rfl]
  simp only [avP]
  have gS:∀k i,p.Params.length<i+k→i≤p.Params.length→(∀j,j<i→(p.Params.getD j default).Name.length≤200)→∃b,Ee n (m:Int) p k (i:Int)=some b∧(b=true→L_ p m):=by
   intro k;induction k with
   |zero=>intro i g1 g2;omega
   |succ k Bm=>
    intro i g1 g2 g3;simp only [Ee,Ru,Rt,avV,avU];by_cases hi:i<p.Params.length
    ·simp only [hi,avM,avO,b1 hi,aT];by_cases hx:200<(p.Params.getD i default).Name.length
     ·rw [decide_eq_true (show 200<(((p.Params.getD i default).Name.length:Nat):Int)by omega)]
      exact⟨false,rfl,λh=>by cases h⟩
     ·rw [decide_eq_false (show¬ 200<(((p.Params.getD i default).Name.length:Nat):Int)by omega),eb (by omega)]
      exact Bm (i+1) (by omega) (by omega) λj hj=>by
       by_cases h:j<i
       ·exact g3 j h
       ·obtain rfl:j=i:=by omega
        omega
    ·simp only [hi,avN,avP];obtain⟨r,f1,f2,f3⟩:=apC n p.Body (m:Int) (by omega) (by omega) (by omega) (by omega) aD
     rw [f1];refine⟨_,rfl,λhb=>?_⟩
     have hb:=of_decide_eq_true hb;have:=f3 hb
     have ba:=adN p.Params λj hj=>g3 j (by omega)
     exact⟨by omega,by omega,by omega,by omega⟩
  exact gS n 0 (by omega) (by omega) λj hj=>by omega
open Go Go.Ab Go.Proofs
abbrev ep:Expr:=⟨0,0,[],[]⟩
def iN(e:Expr):Prop:=gO e∧fJ e≤12
def FK(s:Stmt):Prop:=
 ((s.Op=1∨s.Op=2)∧s=⟨s.Op,s.Name,0,s.A,ep,[],[]⟩∧gy s.Name=true∧iN s.A)∨
 (s=⟨3,[],0,s.A,s.B,[],[]⟩∧iN s.A∧iN s.B)∨
 ((s.Op=4∨s.Op=7)∧s=⟨s.Op,[],0,s.A,ep,[],[]⟩∧iN s.A)∨
 (s=⟨5,[],0,s.A,ep,s.Body,s.bB⟩∧iN s.A)∨
 (s=⟨6,s.Name,s.Max,s.A,s.B,s.Body,[]⟩∧gy s.Name=true∧(1≤s.Max∧s.Max≤16)∧iN s.A∧iN s.B)∨
 (s=⟨8,[],s.Max,ep,ep,[],[]⟩∧0≤s.Max∧s.Max≤999)
mutual
def ti:Stmt→Nat→Prop
 |⟨Op,Name,Max,A,B,Body,bB⟩,d=>d≤12∧FK ⟨Op,Name,Max,A,B,Body,bB⟩∧ky Body (d+1)∧ky bB (d+1)
def ky:List Stmt→Nat→Prop
 |[],_=>True
 |s::l,d=>ti s d∧ky l d
end
def uW(s:Stmt)(d:Nat):ti s d↔d≤12∧FK s∧ky s.Body (d+1)∧ky s.bB (d+1):=by cases s;rfl
def xH{e:Expr}(h:ng e=true):e=ep:=by
 obtain⟨a,b,c,l⟩:=e;unfold ng at h;simp only [Bool.and_eq_true,decide_eq_true_eq]at h;obtain⟨⟨⟨rfl,rfl⟩,rfl⟩,h⟩:=h;rw [List.length_eq_zero_iff]at h;subst h;rfl
def tj{e:Expr}(hi:mN e)(h:g' e 1=0):iN e:=by
 obtain⟨Z,ab⟩:=apx (fJ e) e 1 (Nat.le_refl _) hi h (by omega)
 exact⟨Z,by omega⟩
def apE{s:Stmt}{d:Int}(hi:rI s)(h:kx s d=0):d≤12∧FK s:=by
 obtain⟨i1,i2,i3,i4,i5,i6⟩:=(U8 s).1 hi;unfold kx at h;split at h
 ·omega
 rename_i g1;split at h
 ·omega
 rename_i g2;split at h
 ·rename_i g;exact absurd h g.2
 rename_i g3;split at h
 ·rename_i g;exact absurd h g.2
 rename_i g4;split at h
 ·omega
 rename_i g5;refine⟨by omega,?_⟩
 simp only [not_or,not_and,Bool.not_eq_false,Bool.not_eq_true,Decidable.not_not]at g1 g2 g3 g4;obtain⟨bb,a2,a3⟩:=g1
 have d':1≤s.Op∧s.Op≤8:=by
  by_cases bm:1≤s.Op∧s.Op≤8
  ·exact bm
  ·rw [show j_ s.Op=(⟨false,false,false,false,false,false⟩,false) by
    unfold j_;rw [if_neg (by omega),if_neg (by omega),if_neg (by omega),if_neg (by omega),if_neg (by omega),if_neg (by omega)]]at bb
   cases bb
 obtain⟨Op,Name,Max,A,B,Body,bB⟩:=s;simp only at *
 obtain rfl|rfl|rfl|rfl|rfl|rfl|rfl|rfl:Op=1∨Op=2∨Op=3∨Op=4∨Op=5∨Op=6∨Op=7∨Op=8:=by omega
 all_goals
  simp only [Ba,rG,j_]at a2 a3 g2 g3 g4;simp [-List.length_eq_zero_iff]at a2 a3 g2 g3 g4
 all_goals unfold FK;simp only []
 ·obtain⟨⟨⟨cW,rfl⟩,Z⟩,ab⟩:=a2;obtain rfl:=xH cW;obtain rfl:=List.eq_nil_of_length_eq_zero Z;obtain rfl:=List.eq_nil_of_length_eq_zero ab;exact Or.inl ⟨Or.inl trivial,rfl,g2,tj i3 g3⟩
 ·obtain⟨⟨⟨cW,rfl⟩,Z⟩,ab⟩:=a2;obtain rfl:=xH cW;obtain rfl:=List.eq_nil_of_length_eq_zero Z;obtain rfl:=List.eq_nil_of_length_eq_zero ab;exact Or.inl ⟨Or.inr trivial,rfl,g2,tj i3 g3⟩
 ·obtain⟨⟨⟨rfl,rfl⟩,Z⟩,ab⟩:=a2;obtain rfl:=List.eq_nil_of_length_eq_zero Z;obtain rfl:=List.eq_nil_of_length_eq_zero ab;exact Or.inr (Or.inl ⟨rfl,tj i3 g3,tj i4 g4⟩)
 ·obtain⟨⟨⟨⟨rfl,cW⟩,rfl⟩,Z⟩,ab⟩:=a2;obtain rfl:=xH cW;obtain rfl:=List.eq_nil_of_length_eq_zero Z;obtain rfl:=List.eq_nil_of_length_eq_zero ab;exact Or.inr (Or.inr (Or.inl ⟨Or.inl trivial,rfl,tj i3 g3⟩))
 ·obtain⟨⟨rfl,cW⟩,rfl⟩:=a2;obtain rfl:=xH cW;exact Or.inr (Or.inr (Or.inr (Or.inl ⟨rfl,tj i3 g3⟩)))
 ·obtain rfl:=List.eq_nil_of_length_eq_zero a2;exact Or.inr (Or.inr (Or.inr (Or.inr (Or.inl ⟨rfl,g2,a3,tj i3 g3,tj i4 g4⟩))))
 ·obtain⟨⟨⟨⟨rfl,cW⟩,rfl⟩,Z⟩,ab⟩:=a2;obtain rfl:=xH cW;obtain rfl:=List.eq_nil_of_length_eq_zero Z;obtain rfl:=List.eq_nil_of_length_eq_zero ab;exact Or.inr (Or.inr (Or.inl ⟨Or.inr trivial,rfl,tj i3 g3⟩))
 ·obtain⟨⟨⟨⟨rfl,aS⟩,cW⟩,Z⟩,ab⟩:=a2;obtain rfl:=xH aS;obtain rfl:=xH cW;obtain rfl:=List.eq_nil_of_length_eq_zero Z;obtain rfl:=List.eq_nil_of_length_eq_zero ab;exact Or.inr (Or.inr (Or.inr (Or.inr (Or.inr ⟨rfl,a3⟩))))
mutual
def adO:∀(s:Stmt) (d:Int) (r:Nat×Int),(qu s d r).2=0→r.2=0∧kx s d=0
 |⟨Op,Name,Max,A,B,Body,bB⟩,d,r,h=>by
  simp only [qu]at h;have Z:=FL Body _ _ (FL bB _ _ h);simp only at Z
  by_cases h0:r.2=0
  ·rw [if_pos h0]at Z;exact⟨h0,Z⟩
  ·rw [if_neg h0]at Z;exact absurd Z h0
def FL:∀(l:List Stmt) (d:Int) (r:Nat×Int),(h9 l d r).2=0→r.2=0
 |[],d,r,h=>h
 |s::l,d,r,h=>by
  simp only [h9]at h;split at h
  ·exact h
  ·exact(adO s d r (FL l d _ h)).1
end
mutual
def apF:∀(s:Stmt) (d:Nat) (r:Nat×Int),rI s→(qu s (d:Int) r).1≠0→(qu s (d:Int) r).2=0→ti s d
 |⟨Op,Name,Max,A,B,Body,bB⟩,d,r,hi,Z,ab=>by
  have hs:=apE hi (adO _ _ _ ab).2;obtain⟨i1,i2,i3,i4,i5,i6⟩:=(U8 _).1 hi;have hd:av5 ((d:Int)+1)=((d+1:Nat):Int):=by rw [wr]<;>omega
  simp only [qu,hd]at Z ab;have dt:=FL _ _ _ ab;have ak:=uS bB ((d+1:Nat):Int) (h9 Body ((d+1:Nat):Int) (ka B (ka A (r.1-1)),if r.2=0 then kx ⟨Op,Name,Max,A,B,Body,bB⟩ d else r.2))
  exact⟨by omega,hs.2,Ma Body (d+1) _ i5 (by omega) dt,Ma bB (d+1) _ i6 Z ab⟩
def Ma:∀(l:List Stmt) (d:Nat) (r:Nat×Int),rJ l→(h9 l (d:Int) r).1≠0→(h9 l (d:Int) r).2=0→ky l d
 |[],d,r,_,_,_=>trivial
 |s::l,d,r,hi,Z,ab=>by
  simp only [h9]at Z ab;split at Z
  ·rename_i h;exact absurd h Z
  ·rename_i h;rw [if_neg h]at ab;have k:=uS l (d:Int) (qu s (d:Int) r);exact⟨apF s d r hi.1 (by omega) (FL _ _ _ ab),Ma l d _ hi.2 Z ab⟩
end
def Mb(p:bg):Prop:=gy p.Name=true∧qs p.Params=0∧ky p.Body 1
def Mc{p:bg}(hi:rK p)(h:mI p=0):Mb p:=by
 unfold mI at h;split at h
 ·omega
 rename_i g1;split at h
 ·rename_i g;exact absurd h g
 rename_i g2;split at h
 ·omega
 rename_i g3;simp only [Bool.not_eq_false,Decidable.not_not]at g1 g2;exact⟨g1,g2,Ma p.Body 1 (401,0) hi.2.2.2 (λe=>g3 ⟨h,e⟩) h⟩
open Go Go.Ab Go.Proofs
def ind:Nat→av3
 | 0=>[]
 |d+1=>32::32::32::32::ind d
def cat:List av3→av3
 |[]=>[]
 |x::l=>x++cat l
def dA(d:Nat)(l:List av3):av3:=ind d++(cat l++[10])
abbrev fb(e:Expr):av3:=flat (bX e)
abbrev fQ(e:Expr):List Token:=df (bX e)
mutual
def eu:Stmt→Nat→av3
 |⟨Op,Name,Max,A,B,Body,bB⟩,d=>
  if Op=1 then dA d [[108,101,116,32],Name,[32,61,32],fb A,[59]]
  else if Op=2 then dA d [Name,[32,61,32],fb A,[59]]
  else if Op=3 then dA d [[112,117,116,32],fb A,[32,61,32],fb B,[59]]
  else if Op=4 then dA d [[100,101,108,101,116,101,32],fb A,[59]]
  else if Op=5 then dA d [[105,102,32],fb A,[32,123]]++(fE Body (d+1)++((if bB.length=0 then[]else dA d [[125,32,101,108,115,101,32,123]]++fE bB (d+1))++dA d [[125]]))
  else if Op=6 then dA d [[102,111,114,32],Name,[32,61,32],fb A,[32,116,111,32],fb B,[32,109,97,120,32],Lib.decDigits Max.toNat,[32,123]]++(fE Body (d+1)++dA d [[125]])
  else if Op=7 then dA d [[101,109,105,116,32],fb A,[59]]
  else dA d [[97,98,111,114,116,32],Lib.decDigits Max.toNat,[59]]
def fE:List Stmt→Nat→av3
 |[],_=>[]
 |s::l,d=>eu s d++fE l d
end
mutual
def eF:Stmt→List Token
 |⟨Op,Name,Max,A,B,Body,bB⟩=>
  if Op=1 then dK [108,101,116]::hW Name::bh [61]::(fQ A++[bh [59]])
  else if Op=2 then hW Name::bh [61]::(fQ A++[bh [59]])
  else if Op=3 then dK [112,117,116]::(fQ A++bh [61]::(fQ B++[bh [59]]))
  else if Op=4 then dK [100,101,108,101,116,101]::(fQ A++[bh [59]])
  else if Op=5 then dK [105,102]::(fQ A++bh [123]::(gj Body++bh [125]::(if bB.length=0 then[]else dK [101,108,115,101]::bh [123]::(gj bB++[bh [125]]))))
  else if Op=6 then dK [102,111,114]::hW Name::bh [61]::(fQ A++dK [116,111]::(fQ B++dK [109,97,120]::nW Max::bh [123]::(gj Body++[bh [125]])))
  else if Op=7 then dK [101,109,105,116]::(fQ A++[bh [59]])
  else[dK [97,98,111,114,116],nW Max,bh [59]]
def gj:List Stmt→List Token
 |[]=>[]
 |s::l=>eF s++gj l
end
def pC{r:av3}{T:List Token}(h:eK r T):∀d,eK (ind d++r) T
 | 0=>h
 |d+1=>mK (mK (mK (mK (pC h d))))
def qA{w r:av3}{T:List Token}(hw:w∈pt)(h:eK r T):eK (w++32::r) (dK w::T):=lm (t:=dK w) (uU hw) Bc (mK h)
def FM{w r:av3}{T:List Token}(hw:gy w=true)(hb:nV r)(h:eK r T):eK (w++r) (hW w::T):=lm (t:=hW w) (adj hw) (FC (by simp [hW,nW]) hb) h
def adP{n:Int}{r:av3}{T:List Token}(h0:0≤n)(Z:n≤9223372036854775807)(hb:nV r)(h:eK r T):eK (Lib.decDigits n.toNat++r) (nW n::T):=lm (t:=nW n) (adk h0 Z) (FC (by simp [hW,nW]) hb) h
def Md{r:av3}{T:List Token}(h:eK r T):eK (32::61::32::r) (bh [61]::T):=mK (lm (t:=bh [61]) (py (by decide)) Bc (mK h))
def Bn{r:av3}{T:List Token}(h:eK r T):eK (59::10::r) (bh [59]::T):=lm (t:=bh [59]) (py (by decide)) UN (UM h)
def FN{r:av3}{T:List Token}(h:eK r T):eK (32::123::10::r) (bh [123]::T):=mK (lm (t:=bh [123]) (py (by decide)) UN (UM h))
def Me{r:av3}{T:List Token}(d:Nat)(h:eK r T):eK (dA d [[125]]++r) (bh [125]::T):=by
 have e:dA d [[125]]++r=ind d++(125::10::r):=by simp [dA,cat]
 rw [e];exact pC (lm (t:=bh [125]) (py (by decide)) UN (UM h)) d
def rL{e:Expr}{r:av3}{T:List Token}(he:gO e)(hb:nV r)(h:eK r T):eK (fb e++r) (fQ e++T):=adm e he r T hb h
mutual
def apG:∀(s:Stmt) (d dL:Nat),ti s dL→∀(r:av3) (T:List Token),eK r T→eK (eu s d++r) (eF s++T)
 |⟨Op,Name,Max,A,B,Body,bB⟩,d,dL,h,r,T,aC=>by
  obtain⟨_,hs,cy,eV⟩:=(uW _ _).1 h;have xI:=Mf Body (d+1) _ cy;have Mg:=Mf bB (d+1) _ eV;rcases hs with⟨aw,au,hn,aS⟩|⟨au,aS,cW⟩|⟨aw,au,aS⟩|⟨au,aS⟩|⟨au,hn,hm,aS,cW⟩|⟨au,hm⟩
  ·simp only [Stmt.mk.injEq,true_and,and_true]at au aw;obtain⟨rfl,rfl,rfl,rfl⟩:=au;rcases aw with rfl|rfl
   ·have e:eu ⟨1,Name,0,A,ep,[],[]⟩ d++r=ind d++([108,101,116]++32::(Name++32::61::32::(fb A++59::10::r))):=by simp [eu,dA,cat]
    have e2:eF ⟨1,Name,0,A,ep,[],[]⟩++T=dK [108,101,116]::hW Name::bh [61]::(fQ A++bh [59]::T):=by simp [eF]
    rw [e,e2];exact pC (qA (by decide) (FM hn (i' rfl) (Md (rL aS.1 (i' rfl) (Bn aC))))) d
   ·have e:eu ⟨2,Name,0,A,ep,[],[]⟩ d++r=ind d++(Name++32::61::32::(fb A++59::10::r)):=by simp [eu,dA,cat]
    have e2:eF ⟨2,Name,0,A,ep,[],[]⟩++T=hW Name::bh [61]::(fQ A++bh [59]::T):=by simp [eF]
    rw [e,e2];exact pC (FM hn (i' rfl) (Md (rL aS.1 (i' rfl) (Bn aC)))) d
  ·simp only [Stmt.mk.injEq,true_and,and_true]at au;obtain⟨rfl,rfl,rfl,rfl,rfl⟩:=au;have e:eu ⟨3,[],0,A,B,[],[]⟩ d++r=ind d++([112,117,116]++32::(fb A++32::61::32::(fb B++59::10::r))):=by simp [eu,dA,cat]
   have e2:eF ⟨3,[],0,A,B,[],[]⟩++T=dK [112,117,116]::(fQ A++bh [61]::(fQ B++bh [59]::T)):=by simp [eF]
   rw [e,e2];exact pC (qA (by decide) (rL aS.1 (i' rfl) (Md (rL cW.1 (i' rfl) (Bn aC))))) d
  ·simp only [Stmt.mk.injEq,true_and,and_true]at au aw;obtain⟨rfl,rfl,rfl,rfl,rfl⟩:=au;rcases aw with rfl|rfl
   ·have e:eu ⟨4,[],0,A,ep,[],[]⟩ d++r=ind d++([100,101,108,101,116,101]++32::(fb A++59::10::r)):=by simp [eu,dA,cat]
    have e2:eF ⟨4,[],0,A,ep,[],[]⟩++T=dK [100,101,108,101,116,101]::(fQ A++bh [59]::T):=by simp [eF]
    rw [e,e2];exact pC (qA (by decide) (rL aS.1 (i' rfl) (Bn aC))) d
   ·have e:eu ⟨7,[],0,A,ep,[],[]⟩ d++r=ind d++([101,109,105,116]++32::(fb A++59::10::r)):=by simp [eu,dA,cat]
    have e2:eF ⟨7,[],0,A,ep,[],[]⟩++T=dK [101,109,105,116]::(fQ A++bh [59]::T):=by simp [eF]
    rw [e,e2];exact pC (qA (by decide) (rL aS.1 (i' rfl) (Bn aC))) d
  ·simp only [Stmt.mk.injEq,true_and,and_true]at au;obtain⟨rfl,rfl,rfl,rfl⟩:=au;by_cases aa:bB.length=0
   ·have e:eu ⟨5,[],0,A,ep,Body,bB⟩ d++r=ind d++([105,102]++32::(fb A++32::123::10::(fE Body (d+1)++(dA d [[125]]++r)))):=by
     simp only [eu,aa];simp [dA,cat]
    have e2:eF ⟨5,[],0,A,ep,Body,bB⟩++T=dK [105,102]::(fQ A++bh [123]::(gj Body++bh [125]::T)):=by simp only [eF,aa];simp
    rw [e,e2];exact pC (qA (by decide) (rL aS.1 (i' rfl) (FN (xI _ _ (Me d aC))))) d
   ·have e:eu ⟨5,[],0,A,ep,Body,bB⟩ d++r=ind d++([105,102]++32::(fb A++32::123::10::(fE Body (d+1)++(ind d++(125::32::([101,108,115,101]++32::123::10::(fE bB (d+1)++(dA d [[125]]++r)))))))):=by
     simp only [eu,aa];simp [dA,cat]
    have e2:eF ⟨5,[],0,A,ep,Body,bB⟩++T=dK [105,102]::(fQ A++bh [123]::(gj Body++bh [125]::dK [101,108,115,101]::bh [123]::(gj bB++bh [125]::T))):=by simp only [eF,aa];simp
    rw [e,e2];exact pC (qA (by decide) (rL aS.1 (i' rfl) (FN (xI _ _ (pC (lm (t:=bh [125]) (py (by decide)) Bc (mK (lm (t:=dK [101,108,115,101]) (uU (by decide)) Bc (FN (Mg _ _ (Me d aC)))))) d))))) d
  ·simp only [Stmt.mk.injEq,true_and,and_true]at au;obtain⟨rfl,rfl⟩:=au;have hm:1≤Max∧Max≤16:=hm
   have e:eu ⟨6,Name,Max,A,B,Body,[]⟩ d++r=ind d++([102,111,114]++32::(Name++32::61::32::(fb A++32::([116,111]++32::(fb B++32::([109,97,120]++32::(Lib.decDigits Max.toNat++32::123::10::(fE Body (d+1)++(dA d [[125]]++r))))))))):=by
    simp [eu,dA,cat]
   have e2:eF ⟨6,Name,Max,A,B,Body,[]⟩++T=dK [102,111,114]::hW Name::bh [61]::(fQ A++dK [116,111]::(fQ B++dK [109,97,120]::nW Max::bh [123]::(gj Body++bh [125]::T))):=by simp [eF]
   rw [e,e2];exact pC (qA (by decide) (FM hn (i' rfl) (Md (rL aS.1 (i' rfl) (mK (qA (by decide) (rL cW.1 (i' rfl) (mK (qA (by decide) (adP (by omega) (by omega) (i' rfl) (FN (xI _ _ (Me d aC))))))))))))) d
  ·simp only [Stmt.mk.injEq,true_and,and_true]at au;obtain⟨rfl,rfl,rfl,rfl,rfl,rfl⟩:=au;have hm:0≤Max∧Max≤999:=hm;have e:eu ⟨8,[],Max,ep,ep,[],[]⟩ d++r=ind d++([97,98,111,114,116]++32::(Lib.decDigits Max.toNat++59::10::r)):=by simp [eu,dA,cat]
   have e2:eF ⟨8,[],Max,ep,ep,[],[]⟩++T=dK [97,98,111,114,116]::nW Max::bh [59]::T:=by simp [eF]
   rw [e,e2];exact pC (qA (by decide) (adP (by omega) (by omega) (i' rfl) (Bn aC))) d
def Mf:∀(l:List Stmt) (d dL:Nat),ky l dL→∀(r:av3) (T:List Token),eK r T→eK (fE l d++r) (gj l++T)
 |[],d,dL,h,r,T,aC=>aC
 |s::l,d,dL,h,r,T,aC=>by
  have:=apG s d dL h.1 _ _ (Mf l d dL h.2 r T aC)
  simp only [fE,gj,List.append_assoc];exact this
end
open Go Go.Ab Go.Proofs
def adQ(n:Nat)(s b:av3)(x:Int)(h:b.length+s.length≤1000000000):Di n s (fV b) x=some (((s.length:Nat):Int),fV (b++s)):=by
 unfold Di za;rw [show(fV b).length+s.length=b.length+s.length by simp [fV],UZ (by omega)]
 simp [fV,an,aT]
def apH(n:Nat)(b:av3)(x:Int)(h:b.length≤1000000000):Ih n 10 (fV b) x=some (fV (b++[10])):=by
 unfold Ih za;rw [show(fV b).length+([10]:List Int).length=b.length+1 by simp [fV],UZ (by omega)]
 simp [fV,an,aT]
def U9:∀l m:List av3,cat (l++m)=cat l++cat m
 |[],m=>rfl
 |x::l,m=>by simp only [List.cons_append,cat,U9 l m,List.append_assoc]
def U':∀d,ind (d+1)=ind d++[32,32,32,32]
 | 0=>rfl
 |d+1=>by
  show 32::32::32::32::ind (d+1)=(32::32::32::32::ind d)++[32,32,32,32]
  rw [U' d];rfl
def FO:∀d,(ind d).length=4*d
 | 0=>rfl
 |d+1=>by simp only [ind,avS,FO d];omega
def apI(n:Nat)(parts:List av3)(d:Nat)(b:av3)(aa:b.length+(cat parts).length≤1000000000)(hp:parts.length≤1000):∀m i,parts.length<i+m→i≤parts.length→
 Dj n parts (d:Int) m (fV (b++cat (parts.take i))) (i:Int)=some (fV (b++(cat parts++[10]))):=by
 intro m;induction m with
 |zero=>intro i Z ab;omega
 |succ m aJ=>
  intro i Z ab;have hc:cat parts=cat (parts.take i)++cat (parts.drop i):=by rw [←U9,List.take_append_drop]
  have gM:(cat parts).length=(cat (parts.take i)).length+(cat (parts.drop i)).length:=by rw [hc,avW]
  simp only [Dj,P0,PZ,avV,avU];by_cases hi:i<parts.length
  ·rw [fo parts i default hi]at gM;simp only [cat,avW]at gM;simp only [hi,avM,avO,b1 hi,aT];rw [adQ n _ _ _ (by rw [avW];omega),eb (by omega)]
   simp only [an];have:=aJ (i+1) (by omega) (by omega)
   rw [xC parts i hi,U9]at this;simp only [cat,List.append_nil]at this;rw [List.append_assoc];exact this
  ·simp only [hi,avN,avP];obtain rfl:i=parts.length:=by omega
   rw [List.take_length,apH n _ _ (by rw [avW];omega)]
   simp only [an,List.append_assoc]
def nZ{n:Nat}(parts:List av3)(d:Nat)(b:av3)(aa:b.length+(cat parts).length≤900000000)(hp:parts.length≤10)(hd:d≤100)(hn:200≤n):
 mB n parts (fV b) (d:Int)=some (fV (b++dA d parts)):=by
 have gS:∀m i,d<i+m→i≤d→Dk n parts (d:Int) m (fV (b++ind i)) (i:Int)=some (fV (b++dA d parts)):=by
  intro m;induction m with
  |zero=>intro i Z ab;omega
  |succ m aJ=>
   intro i Z ab;have Np:=FO i;simp only [Dk,P2,P1,avV];by_cases hi:i<d
   ·simp only [hi,avM,avO];rw [adQ n _ _ _ (by simp only [avW,avS,avT];omega),eb (by omega)]
    simp only [an];have:=aJ (i+1) (by omega) (by omega)
    rw [U']at this;rw [List.append_assoc];exact this
   ·simp only [hi,avN,avP];obtain rfl:i=d:=by omega
    have:=apI n parts i (b++ind i) (by rw [avW];omega) (by omega) n 0 (by omega) (by omega)
    simp only [List.take_zero,cat,List.append_nil]at this;rw [show((0:Nat):Int)=0 from rfl]at this
    rw [this,dA,List.append_assoc]
 have:=gS n 0 (by omega) (by omega)
 simp only [ind,List.append_nil]at this;exact this
def lW(d:Nat)(l:List av3):(dA d l).length=4*d+(cat l).length+1:=by
 unfold dA;simp only [avW,FO,avS,avT];omega
def mO{e:Expr}(h:iN e):(fb e).length≤4*di e:=q1 (fJ e) e (Nat.le_refl _) h.1
mutual
def adR:∀(s:Stmt) (d:Nat),ti s d→(eu s d).length≤4*fst s
 |⟨Op,Name,Max,A,B,Body,bB⟩,d,h=>by
  obtain⟨hd,hs,cy,eV⟩:=(uW _ _).1 h;have xI:=oL Body (d+1) cy;have Mg:=oL bB (d+1) eV;rcases hs with⟨aw,au,hn,aS⟩|⟨au,aS,cW⟩|⟨aw,au,aS⟩|⟨au,aS⟩|⟨au,hn,hm,aS,cW⟩|⟨au,hm⟩
  ·simp only [Stmt.mk.injEq,true_and,and_true]at au aw;obtain⟨rfl,rfl,rfl,rfl⟩:=au;have Z:=mO aS;have ab:=pB hn;simp only at Z ab
   rcases aw with rfl|rfl
   ·rw [show eu ⟨1,Name,0,A,ep,[],[]⟩ d=dA d [[108,101,116,32],Name,[32,61,32],fb A,[59]]by simp [eu],lW]
    simp only [cat,fst,avW,avS,avT];omega
   ·rw [show eu ⟨2,Name,0,A,ep,[],[]⟩ d=dA d [Name,[32,61,32],fb A,[59]]by simp [eu],lW]
    simp only [cat,fst,avW,avS,avT];omega
  ·simp only [Stmt.mk.injEq,true_and,and_true]at au;obtain⟨rfl,rfl,rfl,rfl,rfl⟩:=au;have Z:=mO aS;have ab:=mO cW;simp only at Z ab
   rw [show eu ⟨3,[],0,A,B,[],[]⟩ d=dA d [[112,117,116,32],fb A,[32,61,32],fb B,[59]]by simp [eu],lW]
   simp only [cat,fst,avW,avS,avT];omega
  ·simp only [Stmt.mk.injEq,true_and,and_true]at au aw;obtain⟨rfl,rfl,rfl,rfl,rfl⟩:=au;have Z:=mO aS;simp only at Z
   rcases aw with rfl|rfl
   ·rw [show eu ⟨4,[],0,A,ep,[],[]⟩ d=dA d [[100,101,108,101,116,101,32],fb A,[59]]by simp [eu],lW]
    simp only [cat,fst,avW,avS,avT];omega
   ·rw [show eu ⟨7,[],0,A,ep,[],[]⟩ d=dA d [[101,109,105,116,32],fb A,[59]]by simp [eu],lW]
    simp only [cat,fst,avW,avS,avT];omega
  ·simp only [Stmt.mk.injEq,true_and,and_true]at au;obtain⟨rfl,rfl,rfl,rfl⟩:=au;have Z:=mO aS;simp only at Z
   have ab:(eu ⟨5,[],0,A,ep,Body,bB⟩ d).length≤(dA d [[105,102,32],fb A,[32,123]]).length+((fE Body (d+1)).length+(((dA d [[125,32,101,108,115,101,32,123]]).length+(fE bB (d+1)).length)+(dA d [[125]]).length)):=by
    by_cases aa:bB.length=0
    ·simp [eu,aa]
    ·simp [eu,aa];omega
   simp only [lW,cat,avW,avS,avT]at ab;simp only [fst];omega
  ·simp only [Stmt.mk.injEq,true_and,and_true]at au;obtain⟨rfl,rfl⟩:=au;have hm:1≤Max∧Max≤16:=hm;have Z:=mO aS;have ab:=mO cW;have aj:=pB hn;have aD:=Bj Max (by omega) (by omega)
   simp only at Z ab aj
   have aX:eu ⟨6,Name,Max,A,B,Body,[]⟩ d=dA d [[102,111,114,32],Name,[32,61,32],fb A,[32,116,111,32],fb B,[32,109,97,120,32],Lib.decDigits Max.toNat,[32,123]]++(fE Body (d+1)++dA d [[125]]):=by simp [eu]
   rw [aX];simp only [lW,cat,fst,avW,avS,avT];omega
  ·simp only [Stmt.mk.injEq,true_and,and_true]at au;obtain⟨rfl,rfl,rfl,rfl,rfl,rfl⟩:=au;have hm:0≤Max∧Max≤999:=hm;have aD:=Bj Max (by omega) (by omega)
   rw [show eu ⟨8,[],Max,ep,ep,[],[]⟩ d=dA d [[97,98,111,114,116,32],Lib.decDigits Max.toNat,[59]]by simp [eu],lW]
   simp only [cat,fst,avW,avS,avT];omega
def oL:∀(l:List Stmt) (d:Nat),ky l d→(fE l d).length≤4*dC l
 |[],d,h=>Nat.le_refl _
 |s::l,d,h=>by
  have Z:=adR s d h.1;have ab:=oL l d h.2;simp only [fE,dC,avW];omega
end
def adS(n:Nat)(i:Int)(h0:0≤i)(Z:i≤9223372036854775807):wz n i=some (Lib.decDigits i.toNat):=adD n i h0 Z
open Go Go.Ab Go.Proofs
def apJ(n:Nat):rp (n+1)=Ip n (rp n) (wB n) (wC n):=rfl
def apK(n:Nat):wB (n+1)=Ir n (rp n) (wB n) (wC n):=rfl
def apL(n:Nat):wC (n+1)=Is n (rp n) (wB n) (wC n):=rfl
def tk{n:Nat}{e:Expr}(h:iN e)(hn:300≤n)(ba:di e≤1000000):mg n e=some (fb e):=aps (fJ e) e n (Nat.le_refl _) h.1 (by have:=h.2;omega) ba
def tl(n:Nat)(l:List Stmt)(d:Nat)(b:av3):Prop:=rp n l (fV b) (d:Int)=some (fV (b++fE l (d+1)),(d:Int))
def apM{n d:Nat}{b:av3}{A:Expr}{Body bB:List Stmt}(aS:iN A)(ba:di A≤300000)(hd:d≤12)(hn:400≤n)(hb:b.length≤10000000)(e6:(fE Body (d+1)).length≤10000000)(eH:(fE bB (d+1)).length≤10000000)
 (cW:∀bJ:av3,bJ.length≤b.length+4*di A+100→tl n Body d bJ) (b7:∀bJ:av3,bJ.length≤b.length+4*di A+200+(fE Body (d+1)).length→tl n bB d bJ):
 wB (n+1) ⟨5,[],0,A,ep,Body,bB⟩ (fV b) (d:Int)=some (fV (b++eu ⟨5,[],0,A,ep,Body,bB⟩ d),(d:Int)):=by
 have Z:=mO aS;rw [apK];simp only [Ir,Iq,i8];rw [tk aS (by omega) (by omega)]
 simp only [an];rw [nZ _ d b (by simp only [cat,avW,avS,avT];omega) (by simp) (by omega) (by omega)]
 simp only [an];have e1:=cW (b++dA d [[105,102,32],fb A,[32,123]]) (by simp only [avW,lW,cat,avS,avT];omega)
 unfold tl at e1;rw [e1];simp only [an];by_cases aa:bB.length=0
 ·rw [show decide (0<((bB.length:Nat):Int))=false from decide_eq_false (by omega)]
  simp only [avP];rw [nZ _ d _ (by simp only [avW,lW,cat,avS,avT];omega) (by simp) (by omega) (by omega)]
  simp only [an];have:eu ⟨5,[],0,A,ep,Body,bB⟩ d=dA d [[105,102,32],fb A,[32,123]]++(fE Body (d+1)++dA d [[125]]):=by simp [eu,aa]
  rw [this];simp only [List.append_assoc]
 ·rw [show decide (0<((bB.length:Nat):Int))=true from decide_eq_true (by omega)]
  simp only [avO];rw [nZ _ d _ (by simp only [avW,lW,cat,avS,avT];omega) (by simp) (by omega) (by omega)]
  simp only [an];have e2:=b7 (b++dA d [[105,102,32],fb A,[32,123]]++fE Body (d+1)++dA d [[125,32,101,108,115,101,32,123]]) (by simp only [avW,lW,cat,avS,avT];omega)
  unfold tl at e2;rw [e2];simp only [an];rw [nZ _ d _ (by simp only [avW,lW,cat,avS,avT];omega) (by simp) (by omega) (by omega)]
  simp only [an];have:eu ⟨5,[],0,A,ep,Body,bB⟩ d=dA d [[105,102,32],fb A,[32,123]]++(fE Body (d+1)++((dA d [[125,32,101,108,115,101,32,123]]++fE bB (d+1))++dA d [[125]])):=by simp [eu,aa]
  rw [this];simp only [List.append_assoc]
def apN{n d:Nat}{b:av3}{Name:av3}{Max:Int}{A B:Expr}{Body:List Stmt}(aS:iN A)(adT:iN B)(ba:di A≤300000)(tL:di B≤300000)(aV:gy Name=true)(hm:1≤Max∧Max≤16)(hd:d≤12)(hn:400≤n)(hb:b.length≤10000000)(e6:(fE Body (d+1)).length≤10000000)
 (cW:∀bJ:av3,bJ.length≤b.length+4*di A+4*di B+120→tl n Body d bJ):
 wC (n+1) ⟨6,Name,Max,A,B,Body,[]⟩ (fV b) (d:Int)=some (fV (b++eu ⟨6,Name,Max,A,B,Body,[]⟩ d),(d:Int)):=by
 have Z:=mO aS;have ab:=mO adT;have aj:=pB aV;have aD:=Bj Max (by omega) (by omega)
 rw [apL];simp only [Is,i8];rw [tk aS (by omega) (by omega),tk adT (by omega) (by omega),adS n Max (by omega) (by omega)]
 simp only [an];rw [nZ _ d b (by simp only [cat,avW,avS,avT];omega) (by simp) (by omega) (by omega)]
 simp only [an];have e1:=cW (b++dA d [[102,111,114,32],Name,[32,61,32],fb A,[32,116,111,32],fb B,[32,109,97,120,32],Lib.decDigits Max.toNat,[32,123]]) (by simp only [avW,lW,cat,avS,avT];omega)
 unfold tl at e1;rw [e1];simp only [an];rw [nZ _ d _ (by simp only [avW,lW,cat,avS,avT];omega) (by simp) (by omega) (by omega)]
 simp only [an];have:eu ⟨6,Name,Max,A,B,Body,[]⟩ d=dA d [[102,111,114,32],Name,[32,61,32],fb A,[32,116,111,32],fb B,[32,109,97,120,32],Lib.decDigits Max.toNat,[32,123]]++(fE Body (d+1)++dA d [[125]]):=by simp [eu]
 rw [this];simp only [List.append_assoc]
def U_:∀(l:List Stmt) (i d:Nat),i<l.length→ky l d→ti (l.getD i default) d
 |[],i,d,h,_=>by simp at h
 |x::l,0,d,h,aa=>aa.1
 |x::l,i+1,d,h,aa=>by simp only [List.getD_cons_succ];exact U_ l i d (by simpa using h) aa.2
def Va:∀(l m:List Stmt) (d:Nat),ky (l++m) d↔ky l d∧ky m d
 |[],m,d=>by simp [ky]
 |x::l,m,d=>by simp only [List.cons_append,ky,Va l m d,and_assoc]
def Vb:∀(l m:List Stmt) (d:Nat),fE (l++m) d=fE l d++fE m d
 |[],m,d=>rfl
 |x::l,m,d=>by simp only [List.cons_append,fE,Vb l m d,List.append_assoc]
def apO:∀(n:Nat) (l:List Stmt) (d:Nat) (b:av3),ky l (d+1)→d≤12→dC l≤300000→2*dC l+500≤n→b.length+4*dC l≤9000000→tl n l d b:=by
 intro n;induction n using Nat.strongRecOn with
 |_ n aJ=>
  intro l d b cP hd ba hn hb;obtain⟨n,rfl⟩:∃k,n=k+2:=⟨n-2,by omega⟩
  have hlen:=tb l;unfold tl;rw [apJ];unfold Ip;rw [eb (by omega)]
  have gS:∀m i,l.length<i+m→i≤l.length→Dp (n+1) (rp (n+1)) (wB (n+1)) (wC (n+1)) l m (fV (b++fE (l.take i) (d+1))) ((d+1:Nat):Int) (i:Int)=some (fV (b++fE l (d+1)),(d:Int)):=by
   intro m;induction m with
   |zero=>intro i Z ab;omega
   |succ m li=>
    intro i Z ab;simp only [Dp,Qf,Qe,avV,avU,i8,mF];by_cases hi:i<l.length
    ·simp only [hi,avM,avO,b1 hi,aT];have dE:=U_ l i (d+1) hi cP;have xz:ky (l.take i) (d+1):=((Va (l.take i) (l.drop i) (d+1)).1 (by rw [List.take_append_drop];exact cP)).1
     have p0:=oL _ _ xz
     have wn:dC l=dC (l.take i)+(fst (l.getD i default)+1+dC (l.drop (i+1))):=by
      have:dC l=dC (l.take i++l.drop i):=by rw [List.take_append_drop]
      rw [UE,fo l i default hi]at this;simpa only [dC]using this
     have gt:=li (i+1) (by omega) (by omega)
     rw [xC l i hi,Vb,←List.append_assoc]at gt;simp only [fE,List.append_nil]at gt;have nv:(b++fE (l.take i) (d+1)).length≤b.length+4*dC (l.take i):=by rw [avW];omega
     generalize b++fE (l.take i) (d+1)=Bo at gt nv
     rw [eb (by omega)]
     generalize l.getD i default=s at dE wn gt
     have mu:=fst_eq s;obtain⟨jk,hs,cy,eV⟩:=(uW _ _).1 dE;obtain⟨Op,Name,Max,A,B,Body,bB⟩:=s;simp only at mu cy eV
     rcases hs with⟨aw,au,aV,aS⟩|⟨au,aS,cW⟩|⟨aw,au,aS⟩|⟨au,aS⟩|⟨au,aV,hm,aS,cW⟩|⟨au,hm⟩
     ·simp only [Stmt.mk.injEq,true_and,and_true]at au aw;obtain⟨rfl,rfl,rfl,rfl⟩:=au;have aj:=mO aS;have aD:=pB aV;simp only at aj aD
      rcases aw with rfl|rfl
      ·simp only [show rl (n+1) 1=some (.inl ())from rfl,an,iu.on,Qa,i8]
       rw [tk aS (by omega) (by show di A≤_;omega)]
       simp only [an];rw [nZ _ (d+1) Bo (by simp only [cat,avW,avS,avT];omega) (by simp) (by omega) (by omega)]
       simp only [an];rw [show eu ⟨1,Name,0,A,ep,[],[]⟩ (d+1)=dA (d+1) [[108,101,116,32],Name,[32,61,32],fb A,[59]]by simp [eu]]at gt
       exact gt
      ·simp only [show rl (n+1) 2=some (.inr (.inl ()))from rfl,an,iu.on,P_,i8]
       rw [tk aS (by omega) (by show di A≤_;omega)]
       simp only [an];rw [nZ _ (d+1) Bo (by simp only [cat,avW,avS,avT];omega) (by simp) (by omega) (by omega)]
       simp only [an];rw [show eu ⟨2,Name,0,A,ep,[],[]⟩ (d+1)=dA (d+1) [Name,[32,61,32],fb A,[59]]by simp [eu]]at gt
       exact gt
     ·simp only [Stmt.mk.injEq,true_and,and_true]at au;obtain⟨rfl,rfl,rfl,rfl,rfl⟩:=au;have aj:=mO aS;have aD:=mO cW;simp only at aj aD
      simp only [show rl (n+1) 3=some (.inr (.inr (.inl ())))from rfl,an,iu.on,Qc,i8]
      rw [tk aS (by omega) (by show di A≤_;omega),tk cW (by omega) (by show di B≤_;omega)]
      simp only [an];rw [nZ _ (d+1) Bo (by simp only [cat,avW,avS,avT];omega) (by simp) (by omega) (by omega)]
      simp only [an];rw [show eu ⟨3,[],0,A,B,[],[]⟩ (d+1)=dA (d+1) [[112,117,116,32],fb A,[32,61,32],fb B,[59]]by simp [eu]]at gt
      exact gt
     ·simp only [Stmt.mk.injEq,true_and,and_true]at au aw;obtain⟨rfl,rfl,rfl,rfl,rfl⟩:=au;have aj:=mO aS;simp only at aj
      rcases aw with rfl|rfl
      ·simp only [show rl (n+1) 4=some (.inr (.inr (.inr (.inl ()))))from rfl,an,iu.on,Qd,i8]
       rw [tk aS (by omega) (by show di A≤_;omega)]
       simp only [an];rw [nZ _ (d+1) Bo (by simp only [cat,avW,avS,avT];omega) (by simp) (by omega) (by omega)]
       simp only [an];rw [show eu ⟨4,[],0,A,ep,[],[]⟩ (d+1)=dA (d+1) [[100,101,108,101,116,101,32],fb A,[59]]by simp [eu]]at gt
       exact gt
      ·simp only [show rl (n+1) 7=some (.inr (.inr (.inr (.inr (.inr (.inr (.inl ())))))))from rfl,an,iu.on,Qb,i8]
       rw [tk aS (by omega) (by show di A≤_;omega)]
       simp only [an];rw [nZ _ (d+1) Bo (by simp only [cat,avW,avS,avT];omega) (by simp) (by omega) (by omega)]
       simp only [an];rw [show eu ⟨7,[],0,A,ep,[],[]⟩ (d+1)=dA (d+1) [[101,109,105,116,32],fb A,[59]]by simp [eu]]at gt
       exact gt
     ·simp only [Stmt.mk.injEq,true_and,and_true]at au;obtain⟨rfl,rfl,rfl,rfl⟩:=au;have e6:=oL _ _ cy;have eH:=oL _ _ eV;simp only [show rl (n+1) 5=some (.inr (.inr (.inr (.inr (.inl ())))))from rfl,an,iu.on]
      rw [apM (A:=A) aS (by show di A≤_;omega) (by omega) (by omega) (by omega) (by omega) (by omega)
       (λbJ bQ=>aJ n (by omega) Body (d+1) bJ cy (by omega) (by omega) (by omega) (by omega)) (λbJ bQ=>aJ n (by omega) bB (d+1) bJ eV (by omega) (by omega) (by omega) (by omega))]
      exact gt
     ·simp only [Stmt.mk.injEq,true_and,and_true]at au;obtain⟨rfl,rfl⟩:=au;have e6:=oL _ _ cy;simp only [show rl (n+1) 6=some (.inr (.inr (.inr (.inr (.inr (.inl ()))))))from rfl,an,iu.on]
      rw [apN (A:=A) (B:=B) aS cW (by show di A≤_;omega) (by show di B≤_;omega) aV hm (by omega) (by omega) (by omega) (by omega)
       (λbJ bQ=>aJ n (by omega) Body (d+1) bJ cy (by omega) (by omega) (by omega) (by omega))]
      exact gt
     ·simp only [Stmt.mk.injEq,true_and,and_true]at au;obtain⟨rfl,rfl,rfl,rfl,rfl,rfl⟩:=au;have hm:0≤Max∧Max≤999:=hm;have aD:=Bj Max (by omega) (by omega)
      simp only [show rl (n+1) 8=some (.inr (.inr (.inr (.inr (.inr (.inr (.inr ())))))))from rfl,an,iu.on,P3,i8]
      rw [adS _ Max (by omega) (by omega)]
      simp only [an];rw [nZ _ (d+1) Bo (by simp only [cat,avW,avS,avT];omega) (by simp) (by omega) (by omega)]
      simp only [an];rw [show eu ⟨8,[],Max,ep,ep,[],[]⟩ (d+1)=dA (d+1) [[97,98,111,114,116,32],Lib.decDigits Max.toNat,[59]]by simp [eu]]at gt
      exact gt
    ·simp only [hi,avN,avP];obtain rfl:i=l.length:=by omega
     rw [List.take_length,show av5 (((d+1:Nat):Int)-1)=(d:Int)by rw [wr]<;>omega]
  have:=gS (n+1) 0 (by omega) (by omega)
  simp only [List.take_zero,fE,List.append_nil]at this;exact this
open Go Go.Ab Go.Proofs
section
variable {l:List Token}
theorem ni{i n:Nat}{t:Token}{T R:List Token}{w:av3}(aa:l.length≤1000000000)(aS:bN l i (t::T) R)(h:ga [t] w=true):kO n w ⟨l,(i:Int)⟩=some (true,((i+1:Nat):Int)):=by
 have:=aS.lt
 rw [Fw n l i w (by omega),aS.is,show ga ((t::T)++R) w=true from h];rfl
theorem hB{i n:Nat}{t:Token}{T R:List Token}{w:av3}(aa:l.length≤1000000000)(aS:bN l i (t::T) R)(h:ga [t] w=false):kO n w ⟨l,(i:Int)⟩=some (false,((i:Nat):Int)):=by
 have:=aS.lt
 rw [Fw n l i w (by omega),aS.is,show ga ((t::T)++R) w=false from h];rfl
theorem qB{i n:Nat}{t:Token}{T R:List Token}{w:av3}(aa:l.length≤1000000000)(aS:bN l i (t::T) R)(h:ga [t] w=true):kP n w ⟨l,(i:Int)⟩=some (.ret () ((i+1:Nat):Int)):=by
 have:=aS.lt
 rw [A' n l i w (by omega) (by omega),aS.is,show ga ((t::T)++R) w=true from h];rfl
theorem Bp{i n:Nat}{T R:List Token}{s:Stmt}(aa:l.length≤1000000000)(aS:bN l i (bh [59]::T) R):rx n s ⟨l,(i:Int)⟩=some (.ret s ((i+1:Nat):Int)):=by
 have:=aS.lt
 rw [aod n s l i (by omega) (by omega),aS.is];rfl
theorem xJ{i n:Nat}{t:Token}{T R:List Token}{kd:Int}(aa:l.length≤1000000000)(aS:bN l i (t::T) R)(h:t.Kind=kd):∃u:Token,qg n kd ⟨l,(i:Int)⟩=some (.ret u ((i+1:Nat):Int))∧u.Text=t.Text∧u.N=t.N:=by
 have:=aS.lt
 obtain⟨Z,ab,aj⟩:=L7 aS.hd;refine⟨l.getD i default,?_,ab,aj⟩
 rw [aoc n l i kd aa (by omega),if_pos ⟨this,by rw [Z,h]⟩]
theorem rM{i n:Nat}{e:Expr}{R:List Token}(aa:l.length≤1000000000)(hg:lk l)(he:iN e)(aS:bN l i (fQ e) R)(gm:i_ R<1)(hn:24*l.length+100≤n):
 h5 n 1 0 ⟨l,(i:Int)⟩=some (.ret e ((i+(fQ e).length:Nat):Int)):=by
 have W9:=UR e.Op;have e1:eZ e 1=fQ e:=by unfold eZ fD;rw [if_neg (by omega)]
 have dk:=L6 e 1 he.1;have b7:=(aph aa hg (fJ e) e (Nat.le_refl _) he.1).1 1 i 0 R (by omega) (by omega) (by rw [e1];exact aS) gm (Or.inl (by have:=he.2;omega))
 rw [e1]at b7 dk;have:=aS.le dk
 exact b7 n (by omega)
theorem mj{α:Type}{x:α}{a b:Nat}(h:a=b):(some (.ret x (a:Int)):Option (aG α Int))=some (.ret x (b:Int)):=by rw [h]
theorem adU{s:Stmt}{d:Nat}(h:ti s d)(R:List Token):ga (eF s++R) [125]=false∧ga (eF s++R) [101,108,115,101]=false:=by
 obtain⟨_,hs,_,_⟩:=(uW _ _).1 h;obtain⟨Op,Name,Max,A,B,Body,bB⟩:=s;rcases hs with⟨aw,au,hn,aS⟩|⟨au,aS,cW⟩|⟨aw,au,aS⟩|⟨au,aS⟩|⟨au,hn,hm,aS,cW⟩|⟨au,hm⟩
 ·simp only at aw
  rcases aw with rfl|rfl<;>simp [eF,ga,dK,hW]
 ·simp only [Stmt.mk.injEq,true_and,and_true]at au;obtain⟨rfl,rfl,rfl,rfl,rfl⟩:=au;simp [eF,ga,dK,hW]
 ·simp only at aw
  rcases aw with rfl|rfl<;>simp [eF,ga,dK,hW]
 ·simp only [Stmt.mk.injEq,true_and,and_true]at au;obtain⟨rfl,rfl,rfl,rfl⟩:=au;simp [eF,ga,dK,hW]
 ·simp only [Stmt.mk.injEq,true_and,and_true]at au;obtain⟨rfl,rfl⟩:=au;simp [eF,ga,dK,hW]
 ·simp only [Stmt.mk.injEq,true_and,and_true]at au;obtain⟨rfl,rfl,rfl,rfl,rfl,rfl⟩:=au;simp [eF,ga,dK,hW]
theorem FP(R:List Token):i_ (bh [59]::R)<1:=by have:i_ (bh [59]::R)=0:=rfl;omega
theorem apP(R:List Token):i_ (bh [61]::R)<1:=by have:i_ (bh [61]::R)=0:=rfl;omega
theorem adV(R:List Token):i_ (bh [123]::R)<1:=by have:i_ (bh [123]::R)=0:=rfl;omega
theorem apQ(R:List Token):i_ (dK [116,111]::R)<1:=by have:i_ (dK [116,111]::R)=0:=rfl;omega
theorem apR(R:List Token):i_ (dK [109,97,120]::R)<1:=by have:i_ (dK [109,97,120]::R)=0:=rfl;omega
def lX(l:List Token)(n d i:Nat)(s:Stmt):Prop:=w5 n (d:Int) ⟨l,(i:Int)⟩=some (.ret s ((i+(eF s).length:Nat):Int))
def rN(l:List Token)(n d i:Nat)(b:List Stmt):Prop:=ry n (d:Int) ⟨l,(i:Int)⟩=some (.ret b ((i+(gj b).length+2:Nat):Int))
theorem apS{i n d:Nat}{Name:av3}{A:Expr}{R:List Token}(aa:l.length≤1000000000)(hg:lk l)(aC:iN A)(aS:bN l i (eF ⟨1,Name,0,A,ep,[],[]⟩) R)(hn:24*l.length+100≤n):lX l (n+1) d i ⟨1,Name,0,A,ep,[],[]⟩:=by
 have e:eF ⟨1,Name,0,A,ep,[],[]⟩=dK [108,101,116]::hW Name::bh [61]::(fQ A++[bh [59]]):=by simp [eF]
 unfold lX;rw [e]at aS ⊢;have Z:=aS.fX;have ab:=Z.fX;have aj:=ab.fX;obtain⟨u,t1,t2,t3⟩:=xJ (n:=n) (kd:=1) aa Z rfl;rw [tc];unfold pn;rw [ni aa aS rfl];simp only [an,avO];rw [t1];simp only [an,aG.on];rw [qB aa ab rfl];simp only [an,aG.on];rw [rM aa hg aC aj.lV (FP _) hn];simp only [an,aG.on];rw [Bp aa aj.jK];simp only [an,aG.on,i8,mF,t2];exact mj (by simp only [avS,avW,avT];omega)
theorem apT{i n d:Nat}{Name:av3}{A:Expr}{R:List Token}(aa:l.length≤1000000000)(hg:lk l)(aC:iN A)(aS:bN l i (eF ⟨2,Name,0,A,ep,[],[]⟩) R)(hn:24*l.length+100≤n):lX l (n+1) d i ⟨2,Name,0,A,ep,[],[]⟩:=by
 have e:eF ⟨2,Name,0,A,ep,[],[]⟩=hW Name::bh [61]::(fQ A++[bh [59]]):=by simp [eF]
 unfold lX;rw [e]at aS ⊢;have ab:=aS.fX;have aj:=ab.fX;obtain⟨u,t1,t2,t3⟩:=xJ (n:=n) (kd:=1) aa aS rfl;rw [tc];unfold pn;simp only [hB aa aS (show ga [hW Name] _=false from rfl),an,avP]
 rw [t1];simp only [an,aG.on];rw [qB aa ab rfl];simp only [an,aG.on];rw [rM aa hg aC aj.lV (FP _) hn];simp only [an,aG.on];rw [Bp aa aj.jK];simp only [an,aG.on,i8,mF,t2];exact mj (by simp only [avS,avW,avT];omega)
theorem apU{i n d:Nat}{A B:Expr}{R:List Token}(aa:l.length≤1000000000)(hg:lk l)(aC:iN A)(f6:iN B)(aS:bN l i (eF ⟨3,[],0,A,B,[],[]⟩) R)(hn:24*l.length+100≤n):lX l (n+1) d i ⟨3,[],0,A,B,[],[]⟩:=by
 have e:eF ⟨3,[],0,A,B,[],[]⟩=dK [112,117,116]::(fQ A++bh [61]::(fQ B++[bh [59]])):=by simp [eF]
 unfold lX;rw [e]at aS ⊢;have Z:=aS.fX;have ab:=Z.jK;have aj:=ab.fX;rw [tc];unfold pn;rw [hB aa aS rfl];simp only [an,avP];rw [ni aa aS rfl];simp only [an,avO];rw [rM aa hg aC Z.lV (apP _) hn];simp only [an,aG.on];rw [qB aa ab rfl];simp only [an,aG.on];rw [rM aa hg f6 aj.lV (FP _) hn];simp only [an,aG.on];rw [Bp aa aj.jK];simp only [an,aG.on,i8,mF];exact mj (by simp only [avS,avW,avT];omega)
theorem apV{i n d:Nat}{A:Expr}{R:List Token}(aa:l.length≤1000000000)(hg:lk l)(aC:iN A)(aS:bN l i (eF ⟨4,[],0,A,ep,[],[]⟩) R)(hn:24*l.length+100≤n):lX l (n+1) d i ⟨4,[],0,A,ep,[],[]⟩:=by
 have e:eF ⟨4,[],0,A,ep,[],[]⟩=dK [100,101,108,101,116,101]::(fQ A++[bh [59]]):=by simp [eF]
 unfold lX;rw [e]at aS ⊢;have Z:=aS.fX;rw [tc];unfold pn;rw [hB aa aS rfl];simp only [an,avP];rw [hB aa aS rfl];simp only [an,avP];rw [ni aa aS rfl];simp only [an,avO];rw [rM aa hg aC Z.lV (FP _) hn];simp only [an,aG.on];rw [Bp aa Z.jK];simp only [an,aG.on,i8,mF];exact mj (by simp only [avS,avW,avT];omega)
theorem apW{i n d:Nat}{A:Expr}{R:List Token}(aa:l.length≤1000000000)(hg:lk l)(aC:iN A)(aS:bN l i (eF ⟨7,[],0,A,ep,[],[]⟩) R)(hn:24*l.length+100≤n):lX l (n+1) d i ⟨7,[],0,A,ep,[],[]⟩:=by
 have e:eF ⟨7,[],0,A,ep,[],[]⟩=dK [101,109,105,116]::(fQ A++[bh [59]]):=by simp [eF]
 unfold lX;rw [e]at aS ⊢;have Z:=aS.fX;rw [tc];unfold pn;rw [hB aa aS rfl];simp only [an,avP];rw [hB aa aS rfl];simp only [an,avP];rw [hB aa aS rfl];simp only [an,avP];rw [ni aa aS rfl];simp only [an,avO];rw [rM aa hg aC Z.lV (FP _) hn];simp only [an,aG.on];rw [Bp aa Z.jK];simp only [an,aG.on,i8,mF];exact mj (by simp only [avS,avW,avT];omega)
theorem apX{i n d:Nat}{Max:Int}{R:List Token}(aa:l.length≤1000000000)(aS:bN l i (eF ⟨8,[],Max,ep,ep,[],[]⟩) R):lX l (n+1) d i ⟨8,[],Max,ep,ep,[],[]⟩:=by
 have e:eF ⟨8,[],Max,ep,ep,[],[]⟩=[dK [97,98,111,114,116],nW Max,bh [59]]:=by simp [eF]
 unfold lX;rw [e]at aS ⊢;have Z:=aS.fX;have ab:=Z.fX;obtain⟨u,t1,t2,t3⟩:=xJ (n:=n) (kd:=3) aa Z rfl;rw [tc];unfold pn;rw [hB aa aS rfl];simp only [an,avP];rw [hB aa aS rfl];simp only [an,avP];rw [hB aa aS rfl];simp only [an,avP];rw [hB aa aS rfl];simp only [an,avP];rw [ni aa aS rfl];simp only [an,avO];rw [t1];simp only [an,aG.on];rw [Bp aa ab];simp only [an,aG.on,i8,mF,t3];exact mj (by simp only [avS,avW,avT])
end
open Go Go.Ab Go.Proofs
section
variable {l:List Token}
def adW(l:List Token)(n d k:Nat)(b:List Stmt):Prop:=∀(i m:Nat) (acc:List Stmt),b.length<m→acc.length+b.length≤1000000→
 zR n (ry n) (w5 n) (zS n) (d:Int) ⟨l,(i:Int)⟩ m (k:Int) acc=some (.ret (acc++b) ((k+(gj b).length+1:Nat):Int))
theorem Mh{n d i:Nat}{b:List Stmt}{T R:List Token}(aa:l.length≤1000000000)(aS:bN l i (bh [123]::T) R)(hd:d≤12)(hn:b.length<n)(hb:b.length≤1000000)(h:adW l n d (i+1) b):rN l (n+1) d i b:=by
 unfold rN;have:=aS.lt
 rw [aoe];unfold Jn Jm;rw [xA,an,show decide ((12:Int)<(d:Int))=false from decide_eq_false (by omega)]
 have e:(bif (bif hI l i [123]then false else false) then(true:Bool)else false)=false:=by cases hI l i [123]<;>rfl
 have e2:(bif hI l i [123]then false else false)=false:=by cases hI l i [123]<;>rfl
 rw [e2];simp only [avP];rw [qB aa aS rfl];simp only [an,aG.on];rw [h i n [] hn (by simp;omega)]
 exact mj (by omega)
theorem apY{i n d:Nat}{A:Expr}{Body bB:List Stmt}{R:List Token}(aa:l.length≤1000000000)(hg:lk l)(aC:iN A)(gm:ga R [101,108,115,101]=false)(aS:bN l i (eF ⟨5,[],0,A,ep,Body,bB⟩) R)(hn:24*l.length+100≤n)
 (cW:∀T' nx,bN l (i+1+(fQ A).length) (bh [123]::(gj Body++bh [125]::T')) nx→rN l n d (i+1+(fQ A).length) Body)
 (b7:∀k nx,bB.length≠0→bN l k (bh [123]::(gj bB++[bh [125]])) nx→rN l n d k bB):lX l (n+1) d i ⟨5,[],0,A,ep,Body,bB⟩:=by
 unfold lX;by_cases h0:bB.length=0
 ·have e:eF ⟨5,[],0,A,ep,Body,bB⟩=dK [105,102]::(fQ A++bh [123]::(gj Body++bh [125]::[])):=by simp only [eF,h0];simp
  obtain rfl:=List.eq_nil_of_length_eq_zero h0;rw [e]at aS ⊢;have Z:=aS.fX;have ab:=Z.jK;have hb:=cW [] R ab;unfold rN at hb;have aj:=(show bN l (i+1+(fQ A).length) ((bh [123]::(gj Body++[bh [125]]))++[]) R by rw [List.append_nil];exact ab).jK
  have apZ:=ab.le (by simp)
  simp only [avS,avW,avT]at aj apZ;rw [tc];unfold pn DZ;rw [hB aa aS rfl];simp only [an,avP];rw [hB aa aS rfl];simp only [an,avP];rw [hB aa aS rfl];simp only [an,avP];rw [hB aa aS rfl];simp only [an,avP];rw [hB aa aS rfl];simp only [an,avP];rw [ni aa aS rfl];simp only [an,avO];rw [rM aa hg aC Z.lV (adV _) hn];simp only [an,aG.on];rw [hb];simp only [an,aG.on];rw [Fw n l _ _ (by omega),show i+1+(fQ A).length+(gj Body).length+2=i+1+(fQ A).length+((gj Body).length+(0+1)+1)by omega,aj.is,show ga ([]++R) [101,108,115,101]=false from gm]
  simp only [an,avP];exact mj (by simp only [avS,avW,avT];omega)
 ·have e:eF ⟨5,[],0,A,ep,Body,bB⟩=dK [105,102]::(fQ A++bh [123]::(gj Body++bh [125]::(dK [101,108,115,101]::bh [123]::(gj bB++[bh [125]])))):=by simp only [eF,h0];simp
  rw [e]at aS ⊢;have Z:=aS.fX;have ab:=Z.jK;have hb:=cW _ R ab;unfold rN at hb;have aj:=(show bN l (i+1+(fQ A).length) ((bh [123]::(gj Body++[bh [125]]))++(dK [101,108,115,101]::bh [123]::(gj bB++[bh [125]]))) R by simpa using ab).jK
  simp only [avS,avW,avT]at aj;rw [show i+1+(fQ A).length+((gj Body).length+(0+1)+1)=i+1+(fQ A).length+(gj Body).length+2 by omega]at aj
  have aD:=aj.fX;have he:=b7 _ R h0 aD;unfold rN at he;rw [tc];unfold pn DZ;rw [hB aa aS rfl];simp only [an,avP];rw [hB aa aS rfl];simp only [an,avP];rw [hB aa aS rfl];simp only [an,avP];rw [hB aa aS rfl];simp only [an,avP];rw [hB aa aS rfl];simp only [an,avP];rw [ni aa aS rfl];simp only [an,avO];rw [rM aa hg aC Z.lV (adV _) hn];simp only [an,aG.on];rw [hb];simp only [an,aG.on];rw [ni aa aj rfl];simp only [an,avO];rw [he];simp only [an,aG.on];exact mj (by simp only [avS,avW,avT];omega)
theorem ap0{i n d:Nat}{Name:av3}{Max:Int}{A B:Expr}{Body:List Stmt}{R:List Token}(aa:l.length≤1000000000)(hg:lk l)(aC:iN A)(f6:iN B)(aS:bN l i (eF ⟨6,Name,Max,A,B,Body,[]⟩) R)(hn:24*l.length+100≤n)
 (cW:∀k nx,bN l k (bh [123]::(gj Body++[bh [125]])) nx→rN l n d k Body):lX l (n+2) d i ⟨6,Name,Max,A,B,Body,[]⟩:=by
 have e:eF ⟨6,Name,Max,A,B,Body,[]⟩=dK [102,111,114]::hW Name::bh [61]::(fQ A++dK [116,111]::(fQ B++dK [109,97,120]::nW Max::bh [123]::(gj Body++[bh [125]]))):=by simp [eF]
 unfold lX;rw [e]at aS ⊢;have Z:=aS.fX;have ab:=Z.fX;have aj:=ab.fX;have aD:=aj.jK;have aX:=aD.fX;have bW:=aX.jK;have cZ:=bW.fX;have dr:=cZ.fX;have hb:=cW _ _ dr;unfold rN at hb;obtain⟨u,t1,t2,t3⟩:=xJ (n:=n) (kd:=1) aa Z rfl;obtain⟨v,v1,v2,v3⟩:=xJ (n:=n) (kd:=3) aa cZ rfl;rw [tc];unfold pn;rw [hB aa aS rfl];simp only [an,avP];rw [hB aa aS rfl];simp only [an,avP];rw [hB aa aS rfl];simp only [an,avP];rw [hB aa aS rfl];simp only [an,avP];rw [hB aa aS rfl];simp only [an,avP];rw [hB aa aS rfl];simp only [an,avP];rw [ni aa aS rfl];simp only [an,avO];rw [aof];unfold Ju;rw [t1];simp only [an,aG.on];rw [qB aa ab rfl];simp only [an,aG.on];rw [rM aa hg aC aj.lV (apQ _) hn];simp only [an,aG.on];rw [qB aa aD rfl];simp only [an,aG.on];rw [rM aa hg f6 aX.lV (apR _) hn];simp only [an,aG.on];rw [qB aa bW rfl];simp only [an,aG.on];rw [v1];simp only [an,aG.on];rw [hb];simp only [an,aG.on,i8,mF,t2,v3];exact mj (by simp only [avS,avW,avT];omega)
mutual
theorem ap1(aa:l.length≤1000000000)(hg:lk l):∀(s:Stmt) (d i n:Nat) (R:List Token),ti s d→ga R [101,108,115,101]=false→bN l i (eF s) R→fst s≤1000000→24*l.length+200+3*fst s≤n→lX l n d i s
 |⟨Op,Name,Max,A,B,Body,bB⟩,d,i,n,R,cP,gm,aS,ba,hn=>by
  obtain⟨hd,hs,cy,eV⟩:=(uW _ _).1 cP;have mu:fst ⟨Op,Name,Max,A,B,Body,bB⟩=80+Name.length+di A+di B+dC Body+dC bB:=rfl;have ap2:=tb Body;have avk:=tb bB;have xI:=λk n R=>Mi aa hg Body d k n R cy
  have Mg:=λk n R=>Mi aa hg bB d k n R eV
  obtain⟨n,rfl⟩:∃k,n=k+3:=⟨n-3,by omega⟩
  rcases hs with⟨aw,au,aV,aC⟩|⟨au,aC,f6⟩|⟨aw,au,aC⟩|⟨au,aC⟩|⟨au,aV,hm,aC,f6⟩|⟨au,hm⟩
  ·simp only [Stmt.mk.injEq,true_and,and_true]at au aw;obtain⟨rfl,rfl,rfl,rfl⟩:=au;rcases aw with rfl|rfl
   ·exact apS aa hg aC aS (by omega)
   ·exact apT aa hg aC aS (by omega)
  ·simp only [Stmt.mk.injEq,true_and,and_true]at au;obtain⟨rfl,rfl,rfl,rfl,rfl⟩:=au;exact apU aa hg aC f6 aS (by omega)
  ·simp only [Stmt.mk.injEq,true_and,and_true]at au aw;obtain⟨rfl,rfl,rfl,rfl,rfl⟩:=au;rcases aw with rfl|rfl
   ·exact apV aa hg aC aS (by omega)
   ·exact apW aa hg aC aS (by omega)
  ·simp only [Stmt.mk.injEq,true_and,and_true]at au;obtain⟨rfl,rfl,rfl,rfl⟩:=au;refine apY (A:=A) aa hg aC gm aS (by omega) (λT' nx h=>?_) (λk nx h0 h=>?_)
   ·refine Mh aa h hd (by omega) (by omega) (xI _ (n+1) (T'++nx) ?_ (by omega) (by omega))
    have:=h.fX
    rw [show gj Body++bh [125]::T'=(gj Body++[bh [125]])++T' by simp]at this
    exact this.lV
   ·exact Mh aa h hd (by omega) (by omega) (Mg _ (n+1) nx h.fX (by omega) (by omega))
  ·simp only [Stmt.mk.injEq,true_and,and_true]at au;obtain⟨rfl,rfl⟩:=au;refine ap0 (A:=A) (B:=B) aa hg aC f6 aS (by omega) (λk nx h=>?_)
   exact Mh aa h hd (by omega) (by omega) (xI _ n nx h.fX (by omega) (by omega))
  ·simp only [Stmt.mk.injEq,true_and,and_true]at au;obtain⟨rfl,rfl,rfl,rfl,rfl,rfl⟩:=au;exact apX aa aS
theorem Mi(aa:l.length≤1000000000)(hg:lk l):∀(b:List Stmt) (d k n:Nat) (R:List Token),ky b (d+1)→bN l k (gj b++[bh [125]]) R→dC b≤1000000→24*l.length+200+3*dC b≤n→adW l n d k b
 |[],d,k,n,R,cP,aS,ba,hn=>by
  intro i m acc hm ha;obtain⟨m,rfl⟩:∃j,m=j+1:=⟨m-1,by simp at hm;omega⟩
  simp only [zR,Jl,QZ];rw [ni aa (show bN l k (bh [125]::[]) R from aS) rfl]
  simp only [an,avQ,avP,List.append_nil];exact mj rfl
 |s::b,d,k,n,R,cP,aS,ba,hn=>by
  intro i m acc hm ha;simp only [avS]at hm ha;obtain⟨m,rfl⟩:∃j,m=j+1:=⟨m-1,by omega⟩
  have mu:dC (s::b)=fst s+1+dC b:=rfl;simp only [gj,List.append_assoc]at aS
  have gm:ga ((gj b++[bh [125]])++R) [101,108,115,101]=false:=by
   cases b with
   |nil=>rfl
   |cons x b=>simp only [gj,List.append_assoc];exact(adU cP.2.1 _).2
  have Z:=ap1 aa hg s (d+1) k n _ cP.1 gm aS.lV (by omega) (by omega)
  have ab:=Mi aa hg b d (k+(eF s).length) n R cP.2 aS.jK (by omega) (by omega) i m (acc++[s]) (by omega) (by simp only [avW,avS,avT];omega)
  unfold lX at Z
  have hk:k<l.length:=by
   by_cases hk:k<l.length
   ·exact hk
   ·unfold bN at aS;have:=congrArg List.length aS
    simp only [List.length_drop,List.length_map,avW,avS,avT]at this;omega
  simp only [zR,Jl];rw [Fw n l k _ (by omega),aS.is,List.append_assoc,(adU cP.1 _).1]
  simp only [an,avR,avO,avP];rw [eb (by have:=((uW _ _).1 cP.1).1;omega),Z]
  simp only [an,aG.on];rw [show(acc.length+([s]:List Stmt).length)=acc.length+1 from rfl,aog (by omega)]
  simp only [aT];rw [ab];simp only [gj,List.append_assoc,List.cons_append,List.nil_append,avW];exact mj (by omega)
end
end
open Go Go.Ab Go.Proofs
def n0(t:Int):av3:=if t=1 then[105,110,116]else if t=2 then[115,116,114] else[98,111,111,108]
def mP(x:Param):av3:=(x.Name++[58,32])++n0 x.fy
def uX(x:Param):List Token:=[hW x.Name,bh [58],dK (n0 x.fy)]
def qC:List Param→List Token
 |[]=>[]
 |x::l=>bh [44]::(uX x++qC l)
def uY:List Param→List Token
 |[]=>[]
 |x::l=>uX x++qC l
def rO(x:Param):Prop:=gy x.Name=true∧1≤x.fy∧x.fy≤3
def adX:∀(l b:List Param),uR b l=0→∀x,x∈l→rO x
 |[],b,h,x,hx=>by cases hx
 |y::l,b,h,x,hx=>by
  unfold uR at h;split at h
  ·omega
  rename_i g1;split at h
  ·omega
  rename_i g2;split at h
  ·omega
  rename_i g3;rcases List.mem_cons.1 hx with rfl|hx
  ·exact⟨by simpa using g1,by omega,by omega⟩
  ·exact adX l _ h x hx
def FQ{l:List Param}(h:qs l=0):l.length≤6∧∀x,x∈l→rO x:=by
 unfold qs at h;split at h
 ·omega
 ·exact⟨by omega,adX l [] h⟩
def nj(l:List Param):av3:=Lib.join (l.map mP) [44,32]
def kY(p:bg):av3:=dA 0 [[112,114,111,99,32],p.Name,[40],nj p.Params,[41,32,123]]++(fE p.Body 1++dA 0 [[125]])
def uZ(p:bg):List Token:=dK [112,114,111,99]::hW p.Name::bh [40]::(uY p.Params++bh [41]::bh [123]::(gj p.Body++[bh [125]]))
def ap3(t:Int):n0 t∈pt:=by
 unfold n0;by_cases Z:t=1
 ·rw [if_pos Z];decide
 ·rw [if_neg Z];by_cases ab:t=2
  ·rw [if_pos ab];decide
  ·rw [if_neg ab];decide
def Vc(t:Int):(n0 t).length≤4:=by
 unfold n0;split
 ·simp
 ·split<;>simp
def adY(n:Nat)(t:Int):Ig n t=some (n0 t):=by
 unfold Ig n0;by_cases Z:t=1
 ·simp [Z]
 ·by_cases ab:t=2
  ·simp [ab]
  ·simp [Z,ab]
def adZ{x:Param}{r:av3}{T:List Token}(hx:rO x)(hb:nV r)(h:eK r T):eK (mP x++r) (uX x++T):=by
 have e:mP x++r=x.Name++58::32::(n0 x.fy++r):=by simp [mP]
 rw [e];exact FM hx.1 (i' rfl) (lm (t:=bh [58]) (py (by decide)) (FD (by decide)) (mK (lm (t:=dK (n0 x.fy)) (uU (ap3 _)) (FC (by simp [dK]) hb) h)))
def FR(x:av3)(l:List av3):Lib.joinTail [44,32] (x::l)=44::32::(x++Lib.joinTail [44,32] l):=by simp [Lib.joinTail]
def ad0{l:List Param}{r:av3}(hb:nV r):nV (Lib.joinTail [44,32] (l.map mP)++r):=by
 cases l with
 |nil=>exact hb
 |cons x l=>rw [List.map_cons,FR];exact i' rfl
def ad1{r:av3}{T:List Token}(hb:nV r)(h:eK r T):∀l:List Param,(∀x,x∈l→rO x)→eK (Lib.joinTail [44,32] (l.map mP)++r) (qC l++T)
 |[],_=>h
 |x::l,aa=>by
  rw [List.map_cons,FR];have:=adZ (aa x (by simp)) (ad0 (l:=l) hb) (ad1 hb h l λy b6=>aa y (by simp [b6]))
  simp only [List.cons_append,List.append_assoc,qC];exact lm (t:=bh [44]) (py (by decide)) (FD (by decide)) (mK this)
def ap4{r:av3}{T:List Token}(hb:nV r)(h:eK r T)(l:List Param)(aa:∀x,x∈l→rO x):eK (nj l++r) (uY l++T):=by
 unfold nj;cases l with
 |nil=>exact h
 |cons x l=>
  rw [List.map_cons,Lib.join_cons];simp only [List.append_assoc,uY];exact adZ (aa x (by simp)) (ad0 (l:=l) hb) (ad1 hb h l λy b6=>aa y (by simp [b6]))
def ap5{p:bg}(hp:Mb p){r:av3}{T:List Token}(h:eK r T):eK (kY p++r) (uZ p++T):=by
 obtain⟨Z,ab,aj⟩:=hp;have e:kY p++r=[112,114,111,99]++32::(p.Name++40::(nj p.Params++41::32::123::10::(fE p.Body 1++(dA 0 [[125]]++r)))):=by simp [kY,dA,ind,cat]
 have e2:uZ p++T=dK [112,114,111,99]::hW p.Name::bh [40]::(uY p.Params++bh [41]::bh [123]::(gj p.Body++bh [125]::T)):=by simp [uZ]
 rw [e,e2];exact qA (by decide) (FM Z (i' rfl) (UP (ap4 (i' rfl) (L0 (FN (Mf p.Body 1 1 aj _ _ (Me 0 h)))) p.Params (FQ ab).2)))
def ad2{x:Param}(h:rO x):(mP x).length≤22:=by
 have:=pB h.1
 have:=Vc x.fy
 unfold mP;simp only [avW,avS,avT];omega
def ad3:∀l:List Param,(∀x,x∈l→rO x)→(Lib.joinTail [44,32] (l.map mP)).length≤24*l.length
 |[],_=>Nat.le_refl _
 |x::l,h=>by
  have Z:=ad3 l λy b6=>h y (by simp [b6])
  have ab:=ad2 (h x (by simp))
  rw [List.map_cons,FR];simp only [avW,avS];omega
def Vd{l:List Param}(aa:∀x,x∈l→rO x):(nj l).length≤24*l.length:=by
 unfold nj;cases l with
 |nil=>exact Nat.le_refl _
 |cons x l=>
  have Z:=ad3 l λy b6=>aa y (by simp [b6])
  have ab:=ad2 (aa x (by simp))
  rw [List.map_cons,Lib.join_cons];simp only [avW,avS];omega
def ad4{p:bg}(hp:Mb p):(kY p).length≤4*dC p.Body+300:=by
 obtain⟨Z,ab,aj⟩:=hp;obtain⟨aD,aX⟩:=FQ ab;have bW:=Vd aX;have cZ:=pB Z;have dr:=oL p.Body 1 aj;unfold kY;simp only [avW,lW,cat,avS,avT];omega
def ap6{n:Nat}(p:bg)(hi:rK p)(av:mI p=0)(hn:3000000≤n)(ba:h8 p.Params≤300000)(cW:dC p.Body≤300000):uj n p=some (kY p):=by
 have hp:=Mc hi av;have yx:=hp;obtain⟨Z,ab,aj⟩:=hp;obtain⟨aD,aX⟩:=FQ ab;have bW:=Vd aX;have cZ:=pB Z;have dr:=oL p.Body 1 aj;have eR:(fE p.Body (0+1)).length≤4*dC p.Body:=dr;unfold uj;rw [UJ p (by omega) (by omega) (by omega) (by omega) (by omega),av]
 simp only [an,avM,avQ,avP]
 have gS:∀m i,p.Params.length<i+m→i≤p.Params.length→Dq n p m (i:Int) ((p.Params.take i).map mP)=some (kY p):=by
  intro m;induction m with
  |zero=>intro i g1 g2;omega
  |succ m aJ=>
   intro i g1 g2;simp only [Dq,Qh,avV,avU];by_cases hi:i<p.Params.length
   ·have hx:=aX (p.Params.getD i default) (by rw [List.getD_eq_getElem?_getD,List.getElem?_eq_getElem hi];exact List.getElem_mem hi)
    have hnx:=pB hx.1;have ad5:=Vc (p.Params.getD i default).fy;have:=aJ (i+1) (by omega) (by omega)
    rw [xC p.Params i hi,List.map_append]at this;simp only [List.map_cons,List.map_nil]at this;simp only [hi,avM,avO,b1 hi,aT];rw [g_ (by simp only [avS,avT];omega),adY]
    simp only [aT,an];rw [g_ (by simp only [avW,avS,avT];omega)]
    simp only [aT]
    rw [show room ((List.map mP (p.Params.take i)).length+([(p.Params.getD i default).Name++[58,32]++n0 (p.Params.getD i default).fy]:List av3).length) 16=true by
     simp [room];omega]
    simp only [aT];rw [eb (by omega)]
    exact this
   ·simp only [hi,avN,avP];obtain rfl:i=p.Params.length:=by omega
    unfold Qg;rw [List.take_length];unfold HL;rw [show decide ((p.Params.map mP).length≤140737488355328∧(Lib.join (p.Params.map mP) [44,32]).length≤140737488355328)=true from decide_eq_true ⟨by rw [List.length_map];omega,by show(nj p.Params).length≤_;omega⟩]
    simp only [aT,an];have aa:=nZ (n:=n) [[112,114,111,99,32],p.Name,[40],nj p.Params,[41,32,123]] 0 [] (by simp only [cat,avW,avS,avT];omega) (by simp) (by omega) (by omega)
    have aa:mB n [[112,114,111,99,32],p.Name,[40],Lib.join (p.Params.map mP) [44,32],[41,32,123]] [] 0=_:=aa;rw [aa];simp only [an,List.nil_append];have hb:=apO n p.Body 0 (dA 0 [[112,114,111,99,32],p.Name,[40],nj p.Params,[41,32,123]]) aj (by omega) (by omega) (by omega) (by simp only [lW,cat,avW,avS,avT];omega)
    unfold tl at hb;rw [show rp n p.Body (fV (dA 0 [[112,114,111,99,32],p.Name,[40],nj p.Params,[41,32,123]])) 0=_ from hb]
    simp only [an];rw [nZ _ 0 _ (by simp only [cat,avW,lW,avS,avT];omega) (by simp) (by omega) (by omega)]
    simp only [an];unfold It;rw [Ul,Uk];have hlen:=ad4 yx;have ap7:dA 0 [[112,114,111,99,32],p.Name,[40],nj p.Params,[41,32,123]]++fE p.Body (0+1)++dA 0 [[125]]=kY p:=by unfold kY;rw [List.append_assoc]
    rw [ap7];rw [show decide ((fV (kY p)).length≤9223372036854775807)=true from decide_eq_true (by rw [show(fV (kY p)).length=(kY p).length by simp [fV]];omega)]
    rfl
 exact gS n 0 (by omega) (by omega)
open Go Go.Ab Go.Proofs
section
variable {l:List Token}
theorem ad6{i n:Nat}{x:Param}{R:List Token}(aa:l.length≤1000000000)(hx:rO x)(aS:bN l i (uX x) R):D9 n ⟨l,(i:Int)⟩=some (.ret x ((i+3:Nat):Int)):=by
 have aS:bN l i (hW x.Name::bh [58]::dK (n0 x.fy)::[]) R:=aS;have Z:=aS.fX;have ab:=Z.fX;obtain⟨u,t1,t2,t3⟩:=xJ (n:=n) (kd:=1) aa aS rfl;obtain⟨mG,ty⟩:=x;unfold D9 zT;rw [t1];simp only [an,aG.on];rw [qB aa Z rfl];simp only [an,aG.on];obtain⟨_,g1,g2⟩:=hx;simp only at g1 g2
 have:ty=1∨ty=2∨ty=3:=by omega
 rcases this with rfl|rfl|rfl
 ·rw [ni aa ab rfl];simp only [an,avO,t2];exact mj rfl
 ·rw [hB aa ab rfl];simp only [an,avP];rw [ni aa ab rfl];simp only [an,avO,t2];exact mj rfl
 ·rw [hB aa ab rfl];simp only [an,avP];rw [hB aa ab rfl];simp only [an,avP];rw [ni aa ab rfl];simp only [an,avO,t2];exact mj rfl
theorem ad7{n:Nat}{b:Int}{t:Token}(aa:l.length≤1000000000):∀(ca acc:List Param) (k m:Nat) (T R:List Token),(∀x,x∈ca→rO x)→bN l k (qC ca++bh [41]::T) R→ca.length<m→acc.length+ca.length≤1000→
 zU n ⟨l,b⟩ t m (k:Int) acc=Jx n ⟨l,b⟩ t ((k+(qC ca).length:Nat):Int) (acc++ca)
 |[],acc,k,m,T,R,hx,aS,hm,ha=>by
  obtain⟨m,rfl⟩:∃j,m=j+1:=⟨m-1,by simp at hm;omega⟩
  simp only [zU,Jy];rw [hB aa (show bN l k (bh [41]::T) R from aS) rfl]
  simp only [an,avP,List.append_nil];rfl
 |x::ca,acc,k,m,T,R,hx,aS,hm,ha=>by
  simp only [avS]at hm ha;obtain⟨m,rfl⟩:∃j,m=j+1:=⟨m-1,by omega⟩
  have aS:bN l k (bh [44]::(uX x++qC ca++bh [41]::T)) R:=aS;have Z:=aS.fX;rw [List.append_assoc]at Z;have ab:=ad7 (n:=n) (b:=b) (t:=t) aa ca (acc++[x]) (k+1+(uX x).length) m T R (λy b6=>hx y (by simp [b6])) Z.jK (by omega) (by simp only [avW,avS,avT];omega)
  simp only [zU,Jy];rw [ni aa aS rfl];simp only [an,avO];rw [ad6 aa (hx x (by simp)) Z.lV]
  simp only [an,aG.on];rw [show acc.length+([x]:List Param).length=acc.length+1 from rfl,acX (by omega)]
  simp only [aT];have e3:(uX x).length=3:=rfl;rw [e3]at ab;rw [ab,List.append_assoc,show k+1+3+(qC ca).length=k+(qC (x::ca)).length by simp only [qC,avS,avW,e3];omega]
  rfl
theorem ad8{n i k:Nat}{b:Int}{t:Token}{ca:List Param}{Body:List Stmt}{R:List Token}(aa:l.length≤1000000000)(hg:lk l)(cP:ky Body 1)(ba:dC Body≤1000000)(hn:24*l.length+201+3*dC Body≤n)(aS:bN l k (bh [123]::(gj Body++[bh [125]])) R):
 D' n ⟨l,b⟩ t (k:Int) ca=some (.ret ⟨t.Text,ca,Body⟩ ((k+(gj Body).length+2:Nat):Int)):=by
 have ap2:=tb Body;obtain⟨n,rfl⟩:∃j,n=j+1:=⟨n-1,by omega⟩
 have Z:=Mi aa hg Body 0 (k+1) n R cP aS.fX ba (by omega)
 have ab:=Mh aa aS (by omega) (by omega) (by omega) Z
 unfold rN at ab;unfold D';rw [show ry (n+1) 0 ⟨l,(k:Int)⟩=_ from ab]
 simp only [an,aG.on]
theorem ap8{n i:Nat}{p:bg}{R:List Token}(aa:l.length≤1000000000)(hg:lk l)(hp:Mb p)(ba:dC p.Body≤1000000)(hn:24*l.length+201+3*dC p.Body≤n)(aS:bN l i (uZ p) R):
 D_ n ⟨l,(i:Int)⟩=some (.ret p ((i+(uZ p).length:Nat):Int)):=by
 obtain⟨mG,ca,k5⟩:=p;obtain⟨g1,g2,g3⟩:=hp;obtain⟨g4,g5⟩:=FQ g2;simp only at g1 g4 g5 g3 ba hn
 have aS:bN l i (dK [112,114,111,99]::hW mG::bh [40]::(uY ca++bh [41]::bh [123]::(gj k5++[bh [125]]))) R:=aS;have Z:=aS.fX;have ab:=Z.fX;have aj:=ab.fX;obtain⟨u,t1,t2,t3⟩:=xJ (n:=n) (kd:=1) aa Z rfl;have t2:u.Text=mG:=t2;unfold D_;rw [qB aa aS rfl];simp only [an,aG.on];rw [t1];simp only [an,aG.on];rw [qB aa ab rfl];simp only [an,aG.on];cases ca with
 |nil=>
  have aj:bN l (i+1+1+1) (bh [41]::bh [123]::(gj k5++[bh [125]])) R:=aj;rw [ni aa aj rfl];simp only [an,avQ,avP];rw [ad8 (i:=0) aa hg g3 ba hn aj.fX,t2];exact mj (by simp only [uZ,uY,avS,avW,avT];omega)
 |cons x ca=>
  have e3:(uX x).length=3:=rfl;simp only [uY,List.append_assoc]at aj;have aD:=aj.jK;rw [e3]at aD;have aX:=aD.jK;rw [hB aa (show bN l (i+1+1+1) (hW x.Name::(bh [58]::dK (n0 x.fy)::(qC ca++bh [41]::bh [123]::(gj k5++[bh [125]])))) R from aj) rfl]
  simp only [an,avR,avO];rw [ad6 aa (g5 x (by simp)) aj.lV]
  simp only [an,aG.on];rw [show(([]:List Param).length+([x]:List Param).length)=1 from rfl,acX (by omega)]
  simp only [aT,List.nil_append];simp only [avS]at g4;rw [ad7 aa ca [x] _ n _ R (λy b6=>g5 y (by simp [b6])) aD (by omega) (by simp;omega)]
  unfold Jx;rw [qB aa aX rfl];simp only [an,aG.on];rw [ad8 (i:=0) aa hg g3 ba hn aX.fX,t2];exact mj (by simp only [uZ,uY,e3,avS,avW,avT];omega)
end
def ap9{l T:List Token}(h:l.map dd=T):bN l 0 T []:=by
 unfold bN;rw [List.drop_zero,h,List.append_nil]
def ap'{l T:List Token}(h:l.map dd=T):l.length=T.length:=by rw [←h,List.length_map]
def ap_{n:Nat}{p:bg}(hi:rK p)(av:mI p=0)(hn:3000000≤n)(ba:h8 p.Params≤300000)(cW:dC p.Body≤300000)(hs:(kY p).length≤16384):Ea n (kY p)=some (p,0,0):=by
 have hp:=Mc hi av
 have aC:eK (kY p) (uZ p):=by
  have:=ap5 hp eK.nil
  rwa [List.append_nil,List.append_nil]at this
 have aV:=pB hp.1;obtain⟨l,Z,ab,aj,aD,aX⟩:=aoL aC hs (n:=n) (by omega) (by omega)
 have hlen:=LO l;have aqa:=ap' ab;unfold Ea Jz Ri;rw [Z];simp only [an,avM,avQ,avP];have aqb:=ap8 (l:=l) (i:=0) (n:=n) (by omega) aD hp (by omega) (by omega) (ap9 ab)
 rw [show D_ n ⟨l,0⟩=_ from aqb]
 simp only [an,aG.on,aqa,Nat.zero_add,avZ,avN,avP,avM,avO,adb];rw [UJ p (by omega) (by omega) (by omega) (by omega) (by omega),av]
 simp only [an,JA,avM,avQ,avP,adb]
open Go Go.Ab Go.Proofs
def hq(s:av3):List Int:=s.map λb=>(b.toNat:Int)
def Ve(s:av3):jX (hq s)=s:=by
 simp only [jX,hq,List.map_map]
 conv=>rhs;rw [←List.map_id s]
 apply List.map_congr_left;intro b _;simp
def Vf(s:av3):nB (hq s)=true:=by
 simp only [nB,hq,List.all_eq_true,List.mem_map,forall_exists_index,and_imp,forall_apply_eq_imp_iff₂];intro b _;have:=b.toNat_lt
 simp;omega
def Vg(s t:av3):hq (s++t)=hq s++hq t:=List.map_append
def Mj(s:av3):(hq s).length=s.length:=List.length_map _
def Vh:([]:List Int)=hq []:=rfl
def fc(u:Nat):av3:=if u<128 then[UInt8.ofNat u]else UInt8.ofNat (u % 128+128)::fc (u / 128)
termination_by u
decreasing_by omega
def ad9:∀(k u:Nat),u<128 ^ k→0<k→(fc u).length≤k
 | 0,u,_,h=>by omega
 |k+1,u,hu,_=>by
  rw [fc];split
  ·simp
  ·have hk:0<k:=by
    rcases Nat.eq_zero_or_pos k with rfl|h
    ·simp at hu;omega
    ·exact h
   have:=ad9 k (u / 128) (by rw [Nat.pow_succ]at hu;omega) hk
   simp;omega
def nk{u:Nat}(h:u<18446744073709551616):(fc u).length≤10:=ad9 10 u (by omega) (by omega)
def aqc:∀x:Nat,x<256→qP .u8 (x:Int) 128=((x % 128+128:Nat):Int):=by decide +kernel
def ad'(u:Nat):IntKind.u8.wrap (u:Int)=((u % 256:Nat):Int):=by rw [IntKind.wrap_u8];omega
def rP{u:Nat}(h:u<18446744073709551616):IntKind.u64.wrap (u:Int)=(u:Int):=by rw [IntKind.wrap_u64];omega
def Vi(u:Nat)(h:u<256):([(u:Int)]:List Int)=hq [UInt8.ofNat u]:=by
 simp only [hq,List.map_cons,List.map_nil,UInt8.toNat_ofNat',Nat.mod_eq_of_lt (show u<2 ^ 8 from h)]
def aqd(u:Nat):nr .u64 (u:Int) 7=((u / 128:Nat):Int):=by
 unfold nr;rw [show min (7:Int).toNat (IntKind.bits .u64)=7 by decide,Int.fdiv_eq_ediv_of_nonneg _ (by omega)]
 omega
def Vj{n:Nat}(h:n≤140737488355328):room n 1=true:=by simp [room];omega
def gG{n:Nat}(h:n≤9223372036854775807):b3 n=true:=by simp [b3];omega
def aqe(n:Nat):∀m u (acc:av3),u<18446744073709551616→(fc u).length≤m→acc.length+(fc u).length≤1000→C6 n m (u:Int) (hq acc)=some (acc++fc u):=by
 intro m;induction m with
 |zero=>intro u acc _ h _;rw [fc]at h;split at h<;>simp at h
 |succ m aJ=>
  intro u acc hu hm aa;simp only [C6,Pv,Pu,HR];rw [fc]at hm aa ⊢;by_cases h:u<128
  ·rw [if_pos h]at hm aa ⊢;simp only [avX]at aa;have:¬ (128:Int)≤(u:Int):=by omega
   rw [ad',Nat.mod_eq_of_lt (by omega),Vi u (by omega),←Vg]
   simp only [this,avN,avP,avX,Mj,Vj (show acc.length+1≤140737488355328 by omega),aT,an,Vf,Ve]
  ·rw [if_neg h]at hm aa ⊢;simp only [avS]at hm aa;have:(128:Int)≤(u:Int):=by omega
   rw [ad',aqc _ (by omega),show u % 256 % 128=u % 128 by omega,Vi _ (by omega),←Vg,aqd]
   simp only [this,avM,avO,avX,Mj,Vj (show acc.length+1≤140737488355328 by omega),aT,an]
   rw [aJ (u / 128) _ (by omega) (by omega) (by simp;omega)]
   simp
def u0{n u:Nat}(hn:10≤n)(hu:u<18446744073709551616):hQ n (u:Int)=some (fc u):=by
 have:=nk hu
 exact aqe n n u [] hu (by omega) (by simp;omega)
def fold(n:Int):Nat:=if n<0 then(2*(-(n+1))+1).toNat else(2*n).toNat
def e0(x:Int):Prop := -9223372036854775808≤x∧x≤9223372036854775807
def Vk{n:Int}(h:e0 n):fold n<18446744073709551616:=by
 unfold e0 at h;unfold fold;split<;>omega
def mQ(n:Int):av3:=fc (fold n)
def rQ{n:Int}(h:e0 n):(mQ n).length≤10:=nk (Vk h)
def xor_zero{a:Nat}(h:a<18446744073709551616):mW .u64 (a:Int) 0=(a:Int):=by
 unfold mW;rw [show BitVec.ofInt (IntKind.bits .u64) 0=0#_ from rfl,BitVec.xor_zero]
 rw [show((BitVec.ofInt (IntKind.bits .u64) (a:Int)).toNat:Int)=(a:Int) by
  rw [BitVec.toNat_ofInt];simp only [IntKind.bits];omega]
 exact rP h
def aqf{a:Nat}(h:a<18446744073709551616):mW .u64 (a:Int) 18446744073709551615=((18446744073709551615-a:Nat):Int):=by
 unfold mW;rw [show BitVec.ofInt (IntKind.bits .u64) 18446744073709551615=BitVec.allOnes _ by decide,BitVec.xor_allOnes]
 rw [show((~~~ BitVec.ofInt (IntKind.bits .u64) (a:Int)).toNat:Int)=((18446744073709551615-a:Nat):Int) by
  rw [BitVec.toNat_not,BitVec.toNat_ofInt];simp only [IntKind.bits];omega]
 exact rP (by omega)
def aqg{x:Int}(h:e0 x):mW .u64 (oU .u64 (IntKind.u64.wrap x) 1) (IntKind.u64.wrap (nr .i64 x 63))=(fold x:Int):=by
 unfold e0 at h
 have e1:nr .i64 x 63=if x<0 then -1 else 0:=by
  unfold nr;rw [show min (63:Int).toNat (IntKind.bits .i64)=63 by decide,Int.fdiv_eq_ediv_of_nonneg _ (by omega)]
  split<;>omega
 have e2:oU .u64 (IntKind.u64.wrap x) 1=(((2*x) % 18446744073709551616).toNat:Int):=by
  unfold oU;rw [show min (1:Int).toNat (IntKind.bits .u64)=1 by decide,IntKind.wrap_u64,IntKind.wrap_u64]
  omega
 rw [e1,e2];unfold fold;by_cases hx:x<0
 ·rw [if_pos hx,if_pos hx,show IntKind.u64.wrap (-1)=18446744073709551615 by decide,aqf (by omega)]
  omega
 ·rw [if_neg hx,if_neg hx,show IntKind.u64.wrap 0=0 by decide,xor_zero (by omega)]
  omega
def xK{n:Nat}{x:Int}(hn:10≤n)(h:e0 x):rk n x=some (mQ x):=by
 unfold rk;rw [aqg h,u0 hn (Vk h)];rfl
def gk(s:av3):av3:=fc s.length++s
def u1{n:Nat}{s:av3}(hn:10≤n)(h:s.length≤4611686018427387904):oz n s=some (gk s):=by
 unfold oz;have:=nk (u:=s.length) (by omega)
 rw [rP (by omega),u0 hn (by omega)]
 simp only [an,gG (show(fc s.length).length+s.length≤9223372036854775807 by omega),aT];rfl
def Mk{s:av3}(h:s.length≤4611686018427387904):(gk s).length≤s.length+10:=by
 have:=nk (u:=s.length) (by omega)
 simp [gk];omega
open Go Go.Ab Go.Proofs
def ad_(n:Nat)(op:Int):KV n op=some ((cd op:Nat):Int):=U0 n op
def aqh(n:Nat)(op:Int)(h:4≤op∧op≤8∨10≤op∧op≤17∨op=19):KW n op=some (spell (nX op)):=adC n op h
def aea(n:Nat)(op:Int)(h:20≤op∧op≤27):KX n op=some (spell (hJ op)):=by
 obtain rfl|rfl|rfl|rfl|rfl|rfl|rfl|rfl:op=20∨op=21∨op=22∨op=23∨op=24∨op=25∨op=26∨op=27:=by omega
 all_goals rfl
def aeb(u:Nat)(h:u<18446744073709551616):jX ([(IntKind.u8.wrap (IntKind.u64.wrap (48+(Int.tmod (u:Int) 10))))]:List Int)=[UInt8.ofNat (48+u % 10)]∧nB ([(IntKind.u8.wrap (IntKind.u64.wrap (48+(Int.tmod (u:Int) 10))))]:List Int)=true:=by
 have:IntKind.u8.wrap (IntKind.u64.wrap (48+(Int.tmod (u:Int) 10)))=((48+u % 10:Nat):Int):=by
  rw [Int.tmod_eq_emod_of_nonneg (by omega),IntKind.wrap_u64,IntKind.wrap_u8];omega
 rw [this,Vi _ (by omega)]
 exact⟨Ve _,Vf _⟩
def aec(u:Nat)(h:u<18446744073709551616):IntKind.u64.wrap (Int.tdiv (u:Int) 10)=((u / 10:Nat):Int):=by
 rw [Int.tdiv_eq_ediv_of_nonneg (by omega),IntKind.wrap_u64];omega
def aqi(n:Nat)(i:Int)(hi:0≤i):∀(m f u:Nat) (acc:av3),u<18446744073709551616→u<10 ^ m→acc.length+m≤1000000000→(0<u∨acc≠[])→qj n i (m+f+1) (u:Int) acc=some ((if u=0 then[]else Lib.decDigits u)++acc):=by
 intro m;induction m with
 |zero=>
  intro f u acc hu Z aa dG;have h0:u=0:=by simp at Z;omega
  subst h0;have Vl:acc≠[]:=by rcases dG with h|h;exact absurd h (by omega);exact h
  have:¬ i<0:=by omega
  simp [qj,s2,EF,Vl,this]
 |succ m aJ=>
  intro f u acc hu Z aa dG;rw [show m+1+f+1=m+f+1+1 by omega,show qj n i (m+f+1+1)=s2 n i (qj n i (m+f+1))from rfl]
  simp only [s2,EF];by_cases h0:u=0
  ·subst h0;have Vl:acc≠[]:=by rcases dG with h|h;exact absurd h (by omega);exact h
   have:¬ i<0:=by omega
   simp [Vl,this]
  ·have hp:(0:Int)<(u:Int):=by omega
   obtain⟨d1,d2⟩:=aeb u hu;rw [d1,d2,aec u hu];simp only [hp,avM,avO,aT,avX,gG (show 1+acc.length≤9223372036854775807 by omega)]
   rw [aJ f (u / 10) _ (by omega) (by rw [Nat.pow_succ]at Z;omega) (by simp;omega) (.inr (by simp))]
   rw [if_neg h0]
   conv=>rhs;rw [Lib.decDigits]
   by_cases eR:u<10
   ·rw [dif_pos eR,if_pos (by omega),Nat.mod_eq_of_lt eR];rfl
   ·rw [dif_neg eR,if_neg (by omega)];simp
def aed(n:Nat)(hn:30≤n)(i:Int)(h0:0≤i)(Z:i≤9223372036854775807):xh n i=some (Lib.decDigits i.toNat):=by
 unfold xh S5;obtain⟨u,rfl⟩:=Int.eq_ofNat_of_zero_le h0;have:¬ (u:Int)<0:=by omega
 simp only [this,avN,avP,an,rP (show u<18446744073709551616 by omega),avU]
 obtain⟨k,rfl⟩:∃k,n=k+30:=⟨n-30,by omega⟩
 by_cases dG:u=0
 ·subst dG;rw [show qj (k+30) ((0:Nat):Int) (k+30)=s2 (k+30) ((0:Nat):Int) (qj (k+30) ((0:Nat):Int) (k+28+1))from rfl]
  obtain⟨d1,d2⟩:=aeb 0 (by omega)
  have hs:=gG (n:=([UInt8.ofNat (48+0 % 10)]:av3).length+([]:av3).length) (by decide)
  simp only [s2,d1,d2,aec 0 (by omega),hs,aT]
  rw [show qj (k+30) ((0:Nat):Int) (k+28+1)=s2 (k+30) ((0:Nat):Int) (qj (k+30) ((0:Nat):Int) (k+28))from rfl]
  simp [s2,EF,Lib.decDigits]
 ·have:=aqi (k+30) (u:Int) h0 20 (k+9) u [] (by omega) (by omega) (by simp) (.inl (by omega))
  rw [if_neg dG,List.append_nil,show 20+(k+9)+1=k+30 by omega]at this;exact this
def aqj(n:Nat)(s:av3)(hs:s.length≤9223372036854775807):∀m i,s.length<i+m→i≤s.length→AG n s m (i:Int)=some ((s.drop i).all okB):=by
 intro m;induction m with
 |zero=>intro i h ab;omega
 |succ m aJ=>
  intro i hm hi;simp only [AG,S',S9];by_cases h:i<s.length
  ·rw [fo s i 0 h,cR (by omega),aJ (i+1) (by omega) (by omega)]
   simp only [h,b1 h,avU,avV,avM,avO,aT,av0,List.all_cons,ps,fp,dH,A5];cases okB (s.getD i 0)<;>simp
  ·rw [gE s i h];simp [h]
def aee{n:Nat}(s:av3)(h:s.length<n)(hs:s.length≤9223372036854775807):S_ n s=some (s.all okB):=by
 have:=aqj n s hs n 0 (by omega) (by omega)
 rw [List.drop_zero]at this;exact this
def take_one(s:av3)(i:Nat)(h:i<s.length):(s.take (i+1)).drop i=[s.getD i 0]:=by
 rw [List.drop_take,fo s i 0 h];simp
def aqk(n:Nat)(s:av3)(hs:s.length≤64):∀m i,s.length<i+m→i≤s.length→EH n s m (34::gF (s.take i)) (i:Int)=some (quo s,0):=by
 intro m;induction m with
 |zero=>intro i h ab;omega
 |succ m aJ=>
  intro i hm hi;simp only [EH,Tc,Ta,Tb,KS];have hlen:=xE (s.take i);have vY:(s.take i).length≤i:=by simp;omega
  by_cases h:i<s.length
  ·(rw [eb (by omega)];simp only [avU];rw [take_one s i h])
   have hn:=aJ (i+1) (by omega) (by omega)
   have aF:s.take (i+1)=s.take i++[s.getD i 0]:=by
    rw [List.take_add,fo s i 0 h,List.take_succ_cons,List.take_zero]
   rw [aF,adE]at hn;generalize s.getD i 0=c at hn
   simp only [h,b1 h,avV,avM,avO,aT,av0,fx,dH,Fp (show i≤i+1 by omega) (show i+1≤s.length by omega)]
   by_cases hc:c.toNat=34∨c.toNat=92
   ·have hb:(decide (c.toNat=34)||decide (c.toNat=92))=true:=by rcases hc with hc|hc<;>rw [decide_eq_true hc]<;>simp
    rw [hb];simp only [avO];rw [gG (by simp only [avS,avT];omega),gG (by simp only [avW,avS,avT];omega)]
    simp only [aT];rw [show(34::gF (s.take i)++[92]++[c])=34::(gF (s.take i)++gF [c])by simp only [gF];rw [if_pos hc];simp]
    exact hn
   ·have hb:(decide (c.toNat=34)||decide (c.toNat=92))=false:=by rw [decide_eq_false (λe=>hc (Or.inl e)),decide_eq_false (λe=>hc (Or.inr e))];rfl
    rw [hb];simp only [avP];rw [gG (by simp only [avS,avT];omega)]
    simp only [aT];rw [show(34::gF (s.take i)++[c])=34::(gF (s.take i)++gF [c])by simp only [gF];rw [if_neg hc];simp]
    exact hn
  ·have U1:i=s.length:=by omega
   subst U1;simp only [avV,Nat.lt_irrefl,avN,avP,List.take_length];have aa:=xE s;rw [gG (by simp only [avS,avT];omega)]
   rfl
def aql{n:Nat}(s:av3)(h:jv s=true)(hn:100<n):KT n s=some (quo s,0):=by
 unfold jv at h;simp only [Bool.and_eq_true,decide_eq_true_eq]at h;unfold KT;simp only [fp,show¬ 64<s.length by omega,avN,avP,aee s (show s.length<n by omega) (by omega),an,h.1,avQ]
 exact aqk n s (by omega) n 0 (by omega) (by omega)
open Go Go.Ab Go.Proofs
def aqm(n:Nat):lf (n+1)=KY n (lf n) (xj n):=rfl
def aqn(n:Nat):xj (n+1)=KZ n (lf n) (xj n):=rfl
def FSb{n:Nat}{e:Expr}{k:Nat}(h:lf n e=some (flat (bX e)))(aa:(flat (bX e)).length≤100000000):xj (n+1) e (k:Int)=some (flat (fD e.Op (bX e) k)):=by
 rw [aqn];unfold KZ fD;rw [ad_,h];simp only [an,avV];by_cases hk:cd e.Op<k
 ·simp only [hk,avM,avO,av1];rw [g_ (by simp;omega),g_ (by simp;omega)]
  simp only [aT,flat,mL,spell,bh];simp
 ·simp only [hk,avN,avP,av2]
def aqo:∀(h:Nat) (e:Expr) (n:Nat),fJ e≤h→gO e→2*h+200≤n→di e≤1000000→lf n e=some (flat (bX e)):=by
 intro h;induction h with
 |zero=>intro e n he;rw [tg]at he;omega
 |succ h aJ=>
  intro e n he cP hn apt;obtain⟨n,rfl⟩:∃j,n=j+1:=⟨n-1,by omega⟩
  obtain⟨n,rfl⟩:∃j,n=j+1:=⟨n-1,by omega⟩
  have nY:=(LZ e).1 cP;have uN:=qo e;rw [aqm];unfold KY;rw [ad_];simp only [an];rcases xD e cP with⟨Z,au⟩|⟨Z,au⟩|⟨Z,au⟩|⟨ai,au⟩|⟨a,au,ha,bm,d'⟩|⟨a,b,au,ha,hb,bm,d'⟩
  ·have e2:flat (bX e)=Lib.decDigits e.N.toNat++[]:=by rw [au];rfl
   rw [aed _ (by omega) e.N (nY.2.1 Z).1 (nY.2.1 Z).2,e2,List.append_nil]
   simp only [Z,avM,avO,an]
  ·have e2:flat (bX e)=quo e.S++[]:=by rw [au];rfl
   rw [aql e.S (nY.2.2.2.2.1 Z) (by omega),e2,List.append_nil]
   simp only [Z,show¬ (2:Int)=1 by omega,avM,avN,avO,avP,an]
  ·have e2:flat (bX e)=e.S++[]:=by rw [au];rfl
   rw [e2,List.append_nil];simp only [Z,show¬ (3:Int)=1 by omega,show¬ (3:Int)=2 by omega,avM,avN,avO,avP]
  ·have hw:=Bk e.Op;have U3:=aea (n+1) e.Op (by omega)
   have f7:cd e.Op=9:=by
    have:e.Op=25∨e.Op=26∨e.Op=27:=by omega
    rcases this with h|h|h<;>rw [h]<;>decide
   have e9:e.ax=[]:=by rw [au]
   have e2:flat (bX e)=spell (hJ e.Op)++([40]++([41]++[])):=by
    generalize e.Op=op at ai au
    rw [au];simp only [bX,jw,kX];rw [if_neg (by omega),if_neg (by omega),if_neg (by omega)];rfl
   rw [U3,e2];simp only [an];rw [g_ (show(spell (hJ e.Op)).length+([40,41]:av3).length≤1000000000000 by simp;omega)]
   simp only [f7,e9,show¬ e.Op=1 by omega,show¬ e.Op=2 by omega,show¬ e.Op=3 by omega,show¬ e.Op=18 by omega,show¬ e.Op=9 by omega,avN,avP,avT,fx,avM,avO,aT]
   simp
  ·have FI:di e=30+(di a+1):=by rw [au];simp [di,mE]
   have qx:=aJ a n (by omega) ha (by omega) (by omega)
   have U4:=aJ a (n+1) (by omega) ha (by omega) (by omega)
   have FH:=q1 (fJ a) a (Nat.le_refl _) ha;have e9:e.ax=[a]:=by rw [au]
   have aj:=pA a.Op (bX a) 3;have dr:=pA a.Op (bX a) 8
   have e2:bX e=if e.Op=18 then some (dK [110,111,116])::none::fD a.Op (bX a) 3 else if e.Op=9 then some (bh [45])::fD a.Op (bX a) 8 else some (hJ e.Op)::some (bh [40])::(bX a++[some (bh [41])]):=by
    generalize e.Op=op at d' au
    rw [au];simp only [bX,jw,kX];rw [if_neg (by omega),if_neg (by omega),if_neg (by omega)]
   rw [e2,e9];simp only [avS,avT,mi (show 0<0+1 by omega),aT,List.getD_cons_zero,show¬ e.Op=1 by omega,show¬ e.Op=2 by omega,show¬ e.Op=3 by omega,avN,avP]
   by_cases mM:e.Op=18
   ·have:=FSb (k:=3) qx (by omega)
    rw [mM];simp only [avM,avO,av1,show cd 18=3 from rfl]
    rw [this];simp only [an];rw [g_ (by simp;omega)]
    rfl
   ·by_cases eR:e.Op=9
    ·have:=FSb (k:=8) qx (by omega)
     rw [eR];simp only [show¬ (9:Int)=18 by omega,avM,avN,avO,avP,av1,av2,show cd 9=8 from rfl]
     rw [this];simp only [an];rw [g_ (by simp;omega)]
     rfl
    ·have UX:20≤e.Op∧e.Op≤24:=by omega
     have f7:cd e.Op=9:=by
      have:e.Op=20∨e.Op=21∨e.Op=22∨e.Op=23∨e.Op=24:=by omega
      rcases this with h|h|h|h|h<;>rw [h]<;>decide
     have hw:=Bk e.Op;rw [aea (n+1) e.Op (by omega),U4,if_neg mM,if_neg eR]
     have e3:flat (some (hJ e.Op)::some (bh [40])::(bX a++[some (bh [41])]))=spell (hJ e.Op)++([40]++(flat (bX a)++([41]++[]))):=by
      simp only [flat,mL];rfl
     rw [e3];generalize spell (hJ e.Op)=W at hw
     simp only [mM,eR,f7,avN,avM,avP,avO,an];rw [g_ (show W.length+(0+1)≤1000000000000 by omega),g_ (show(W++([40]:av3)).length+(flat (bX a)).length≤1000000000000 by simp;omega),g_ (show((W++([40]:av3))++flat (bX a)).length+(0+1)≤1000000000000 by simp;omega)]
     simp only [show((0+1:Nat):Int)=1 from rfl,show¬ (1:Int)=0 by omega,show((9:Nat):Int)=9 from rfl,avM,avN,avO,avP,aT]
     simp
  ·have FI:di e=30+(di a+1+(di b+1)):=by rw [au];simp [di,mE]
   have qx:=aJ a n (by omega) ha (by omega) (by omega)
   have U5:=aJ b n (by omega) hb (by omega) (by omega)
   have FH:=q1 (fJ a) a (Nat.le_refl _) ha;have adG:=q1 (fJ b) b (Nat.le_refl _) hb;have e9:e.ax=[a,b]:=by rw [au]
   have f7:=Bg d';have apu:=U2 e.Op
   have e2:bX e=fD a.Op (bX a) (if cd e.Op=4 then 5 else cd e.Op)++none::some (nX e.Op)::none::fD b.Op (bX b) (cd e.Op+1):=by
    generalize e.Op=op at d' au
    rw [au,L4 d']
   have aj:=pA a.Op (bX a) (if cd e.Op=4 then 5 else cd e.Op)
   have dr:=pA b.Op (bX b) (cd e.Op+1);have xF:=FSb (k:=cd e.Op+1) U5 (by omega)
   rw [e2,e9,aqh (n+1) e.Op d'];simp only [avS,avT,mi (show 0<0+1+1 by omega),aT,List.getD_cons_zero,List.getD_cons_succ,show¬ e.Op=1 by omega,show¬ e.Op=2 by omega,show¬ e.Op=3 by omega,show¬ e.Op=18 by omega,show¬ e.Op=9 by omega,avN,avP,fx,show¬ cd e.Op=9 by omega,show aM 1 (0+1+1)=true from rfl]
   by_cases aD:cd e.Op=4
   ·have so:=FSb (k:=5) qx (by omega)
    rw [aD]at xF ⊢;rw [if_pos rfl];rw [if_pos aD]at aj;simp only [avM,avO];rw [show xj (n+1) a 5=_ from so,show xj (n+1) b 5=_ from xF]
    simp only [an];rw [aD]at dr;rw [g_ (by simp;omega),g_ (by simp;omega),g_ (by simp;omega),g_ (by simp only [avW,avS,avT];omega)]
    simp only [aT,mL,flat];simp
   ·have so:=FSb (k:=cd e.Op) qx (by omega)
    rw [if_neg aD]at aj ⊢;simp only [aD,avN,avP];rw [so,eb (by omega),xF]
    simp only [an];rw [g_ (by simp;omega),g_ (by simp;omega),g_ (by simp;omega),g_ (by simp only [avW,avS,avT];omega)]
    simp only [aT,mL,flat];simp
open Go Go.Ab Go.Proofs
def aqp(n d:Nat)(hd:d≤100):∀m i,d<i+m→i≤d→EG n (d:Int) m (ind i) (i:Int)=some (ind d):=by
 intro m;induction m with
 |zero=>intro i h ab;omega
 |succ m aJ=>
  intro i hm hi;simp only [EG,S7,S6,avV];by_cases h:i<d
  ·simp only [h,avM,avO];rw [gG (by rw [FO];simp;omega),eb (by omega),←U',aJ (i+1) (by omega) (by omega)]
   rfl
  ·simp only [h,avN,avP];rw [show i=d by omega]
def aqq{n d:Nat}(hd:d≤100)(hn:d<n):S8 n (d:Int)=some (ind d):=aqp n d hd n 0 (by omega) (by omega)
def aef{n:Nat}{e:Expr}(h:iN e)(hn:300≤n)(ba:di e≤1000000):lf n e=some (fb e):=aqo (fJ e) e n (Nat.le_refl _) h.1 (by have:=h.2;omega) ba
def aqr(n:Nat):rB (n+1)=K0 n (rB n) (AJ n):=rfl
def aqs(n:Nat):AJ (n+1)=K1 n (rB n) (AJ n):=rfl
set_option maxHeartbeats 4000000 in
def aqt{n:Nat}{s:Stmt}{d:Nat}(cP:ti s d)(ba:fst s≤300000)(hn:500≤n)
 (hb:rB n s.Body ((d+1:Nat):Int)=some (fE s.Body (d+1))) (he:rB n s.bB ((d+1:Nat):Int)=some (fE s.bB (d+1))):AJ (n+1) s (d:Int)=some (eu s d):=by
 obtain⟨hd,hsh,cz,nY⟩:=(uW s d).1 cP;have Z:=oL _ _ cz;have ab:=oL _ _ nY;have hi:=FO d;obtain⟨Op,Name,Max,A,B,Body,bB⟩:=s
 dsimp only at hb he cz nY Z ab
 have mu:di A≤300000∧di B≤300000∧dC Body≤300000∧dC bB≤300000:=by simp only [fst]at ba;omega
 obtain⟨f1,f2,f3,f4⟩:=mu;rw [aqs];unfold K1;rw [aqq (by omega) (by omega)]
 simp only [an,i8,eb (show d≤4611686018427387904 by omega)]
 have aS:iN A→lf n A=some (fb A)∧(fb A).length≤1200000:=λh=>⟨aef h (by omega) (by omega),by have:=mO h;omega⟩
 have cW:iN B→lf n B=some (fb B)∧(fb B).length≤1200000:=λh=>⟨aef h (by omega) (by omega),by have:=mO h;omega⟩
 have aV:gy Name=true→Name.length≤16:=λh=>by obtain⟨_,_,_,_,_,_,h⟩:=LX h;exact h
 have cX:0≤Max∧Max≤999→xh n Max=some (Lib.decDigits Max.toNat)∧(Lib.decDigits Max.toNat).length≤21:=λh=>⟨aed n (by omega) Max h.1 (by omega),Bj Max h.1 (by omega)⟩
 unfold eu;unfold FK at hsh;simp only at hsh
 rcases hsh with⟨aw,au,CJ,ha⟩|⟨au,ha,qT⟩|⟨aw,au,ha⟩|⟨au,ha⟩|⟨au,CJ,OE,ha,qT⟩|⟨au,OE⟩
 ·obtain⟨bb,a2⟩:=aS ha;have a3:=aV CJ;rcases aw with rfl|rfl
  ·simp (disch:=first|omega|(simp only [avW,avS,avT];omega)) only [bb,decide_true,cond_true,an,gG,aT,if_true,dA,cat]
   simp
  ·simp (disch:=first|omega|(simp only [avW,avS,avT];omega)) only [bb,show¬ (2:Int)=1 by omega,decide_true,decide_false,cond_false,if_false,cond_true,an,gG,aT,if_true,dA,cat]
   simp
 ·cases au;obtain⟨bb,a2⟩:=aS ha;obtain⟨cb,jn⟩:=cW qT;simp (disch:=first|omega|(simp only [avW,avS,avT];omega)) only [bb,cb,show¬ (3:Int)=1 by omega,show¬ (3:Int)=2 by omega,decide_true,decide_false,cond_false,if_false,cond_true,an,gG,aT,if_true,dA,cat]
  simp
 ·obtain⟨bb,a2⟩:=aS ha;rcases aw with rfl|rfl<;>simp (disch:=first|omega|(simp only [avW,avS,avT];omega)) only [bb,show¬ (4:Int)=1 by omega,show¬ (4:Int)=2 by omega,show¬ (4:Int)=3 by omega,show¬ (7:Int)=1 by omega,show¬ (7:Int)=2 by omega,show¬ (7:Int)=3 by omega,show¬ (7:Int)=4 by omega,show¬ (7:Int)=5 by omega,show¬ (7:Int)=6 by omega,decide_true,decide_false,cond_false,if_false,cond_true,an,gG,aT,if_true,dA,cat]<;>simp
 ·cases au;obtain⟨bb,a2⟩:=aS ha;have bG:¬ (5:Int)=1∧¬ (5:Int)=2∧¬ (5:Int)=3∧¬ (5:Int)=4∧¬ (5:Int)=7∧¬ (5:Int)=8∧¬ (5:Int)=6:=by omega
  obtain⟨e1,e2,e3,ie,Bq,Ml,Br⟩:=bG;by_cases dG:bB.length=0
  ·simp (disch:=first|omega|(simp only [avW,avS,avT];omega)) only [bb,hb,e1,e2,e3,ie,Br,Bq,Ml,dG,EJ,Int.lt_irrefl,show¬ ((0:Int)<((0:Nat):Int))by omega,decide_true,decide_false,cond_false,if_false,cond_true,an,gG,aT,if_true,dA,cat]
   simp
  ·have hp:(0:Int)<((bB.length:Nat):Int):=by omega
   simp (disch:=first|omega|(simp only [avW,avS,avT];omega)) only [bb,hb,he,hp,e1,e2,e3,ie,Br,Bq,Ml,dG,EJ,decide_true,decide_false,cond_false,if_false,cond_true,an,gG,aT,if_true,dA,cat]
   simp
 ·cases au;obtain⟨bb,a2⟩:=aS ha;obtain⟨cb,jn⟩:=cW qT;obtain⟨m1,m2⟩:=cX ⟨by omega,by omega⟩
  have a3:=aV CJ;have bG:¬ (6:Int)=1∧¬ (6:Int)=2∧¬ (6:Int)=3∧¬ (6:Int)=4∧¬ (6:Int)=7∧¬ (6:Int)=8∧¬ (6:Int)=5:=by omega
  obtain⟨e1,e2,e3,ie,Bq,Ml,pY⟩:=bG;simp (disch:=first|omega|(simp only [avW,avS,avT];omega)) only [bb,cb,m1,hb,e1,e2,e3,ie,pY,Bq,Ml,decide_true,decide_false,cond_false,if_false,cond_true,an,gG,aT,if_true,dA,cat]
  simp
 ·cases au;obtain⟨m1,m2⟩:=cX ⟨by omega,by omega⟩
  have bG:¬ (8:Int)=1∧¬ (8:Int)=2∧¬ (8:Int)=3∧¬ (8:Int)=4∧¬ (8:Int)=7∧¬ (8:Int)=5∧¬ (8:Int)=6:=by omega
  obtain⟨e1,e2,e3,ie,Bq,pY,Br⟩:=bG;simp (disch:=first|omega|(simp only [avW,avS,avT];omega)) only [m1,e1,e2,e3,ie,pY,Br,Bq,decide_true,decide_false,cond_false,if_false,cond_true,an,gG,aT,if_true,dA,cat]
  simp
open Go Go.Ab Go.Proofs
def aqu:∀(n:Nat) (l:List Stmt) (d:Nat),ky l d→dC l≤300000→2*dC l+600≤n→rB n l (d:Int)=some (fE l d):=by
 intro n;induction n using Nat.strongRecOn with
 |_ n aJ=>
  intro l d cP ba hn;obtain⟨n,rfl⟩:∃k,n=k+2:=⟨n-2,by omega⟩
  have hlen:=tb l;rw [aqr];unfold K0
  have gS:∀m i,l.length<i+m→i≤l.length→EI (n+1) (rB (n+1)) (AJ (n+1)) l (d:Int) m (fE (l.take i) d) (i:Int)=some (fE l d):=by
   intro m;induction m with
   |zero=>intro i Z ab;omega
   |succ m li=>
    intro i Z ab;simp only [EI,Tf,Te,avV,avU,mF];by_cases hi:i<l.length
    ·simp only [hi,avM,avO,b1 hi,aT];have dE:=U_ l i d hi cP;have xz:ky (l.take i) d:=((Va (l.take i) (l.drop i) d).1 (by rw [List.take_append_drop];exact cP)).1
     have p0:=oL _ _ xz
     have wn:dC l=dC (l.take i)+(fst (l.getD i default)+1+dC (l.drop (i+1))):=by
      have:dC l=dC (l.take i++l.drop i):=by rw [List.take_append_drop]
      rw [UE,fo l i default hi]at this;simpa only [dC]using this
     have gt:=li (i+1) (by omega) (by omega)
     rw [xC l i hi,Vb]at gt;generalize l.getD i default=s at dE wn gt
     have hx:=adR s d dE;have uN:=fst_eq s;obtain⟨_,_,aqv,aqw⟩:=(uW s d).1 dE;have hb:=aJ n (by omega) s.Body (d+1) aqv (by omega) (by omega)
     have he:=aJ n (by omega) s.bB (d+1) aqw (by omega) (by omega)
     rw [aqt dE (by omega) (by omega) hb he,an,gG (by omega),aT,eb (by omega)]
     simpa only [fE,List.append_nil]using gt
    ·simp only [hi,avN,avP];rw [List.take_of_length_le (by omega)]
  exact gS (n+1) 0 (by omega) (by omega)
end Go.Ab.Y

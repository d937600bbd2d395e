/- The plain law: what the functions compute answers as the statement says. -/
import Derived.Lib.ItoaLen
import Derived.Test.YtcjbfnojhpfchaaGreatDoorPlainA
set_option linter.all false
namespace Go.Ab.Y
open Go Go.Ab Go.Proofs
def cl(l:List Token)(i:Nat)(T R:List Token):Prop:=(l.map db).drop i=T++R
def f8(R:List Token)(w:aux):Bool:=
 match R with
 |[]=>false
 |t::_=>(decide (t.Kind=2)||decide (t.Kind=5))&&decide (t.Text=w)
def am'(l:List Token)(i:Nat)(w:aux):hK l i w=f8 ((l.map db).drop i) w:=by
 unfold hK;by_cases h:i<l.length
 ·rw [e9 (l.map db) i default (by simpa using h)]
  have:(l.map db).getD i default=db (l.getD i default):=by simp [List.getD,h]
  rw [this];generalize l.getD i default=t
  simp only [f8,h,db,aug,Bool.true_and]
  congr
 ·rw [gu (l.map db) i (by simpa using h)]
  simp [f8,h]
def cl.is{l T R:List Token}{i:Nat}(h:cl l i T R)(w:aux):hK l i w=f8 (T++R) w:=by rw [am',h]
def cl.abC{l T R:List Token}{i:Nat}(h:cl l i T R):tm l i=L4 (rM.find? λr=>f8 (T++R) r.1):=by
 unfold tm
 congr 2
 funext r
 exact h.is r.1
def cl.call{l T R:List Token}{i:Nat}(h:cl l i T R):L6 l i=call2 (qz.find? λr=>f8 (T++R) r.1):=by
 unfold L6
 congr 2
 funext r
 exact h.is r.1
def cl.lt{l T R:List Token}{t:Token}{i:Nat}(h:cl l i (t::T) R):i<l.length:=by
 by_cases hi:i<l.length
 ·exact hi
 ·unfold cl at h;rw [gu (l.map db) i (by simpa using hi)]at h
  cases h
def cl.hd{l T R:List Token}{t:Token}{i:Nat}(h:cl l i (t::T) R):db (l.getD i default)=t:=by
 have hi:=h.lt;unfold cl at h;rw [e9 (l.map db) i default (by simpa using hi),List.cons_append]at h
 injection h with Z ab;rw [←Z];simp [List.getD,hi]
def cl.kq{l T U R:List Token}{i:Nat}(h:cl l i (T++U) R):cl l (i+T.length) U R:=by
 unfold cl at *;rw [←List.drop_drop,h,List.append_assoc,List.drop_left]
def cl.fU{l T R:List Token}{t:Token}{i:Nat}(h:cl l i (t::T) R):cl l (i+1) T R:=cl.kq (T:=[t]) (U:=T) h
def cl.lO{l T U R:List Token}{i:Nat}(h:cl l i (T++U) R):cl l i T (U++R):=by
 unfold cl at *;rw [h,List.append_assoc]
def cl.le{l T R:List Token}{i:Nat}(h:cl l i T R)(aH:T≠[]):i+T.length≤l.length:=by
 have:=congrArg List.length h
 simp only [List.length_drop,List.length_map,auq]at this;have:0<T.length:=List.length_pos_iff.2 aH
 omega
def jd(R:List Token):Int:=(L4 (rM.find? λr=>f8 R r.1)).1
def TT(op:Int)(R:List Token)(h:4≤op∧op≤8∨10≤op∧op≤17∨op=19):L4 (rM.find? λr=>f8 (nV op::R) r.1)=(((ca op:Nat):Int),op):=by
 have:op=4∨op=5∨op=6∨op=7∨op=8∨op=10∨op=11∨op=12∨op=13∨op=14∨op=15∨op=16∨op=17∨op=19:=by omega
 rcases this with rfl|rfl|rfl|rfl|rfl|rfl|rfl|rfl|rfl|rfl|rfl|rfl|rfl|rfl<;>rfl
def abD(op:Int)(R:List Token)(h:20≤op∧op≤27):call2 (qz.find? λr=>f8 (hL op::R) r.1)=op:=by
 have:op=20∨op=21∨op=22∨op=23∨op=24∨op=25∨op=26∨op=27:=by omega
 rcases this with rfl|rfl|rfl|rfl|rfl|rfl|rfl|rfl<;>rfl
def am_(R:List Token):call2 (qz.find? λr=>f8 (bc [40]::R) r.1)=0:=rfl
section
variable {l:List Token}
def f6(l:List Token)(i d lv:Nat)(e:Expr)(k B:Nat):Prop:=∀n,B≤n→h2 n (lv:Int) (d:Int) ⟨l,(i:Int)⟩=some (.ret e (k:Int))
def pC(l:List Token)(i d:Nat)(e:Expr)(k B:Nat):Prop:=∀n,B≤n→na n (d:Int) ⟨l,(i:Int)⟩=some (.ret e (k:Int))
def Bx(l:List Token)(i d:Nat)(e:Expr)(k B:Nat):Prop:=∀n,B≤n→oK n (d:Int) ⟨l,(i:Int)⟩=some (.ret e (k:Int))
theorem f6.mono{i d lv:Nat}{e:Expr}{k B abE:Nat}(h:f6 l i d lv e k B)(cN:B≤abE):f6 l i d lv e k abE:=λn hn=>h n (by omega)
theorem abF(e:Expr):(⟨e.Op,e.N,e.S,e.ar⟩:Expr)=e:=by cases e;rfl
theorem f6.down{i d lv:Nat}{e:Expr}{k B:Nat}(h:f6 l i d (lv+1) e k B)(fZ:1≤lv)(atC:lv≤7)(hs:(tm l k).1≠(lv:Int))(aj:lv=3→hK l i [110,111,116]=false):f6 l i d lv e k (B+2):=by
 intro n hn;obtain⟨n,rfl⟩:∃j,n=j+1:=⟨n-1,by omega⟩
 have he:=h n (by omega)
 rw [FW];unfold uG;simp only [fs,xM,ak];by_cases e3:lv=3
 ·subst e3;rw [aj rfl];simp only [aug,aui,auj];rw [show h2 n 4 (d:Int) ⟨l,(i:Int)⟩=_ from he]
  rfl
 ·simp only [e3,show¬ lv=8 by omega,auh,auj]
  rw [bm (by omega),he]
  obtain⟨m,hm⟩:∃j,n=j+1:=⟨n-1,by omega⟩
  simp only [ak,aE.on]
  conv=>lhs;arg 9;rw [hm]
  simp only [qn,Ei,TE,ak,hs,auh,aul,aui,abF]
theorem pC.down{i d:Nat}{e:Expr}{k B:Nat}(h:pC l i d e k B)(dj:hK l i [45]=false):f6 l i d 8 e k (B+1):=by
 intro n hn;obtain⟨n,rfl⟩:∃j,n=j+1:=⟨n-1,by omega⟩
 rw [FW];unfold uG;simp only [fs,xM,ak,show¬ 8=3 by omega,aug,auh,aui,auj,dj]
 rw [h n (by omega)]
 rfl
theorem f6.Mf{i d lv:Nat}{e:Expr}{k B:Nat}:∀(x:Nat),f6 l i d (lv+x) e k B→1≤lv→lv+x≤8→(tm l k).1<(lv:Int)→(lv≤3→3<lv+x→hK l i [110,111,116]=false)→f6 l i d lv e k (B+2*x)
 | 0,h,Z,ab,hs,aj=>h.mono (by omega)
 |x+1,h,Z,ab,hs,aj=>by
  have cO:f6 l i d (lv+x) e k (B+2):=f6.down (lv:=lv+x) h (by omega) (by omega) (by omega) (λe3=>aj (by omega) (by omega))
  exact(f6.Mf x cO Z (by omega) hs (λa b=>aj a (by omega))).mono (by omega)
theorem Bx.of{i d:Nat}{e:Expr}{k B:Nat}(aa:l.length≤1000000000)(hi:hK l i [40]=true)(h:f6 l (i+1) d 1 e k B)(hk:hK l k [41]=true):Bx l i d e (k+1) (B+1):=by
 intro n hn;obtain⟨n,rfl⟩:∃j,n=j+1:=⟨n-1,by omega⟩
 have Z:=TC hi;have ab:=TC hk;rw [amf];unfold JC;rw [Bs n l i _ (by omega) (by omega),hi]
 simp only [ak,aui,aE.on];rw [show h2 n 1 (d:Int) ⟨l,((i+1:Nat):Int)⟩=_ from h n (by omega)]
 simp only [ak,aE.on];rw [Bs n l k _ (by omega) (by omega),hk]
 rfl
theorem By{n i d:Nat}(aa:l.length≤1000000000)(h:i<l.length):na (n+1) (d:Int) ⟨l,(i:Int)⟩ =
 if(l.getD i default).Kind=3 then some (.ret ⟨1,(l.getD i default).N,[],[]⟩ ((i+1:Nat):Int))else if(l.getD i default).Kind=4 then some (.ret ⟨2,0,(l.getD i default).Text,[]⟩ ((i+1:Nat):Int))
 else if(l.getD i default).Kind=1 then some (.ret ⟨3,0,(l.getD i default).Text,[]⟩ ((i+1:Nat):Int))else xc n (h2 n) (oJ n) (na n) (oK n) (d:Int) ⟨l,(i:Int)⟩ (i:Int):=by
 rw [ame];unfold JB
 (rw [bm (by omega)];simp only [auo];rw [aa' (by omega)])
 simp only [aup,h,aug,aui,bw h,aK];by_cases aj:(l.getD i default).Kind=3
 ·simp only [aj,aug,aui,auv]
 ·by_cases aC:(l.getD i default).Kind=4
  ·simp only [aC,show¬ (4:Int)=3 by omega,aug,auh,aui,auj,auv,auw]
  ·by_cases aT:(l.getD i default).Kind=1
   ·simp only [aT,show¬ (1:Int)=3 by omega,show¬ (1:Int)=4 by omega,aug,auh,aui,auj,auv,auw]
   ·simp only [aj,aC,aT,auh,auj,auw]
theorem pC.paren{i d:Nat}{e:Expr}{k B:Nat}(aa:l.length≤1000000000)(hg:ld l){T R:List Token}(aO:cl l i (bc [40]::T) R)(hd:d≤23)(h:Bx l i (d+1) e k B):pC l i d e k (B+1):=by
 intro n hn;obtain⟨n,rfl⟩:∃j,n=j+1:=⟨n-1,by omega⟩
 have cZ:=aO.lt;have bn:=aO.hd;have hk:(l.getD i default).Kind=5:=by have:=congrArg Token.Kind bn;exact this
 rw [By aa cZ,hk,if_neg (by decide),if_neg (by decide),if_neg (by decide)]
 unfold xc JA;rw [TF n l i hg,aO.call,List.cons_append,am_,xM,aO.is,List.cons_append,TG n l i d (by omega) (by omega),if_neg (by omega)]
 simp only [ak,aug,aui,show f8 (bc [40]::(T++R)) [40]=true from rfl,auk,auj,aE.on]
 rw [h n (by omega)]
 rfl
theorem pC.word{i d:Nat}{e:Expr}{k B:Nat}{op:Int}(dX:20≤op∧op≤24)(aa:l.length≤1000000000)(hg:ld l){T R:List Token}(aO:cl l i (hL op::T) R)(hd:d≤23)(h:Bx l (i+1) (d+1) e k B):pC l i d ⟨op,0,[],[e]⟩ k (B+1):=by
 intro n hn;obtain⟨n,rfl⟩:∃j,n=j+1:=⟨n-1,by omega⟩
 have cZ:=aO.lt;have bn:=aO.hd;have hk:(l.getD i default).Kind=2:=by have:=congrArg Token.Kind bn;exact this.trans (Bw op).2
 rw [By aa cZ,hk,if_neg (by decide),if_neg (by decide),if_neg (by decide)]
 unfold xc z7 QW;rw [TF n l i hg,aO.call,List.cons_append,abD op _ (by omega),TG n l i d (by omega) (by omega),if_neg (by omega)]
 simp only [ak,show¬ op=0 by omega,show¬ op=25 by omega,show¬ op=26 by omega,show¬ op=27 by omega,auh,auj,aE.on]
 rw [bm (by omega),h n (by omega)]
 rfl
theorem pC.ana{i d:Nat}{op:Int}(dX:25≤op∧op≤27)(aa:l.length≤1000000000)(hg:ld l){R:List Token}(aO:cl l i [hL op,bc [40],bc [41]] R):pC l i d ⟨op,0,[],[]⟩ (i+3) 1:=by
 intro n hn;obtain⟨n,rfl⟩:∃j,n=j+1:=⟨n-1,by omega⟩
 have cZ:=aO.lt;have bn:=aO.hd;have Z:=aO.fU.is [40];have ab:=aO.fU.fU.is [41];have hk:(l.getD i default).Kind=2:=by have:=congrArg Token.Kind bn;exact this.trans (Bw op).2
 rw [By aa cZ,hk,if_neg (by decide),if_neg (by decide),if_neg (by decide)]
 unfold xc z7;rw [TF n l i hg,aO.call,List.cons_append,abD op _ (by omega),bm (by omega),Bs n l (i+1) _ (by omega) (by omega),Z]
 simp only [ak,show¬ op=0 by omega,auh,auj,show f8 ([bc [40],bc [41]]++R) [40]=true from rfl,cond_true,aE.on]
 rw [Bs n l (i+1+1) _ (by omega) (by omega),ab]
 simp only [ak,show f8 ([bc [41]]++R) [41]=true from rfl,cond_true,aE.on]
 by_cases aT:op=25
 ·simp only [aT,aug,aui]
 ·by_cases bP:op=26
  ·simp only [bP,show¬ (26:Int)=25 by omega,aug,auh,aui,auj]
  ·obtain rfl:op=27:=by omega
   simp only [show¬ (27:Int)=25 by omega,show¬ (27:Int)=26 by omega,aug,auh,aui,auj]
theorem f6.abG{i d lv:Nat}{e:Expr}{k B:Nat}{op:Int}{w:aux}(aw:(lv=3∧w=[110,111,116]∧op=18)∨(lv=8∧w=[45]∧op=9))(aa:l.length≤1000000000)(hi:hK l i w=true)(hd:d≤23)(h:f6 l (i+1) (d+1) lv e k B):f6 l i d lv ⟨op,0,[],[e]⟩ k (B+2):=by
 intro n hn;obtain⟨n,rfl⟩:∃j,n=j+1:=⟨n-1,by omega⟩
 obtain⟨n,rfl⟩:∃j,n=j+1:=⟨n-1,by omega⟩
 have cZ:=TC hi
 have hp:oJ (n+1) op (lv:Int) (d:Int) ⟨l,(i:Int)⟩=some (.ret ⟨op,0,[],[e]⟩ (k:Int)):=by
  rw [amd];unfold Jz;rw [TG n l i d (by omega) (by omega),if_neg (by omega)]
  simp only [ak,aE.on];rw [bm (by omega),h n (by omega)]
  rfl
 rw [FW];unfold uG;rcases aw with⟨rfl,rfl,rfl⟩|⟨rfl,rfl,rfl⟩
 ·simp only [fs,xM,ak,hi,aug,aui,hp,aE.on]
 ·simp only [fs,xM,ak,hi,show¬ 8=3 by omega,aug,auh,aui,auj,hp,aE.on]
end
def anb{op:Int}{p:lh}{k:Nat}{R:List Token}{w:aux}(hw:w≠[40])(h:ca op<k):f8 (dd (fA op p k)++R) w=false:=by
 unfold fA;rw [if_pos h];simp only [dd,List.cons_append,f8,bc,decide_eq_false (show¬ ([40]:aux)=w from λe=>hw e.symm),Bool.and_false]
def anc{l:List Expr}{n:Int}(h:(l.length:Int)=n)(ab:n=2):∃a b,l=[a,b]:=by
 match l,h with
 |[a,b],_=>exact⟨a,b,rfl⟩
 |[],h=>simp at h;omega
 |[a],h=>simp at h;omega
 |a::b::c::l,h=>simp at h;omega
def ane{l:List Expr}{n:Int}(h:(l.length:Int)=n)(ab:n=1):∃a,l=[a]:=by
 match l,h with
 |[a],_=>exact⟨a,rfl⟩
 |[],h=>simp at h;omega
 |a::b::l,h=>simp at h;omega
def anf{l:List Expr}{n:Int}(h:(l.length:Int)=n)(ab:n=0):l=[]:=by
 match l,h with
 |[],_=>rfl
 |a::l,h=>simp at h;omega
def xQ(e:Expr)(h:gO e):
 (e.Op=1∧e=⟨1,e.N,[],[]⟩)∨(e.Op=2∧e=⟨2,0,e.S,[]⟩)∨(e.Op=3∧e=⟨3,0,e.S,[]⟩)∨((25≤e.Op∧e.Op≤27)∧e=⟨e.Op,0,[],[]⟩)∨
 (∃a,e=⟨e.Op,0,[],[a]⟩∧gO a∧fG e=1+fG a∧(e.Op=9∨e.Op=18∨20≤e.Op∧e.Op≤24))∨
 (∃a b,e=⟨e.Op,0,[],[a,b]⟩∧gO a∧gO b∧fG e=1+max (fG a) (fG b)∧(4≤e.Op∧e.Op≤8∨10≤e.Op∧e.Op≤17∨e.Op=19)):=by
 obtain⟨Op,N,S,ar⟩:=e;obtain⟨⟨Z,ab⟩,aj,aC,aT,bP,cM,dj⟩:=h;rcases am9 Z with⟨ha,hb⟩|⟨ha,hb⟩|⟨ha,hb⟩
 ·obtain rfl:=anf ab ha;by_cases e1:Op=1
  ·subst e1;obtain rfl:=aT (by omega);exact Or.inl ⟨rfl,rfl⟩
  ·obtain rfl:=aC e1;by_cases e2:Op=2
   ·subst e2;exact Or.inr (Or.inl ⟨rfl,rfl⟩)
   ·by_cases e3:Op=3
    ·subst e3;exact Or.inr (Or.inr (Or.inl ⟨rfl,rfl⟩))
    ·obtain rfl:=aT ⟨e2,e3⟩;exact Or.inr (Or.inr (Or.inr (Or.inl ⟨⟨by simp only;omega,by simp only;omega⟩,rfl⟩)))
 ·obtain⟨a,rfl⟩:=ane ab ha;obtain rfl:=aC (by omega)
  obtain rfl:=aT (by omega)
  exact Or.inr (Or.inr (Or.inr (Or.inr (Or.inl ⟨a,rfl,dj.1,by simp [fG,qD],hb⟩))))
 ·obtain⟨a,b,rfl⟩:=anc ab ha;obtain rfl:=aC (by omega)
  obtain rfl:=aT (by omega)
  exact Or.inr (Or.inr (Or.inr (Or.inr (Or.inr ⟨a,b,rfl,dj.1,dj.2.1,by simp [fG,qD],hb⟩))))
def Mg{op:Int}{a b:Expr}(h:4≤op∧op≤8∨10≤op∧op≤17∨op=19):bR ⟨op,0,[],[a,b]⟩=fA a.Op (bR a) (if ca op=4 then 5 else ca op)++none::some (nV op)::none::fA b.Op (bR b) (ca op+1):=by
 simp only [bR,jv,kR];rw [if_neg (by omega),if_neg (by omega),if_neg (by omega)]
def F4{op:Int}{a b:Expr}(h:4≤op∧op≤8∨10≤op∧op≤17∨op=19):dd (bR ⟨op,0,[],[a,b]⟩)=dd (fA a.Op (bR a) (if ca op=4 then 5 else ca op))++nV op::dd (fA b.Op (bR b) (ca op+1)):=by
 rw [Mg h,tr];rfl
def Bz{op:Int}(h:4≤op∧op≤8∨10≤op∧op≤17∨op=19):ca op=1∨ca op=2∨ca op=4∨ca op=5∨ca op=6∨ca op=7:=by
 have:op=4∨op=5∨op=6∨op=7∨op=8∨op=10∨op=11∨op=12∨op=13∨op=14∨op=15∨op=16∨op=17∨op=19:=by omega
 rcases this with rfl|rfl|rfl|rfl|rfl|rfl|rfl|rfl|rfl|rfl|rfl|rfl|rfl|rfl<;>decide
def TU(op:Int):1≤ca op∧ca op≤9:=by
 unfold ca;by_cases Z:op=17
 ·rw [if_pos Z];omega
 by_cases ab:op=16
 ·rw [if_neg Z,if_pos ab];omega
 by_cases aj:op=18
 ·rw [if_neg Z,if_neg ab,if_pos aj];omega
 by_cases aC:10≤op∧op≤15
 ·rw [if_neg Z,if_neg ab,if_neg aj,if_pos aC];omega
 by_cases aT:op=19
 ·rw [if_neg Z,if_neg ab,if_neg aj,if_neg aC,if_pos aT];omega
 by_cases bP:op=4∨op=5
 ·rw [if_neg Z,if_neg ab,if_neg aj,if_neg aC,if_neg aT,if_pos bP];omega
 by_cases cM:6≤op∧op≤8
 ·rw [if_neg Z,if_neg ab,if_neg aj,if_neg aC,if_neg aT,if_neg bP,if_pos cM];omega
 by_cases dj:op=9
 ·rw [if_neg Z,if_neg ab,if_neg aj,if_neg aC,if_neg aT,if_neg bP,if_neg cM,if_pos dj];omega
 rw [if_neg Z,if_neg ab,if_neg aj,if_neg aC,if_neg aT,if_neg bP,if_neg cM,if_neg dj];omega
def abH{c:Prop}[Decidable c]{a b:Token}{R:List Token}{w:aux}(ha:f8 (a::R) w=false)(hb:f8 (b::R) w=false):f8 ((if c then a else b)::R) w=false:=by
 by_cases h:c
 ·rw [if_pos h];exact ha
 ·rw [if_neg h];exact hb
def Mh(op:Int)(R:List Token):f8 (hL op::R) [110,111,116]=false∧f8 (hL op::R) [45]=false:=by
 unfold hL;constructor
 ·repeat refine abH rfl ?_
  rfl
 ·repeat refine abH rfl ?_
  rfl
def abI:∀(h:Nat) (e:Expr),fG e≤h→gO e→3<ca e.Op→∀R,f8 (dd (bR e)++R) [110,111,116]=false:=by
 intro h;induction h with
 |zero=>intro e he;rw [tu]at he;omega
 |succ h aG=>
  intro e he cF fZ R;rcases xQ e cF with⟨_,ao⟩|⟨_,ao⟩|⟨_,ao⟩|⟨ai,ao⟩|⟨a,ao,ha,bn,dX⟩|⟨a,b,ao,ha,hb,bn,dX⟩
  ·rw [ao];rfl
  ·rw [ao];rfl
  ·rw [ao];rfl
  ·generalize e.Op=op at ai ao
   rw [ao];simp only [bR,jv,kR];rw [if_neg (by omega),if_neg (by omega),if_neg (by omega)]
   exact(Mh _ _).1
  ·generalize e.Op=op at fZ ao dX
   rw [ao];simp only [bR,jv,kR];rw [if_neg (by omega),if_neg (by omega),if_neg (by omega)]
   by_cases mK:op=18
   ·rw [mK]at fZ;exact absurd fZ (by decide)
   ·rw [if_neg mK];by_cases en:op=9
    ·rw [if_pos en];rfl
    ·rw [if_neg en];exact(Mh _ _).1
  ·generalize e.Op=op at fZ ao dX
   rw [ao,F4 dX,List.append_assoc];by_cases hp:ca a.Op<(if ca op=4 then 5 else ca op)
   ·exact anb (by decide) hp
   ·unfold fA;rw [if_neg hp];refine aG a (by omega) ha ?_ _
    split at hp<;>omega
def ang(e:Expr)(cF:gO e)(fZ:8<ca e.Op)(R:List Token):f8 (dd (bR e)++R) [45]=false:=by
 rcases xQ e cF with⟨_,ao⟩|⟨_,ao⟩|⟨_,ao⟩|⟨ai,ao⟩|⟨a,ao,ha,bn,dX⟩|⟨a,b,ao,ha,hb,bn,dX⟩
 ·rw [ao];rfl
 ·rw [ao];rfl
 ·rw [ao];rfl
 ·generalize e.Op=op at ai ao
  rw [ao];simp only [bR,jv,kR];rw [if_neg (by omega),if_neg (by omega),if_neg (by omega)]
  exact(Mh _ _).2
 ·generalize e.Op=op at fZ ao dX
  rw [ao];simp only [bR,jv,kR];rw [if_neg (by omega),if_neg (by omega),if_neg (by omega)]
  by_cases mK:op=18
  ·rw [mK]at fZ;exact absurd fZ (by decide)
  ·rw [if_neg mK];by_cases en:op=9
   ·rw [en]at fZ;exact absurd fZ (by decide)
   ·rw [if_neg en];exact(Mh _ _).2
 ·have:=Bz dX;omega
section
variable {l:List Token}
abbrev eX(e:Expr)(lv:Nat):List Token:=dd (fA e.Op (bR e) lv)
def qE(l:List Token)(e:Expr):Prop:=∀(lv i d:Nat) (R:List Token),1≤lv→lv≤8→cl l i (eX e lv) R→jd R<(lv:Int)→d+2*fG e≤25∨(lv≤ca e.Op∧d+2*fG e≤26)→
 f6 l i d lv e (i+(eX e lv).length) (24*(eX e lv).length+40-2*lv)
def TV(l:List Token)(e:Expr):Prop:=∀(L i d:Nat) (R:List Token),(L=1∨L=2∨L=5∨L=6∨L=7)→cl l i (eX e L) R→jd R≤(L:Int)→d+2*fG e≤25→∀n,24*(eX e L).length+40≤n+2*L+1→
 ∃j,j≤(eX e L).length∧h2 (n+1) (L:Int) (d:Int) ⟨l,(i:Int)⟩=qn n (h2 n) (oJ n) (na n) (oK n) (L:Int) (d:Int) ⟨l,(i:Int)⟩ (n-j) ((i+(eX e L).length:Nat):Int) e.Op e.N e.S e.ar
theorem cl.TW{T R:List Token}{i:Nat}(h:cl l i T R)(aH:T≠[]):(tm l (i+T.length)).1=jd R:=by
 have ab:cl l (i+T.length) [] R:=by
  unfold cl at *;rw [←List.drop_drop,h,List.drop_left];rfl
 rw [ab.abC];rfl
theorem abJ{n i d L k m:Nat}{op:Int}{a b:Expr}(aa:l.length≤1000000000)(dX:4≤op∧op≤8∨10≤op∧op≤17∨op=19)(c8:L=ca op)(hb:qE l b){R:List Token}
 (aO:cl l k (nV op::eX b (L+1)) R) (gp:jd R≤(L:Int)) (hd:d+2*fG b≤25) (hn:24*(eX b (L+1)).length+40≤n+2*(L+1)):
 qn n (h2 n) (oJ n) (na n) (oK n) (L:Int) (d:Int) ⟨l,(i:Int)⟩ (m+1) (k:Int) a.Op a.N a.S a.ar =
  if L=4 then some (.ret ⟨op,0,[],[a,b]⟩ ((k+1+(eX b (L+1)).length:Nat):Int)) else
  qn n (h2 n) (oJ n) (na n) (oK n) (L:Int) (d:Int) ⟨l,(i:Int)⟩ m ((k+1+(eX b (L+1)).length:Nat):Int) op 0 [] [a,b]:=by
 have fZ:=Bz dX;have hk:=aO.lt;have anh:tm l k=((L:Int),op):=by rw [aO.abC,List.cons_append,TT op _ dX,c8]
 have cN:=hb (L+1) (k+1) d R (by omega) (by omega) aO.fU (by omega) (Or.inl hd) n (by omega)
 simp only [qn,Ei];rw [TE,anh];simp only [ak,aug,auk,auj];rw [bm (by omega),bm (by omega),cN]
 simp only [ak,aE.on,fs,abF];by_cases aC:L=4
 ·simp only [aC,aug,aui,auv]
 ·simp only [aC,auh,auj,auw]
theorem Mi(e:Expr)(lv:Nat)(h:gO e):eX e lv≠[]:=by
 unfold eX fA;split
 ·simp [dd]
 ·rcases xQ e h with⟨_,ao⟩|⟨_,ao⟩|⟨_,ao⟩|⟨ai,ao⟩|⟨a,ao,ha,bn,dX⟩|⟨a,b,ao,ha,hb,bn,dX⟩
  ·rw [ao];simp [bR,kR,dd]
  ·rw [ao];simp [bR,kR,dd]
  ·rw [ao];simp [bR,kR,dd]
  ·generalize e.Op=op at ai ao
   rw [ao];simp only [bR,jv,kR];rw [if_neg (by omega),if_neg (by omega),if_neg (by omega)]
   simp [dd]
  ·generalize e.Op=op at dX ao
   rw [ao];simp only [bR,jv,kR];rw [if_neg (by omega),if_neg (by omega),if_neg (by omega)]
   split
   ·simp [dd]
   ·split<;>simp [dd]
  ·generalize e.Op=op at dX ao
   rw [ao,F4 dX];simp
theorem abK{i d n:Nat}{op:Int}{a b:Expr}(aa:l.length≤1000000000)(dX:4≤op∧op≤8∨10≤op∧op≤17∨op=19)(abL:ca op≠4)(atD:gO a)(ha:TV l a)(hb:qE l b){R:List Token}
 (aO:cl l i (dd (bR ⟨op,0,[],[a,b]⟩)) R) (gp:jd R≤(ca op:Int)) (ani:d+2*fG a≤25) (anj:d+2*fG b≤25) (hn:24*(dd (bR ⟨op,0,[],[a,b]⟩)).length+40≤n+2*ca op+1):
 ∃j,j≤(dd (bR ⟨op,0,[],[a,b]⟩)).length∧h2 (n+1) (ca op:Int) (d:Int) ⟨l,(i:Int)⟩ =
  qn n (h2 n) (oJ n) (na n) (oK n) (ca op:Int) (d:Int) ⟨l,(i:Int)⟩ (n-j) ((i+(dd (bR ⟨op,0,[],[a,b]⟩)).length:Nat):Int) op 0 [] [a,b]:=by
 have fZ:=Bz dX;have aF:=F4 (a:=a) (b:=b) dX;rw [if_neg abL]at aF;rw [aF]at aO hn ⊢;have b4:dd (fA a.Op (bR a) (ca op))=eX a (ca op):=rfl;have e1:dd (fA b.Op (bR b) (ca op+1))=eX b (ca op+1):=rfl;rw [b4,e1]at aO hn ⊢;have ank:=aO.lO;simp only [auq,aum]at hn ⊢;obtain⟨j,hj,TX⟩:=ha (ca op) i d _ (by omega) ank (by unfold jd;rw [List.cons_append,TT op _ dX];exact Int.le_refl _) ani n (by omega)
 refine⟨j+1,by omega,?_⟩
 rw [TX];obtain⟨m,hm⟩:∃m,n-j=m+1:=⟨n-j-1,by omega⟩
 rw [hm,abJ aa dX rfl hb aO.kq gp anj (by omega),if_neg abL]
 rw [show n-(j+1)=m by omega,show i+(eX a (ca op)).length+1+(eX b (ca op+1)).length=i+((eX a (ca op)).length+((eX b (ca op+1)).length+1))by omega]
end
section
variable {l:List Token}
def fO(l:List Token)(e:Expr):Prop:=∀(i d:Nat) (R:List Token),cl l i (dd (bR e)) R→jd R<(ca e.Op:Int)→d+2*fG e≤26→
 if ca e.Op=9 then pC l i d e (i+(dd (bR e)).length) (24*(dd (bR e)).length+20)else f6 l i d (ca e.Op) e (i+(dd (bR e)).length) (24*(dd (bR e)).length+40-2*ca e.Op)
theorem TY(aa:l.length≤1000000000)(e:Expr)(t:Token)(en:ca e.Op=9)(aF:dd (bR e)=[t])(hu:∀n i d,i<l.length→db (l.getD i default)=t→na (n+1) ((d:Nat):Int) ⟨l,(i:Int)⟩=some (.ret e ((i+1:Nat):Int))):fO l e:=by
 intro i d R aO gp hd;rw [if_pos en];intro n hn;obtain⟨n,rfl⟩:∃j,n=j+1:=⟨n-1,by omega⟩
 rw [aF]at aO ⊢;exact hu n i d aO.lt aO.hd
theorem Mj{t u:Token}(h:db t=u):t.Kind=u.Kind∧t.Text=u.Text∧t.N=u.N:=by subst h;exact⟨rfl,rfl,rfl⟩
theorem BA(aa:l.length≤1000000000)(hg:ld l){e:Expr}(cF:gO e)(h:fO l e):qE l e:=by
 have Wb:=TU e.Op
 have di:dd (bR e)≠[]:=by
  have:=Mi e 0 cF
  unfold eX fA at this
  rwa [if_neg (by omega)]at this
 have G8:0<(dd (bR e)).length:=List.length_pos_iff.2 di
 -- atE atF, from any level below
 have core:∀(lv i d:Nat) (R:List Token),1≤lv→lv≤8→lv≤ca e.Op→cl l i (dd (bR e)) R→jd R<(lv:Int)→d+2*fG e≤26→f6 l i d lv e (i+(dd (bR e)).length) (24*(dd (bR e)).length+40-2*lv):=by
  intro lv i d R Z dj fZ aO gp hd;have u_:=aO.TW di;have hc:=h i d R aO (by omega) hd
  by_cases en:ca e.Op=9
  ·rw [if_pos en]at hc;have lw:=hc.down (by rw [aO.is];exact ang e cF (by omega) R)
   have:=f6.Mf (lv:=lv) (8-lv) (by rw [show lv+(8-lv)=8 by omega];exact lw) Z (by omega) (by rw [u_];exact gp) (λ_ _=>by rw [aO.is];exact abI (fG e) e (Nat.le_refl _) cF (by omega) R)
   exact this.mono (by omega)
  ·rw [if_neg en]at hc;have:=f6.Mf (lv:=lv) (ca e.Op-lv) (by rw [show lv+(ca e.Op-lv)=ca e.Op by omega];exact hc) Z (by omega) (by rw [u_];exact gp) (λ_ _=>by rw [aO.is];exact abI (fG e) e (Nat.le_refl _) cF (by omega) R)
   exact this.mono (by omega)
 intro lv i d R Z dj aO gp hd;by_cases hp:ca e.Op<lv
 ·have atG:d+2*fG e≤25:=by rcases hd with h|h<;>omega
  have bn:=tu e
  have tv:eX e lv=bc [40]::(dd (bR e)++[bc [41]]):=by
   unfold eX fA;rw [if_pos hp];simp only [dd,tr]
  have u_:=aO.TW (Mi e lv cF);rw [tv]at aO u_ ⊢;simp only [aum,auq,aun]at u_ ⊢;have abM:=aO.fU;have u6:=abM.kq;have hin:=core 1 (i+1) (d+1) _ (by omega) (by omega) (by omega) abM.lO (by show jd (bc [41]::R)<1;rw [show jd (bc [41]::R)=0 from rfl];omega) (by omega)
  have mu:=Bx.of aa (by rw [aO.is];rfl) hin (by rw [u6.is];rfl)
  have qF:=pC.paren aa hg aO (by omega) mu
  have lw:=qF.down (by rw [aO.is];rfl)
  have:=f6.Mf (lv:=lv) (8-lv) (by rw [show lv+(8-lv)=8 by omega];exact lw) Z (by omega) (by rw [show i+1+(dd (bR e)).length+1=i+((dd (bR e)).length+(0+1)+1)by omega,u_];exact gp) (λ_ _=>by rw [aO.is];rfl)
  rw [show i+1+(dd (bR e)).length+1=i+((dd (bR e)).length+(0+1)+1)by omega]at this
  exact this.mono (by omega)
 ·have tv:eX e lv=dd (bR e):=by unfold eX fA;rw [if_neg hp]
  rw [tv]at aO ⊢;exact core lv i d R Z dj (by omega) aO gp (by rcases hd with h|h<;>omega)
theorem BB{e:Expr}(cF:gO e)(b1:qE l e)
 (anl:ca e.Op=1∨ca e.Op=2∨ca e.Op=5∨ca e.Op=6∨ca e.Op=7→∀(i d n:Nat) (R:List Token),cl l i (dd (bR e)) R→jd R≤(ca e.Op:Int)→d+2*fG e≤26→24*(dd (bR e)).length+40≤n+2*ca e.Op+1→
  ∃j,j≤(dd (bR e)).length∧h2 (n+1) (ca e.Op:Int) (d:Int) ⟨l,(i:Int)⟩=qn n (h2 n) (oJ n) (na n) (oK n) (ca e.Op:Int) (d:Int) ⟨l,(i:Int)⟩ (n-j) ((i+(dd (bR e)).length:Nat):Int) e.Op e.N e.S e.ar):TV l e:=by
 intro L i d R c8 aO gp hd n hn;by_cases hp:ca e.Op=L
 ·have tv:eX e L=dd (bR e):=by unfold eX fA;rw [if_neg (by omega)]
  rw [tv]at aO hn ⊢;subst hp;exact anl c8 i d n R aO gp (by omega) hn
 ·have tv:eX e (L+1)=eX e L:=by
   unfold eX fA;by_cases h:ca e.Op<L
   ·rw [if_pos h,if_pos (by omega)]
   ·rw [if_neg h,if_neg (by omega)]
  have h:=b1 (L+1) i d R (by omega) (by omega) (by rw [tv];exact aO) (by omega) (Or.inl hd) n (by rw [tv];omega)
  rw [tv]at h;refine⟨0,by omega,?_⟩
  rw [FW];unfold uG;simp only [fs,show¬ L=3 by omega,show¬ L=8 by omega,auh,auj]
  rw [bm (by omega),h]
  simp only [ak,aE.on,Nat.sub_zero]
theorem anm(aa:l.length≤1000000000)(hg:ld l):∀(h:Nat) (e:Expr),fG e≤h→gO e→qE l e∧TV l e:=by
 intro h;induction h with
 |zero=>intro e he;rw [tu]at he;omega
 |succ h aG=>
  intro e he cF;rcases xQ e cF with⟨Z,ao⟩|⟨Z,ao⟩|⟨Z,ao⟩|⟨ai,ao⟩|⟨a,ao,ha,bn,dX⟩|⟨a,b,ao,ha,hb,bn,dX⟩
  ·have b1:qE l e:=BA aa hg cF (by
    rw [ao];refine TY aa _ (nU e.N) rfl rfl λn i d hi aF=>?_
    obtain⟨Z,ab,aj⟩:=Mj aF;rw [By aa hi,Z,aj];rfl)
   exact⟨b1,BB cF b1 (λhc=>by rw [Z]at hc;exact absurd hc (by decide))⟩
  ·have b1:qE l e:=BA aa hg cF (by
    rw [ao];refine TY aa _ (L_ e.S) rfl rfl λn i d hi aF=>?_
    obtain⟨Z,ab,aj⟩:=Mj aF;rw [By aa hi,Z,ab];rfl)
   exact⟨b1,BB cF b1 (λhc=>by rw [Z]at hc;exact absurd hc (by decide))⟩
  ·have b1:qE l e:=BA aa hg cF (by
    rw [ao];refine TY aa _ (hU e.S) rfl rfl λn i d hi aF=>?_
    obtain⟨Z,ab,aj⟩:=Mj aF;rw [By aa hi,Z,ab];rfl)
   exact⟨b1,BB cF b1 (λhc=>by rw [Z]at hc;exact absurd hc (by decide))⟩
  ·have fZ:ca e.Op=9:=by
    have:e.Op=25∨e.Op=26∨e.Op=27:=by omega
    rcases this with h|h|h<;>rw [h]<;>decide
   have b1:qE l e:=BA aa hg cF (by
    intro i d R aO gp hd;rw [if_pos fZ];generalize e.Op=op at ai ao
    have aF:dd (bR e)=[hL op,bc [40],bc [41]]:=by
     rw [ao];simp only [bR,jv,kR];rw [if_neg (by omega),if_neg (by omega),if_neg (by omega)];rfl
    rw [aF]at aO ⊢;rw [ao];exact λn hn=>pC.ana ai aa hg aO n (by simp only [aum,aun]at hn;omega))
   exact⟨b1,BB cF b1 (λhc=>by omega)⟩
  ·obtain⟨F5,TZ⟩:=aG a (by omega) ha
   have fZ:ca e.Op=9∨ca e.Op=3∨ca e.Op=8:=by
    have:e.Op=9∨e.Op=18∨e.Op=20∨e.Op=21∨e.Op=22∨e.Op=23∨e.Op=24:=by omega
    rcases this with h|h|h|h|h|h|h<;>rw [h]<;>decide
   have b1:qE l e:=BA aa hg cF (by
    intro i d R aO gp hd;rw [bn]at hd;have atH:=tu a;generalize e.Op=op at dX ao fZ gp
    have di:=Mi a 3 ha;by_cases mK:op=18
    ·subst mK;have aF:dd (bR e)=dC [110,111,116]::eX a 3:=by rw [ao];rfl
     rw [if_neg (show¬ ca 18=9 by decide)]
     rw [aF]at aO ⊢;have:=F5 3 (i+1) (d+1) R (by omega) (by omega) aO.fU gp (Or.inl (by omega))
     have ab:=f6.abG (op:=18) (Or.inl ⟨rfl,rfl,rfl⟩) aa (by rw [aO.is];rfl) (by omega) this
     rw [ao];simp only [aum];rw [show i+((eX a 3).length+1)=i+1+(eX a 3).length by omega]
     exact ab.mono (by rw [show ca 18=3 from rfl];omega)
    ·by_cases en:op=9
     ·subst en;have aF:dd (bR e)=bc [45]::eX a 8:=by rw [ao];rfl
      rw [if_neg (show¬ ca 9=9 by decide)]
      rw [aF]at aO ⊢;have:=F5 8 (i+1) (d+1) R (by omega) (by omega) aO.fU gp (Or.inl (by omega))
      have ab:=f6.abG (op:=9) (Or.inr ⟨rfl,rfl,rfl⟩) aa (by rw [aO.is];rfl) (by omega) this
      rw [ao];simp only [aum];rw [show i+((eX a 8).length+1)=i+1+(eX a 8).length by omega]
      exact ab.mono (by rw [show ca 9=8 from rfl];omega)
     ·have T0:20≤op∧op≤24:=by omega
      have ann:ca op=9:=by
       have:op=20∨op=21∨op=22∨op=23∨op=24:=by omega
       rcases this with h|h|h|h|h<;>rw [h]<;>decide
      have e1:eX a 1=dd (bR a):=by unfold eX fA;rw [if_neg (by have:=TU a.Op;omega)]
      have aF:dd (bR e)=hL op::bc [40]::(eX a 1++[bc [41]]):=by
       rw [ao,e1];simp only [bR,jv,kR];rw [if_neg (by omega),if_neg (by omega),if_neg (by omega),if_neg mK,if_neg en]
       simp only [dd,tr]
      rw [if_pos ann];rw [aF]at aO ⊢;have u6:=aO.fU.fU;have ano:=u6.kq;have:=F5 1 (i+1+1) (d+1) _ (by omega) (by omega) u6.lO (by show jd (bc [41]::R)<1;rw [show jd (bc [41]::R)=0 from rfl];omega) (Or.inl (by omega))
      have mu:=Bx.of aa (by rw [aO.fU.is];rfl) this (by rw [ano.is];rfl)
      have qF:=pC.word T0 aa hg aO (by omega) mu
      rw [ao];simp only [aum,auq,aun];rw [show i+((eX a 1).length+(0+1)+1+1)=i+1+1+(eX a 1).length+1 by omega]
      exact λn hn=>qF n (by omega))
   exact⟨b1,BB cF b1 (λhc=>by omega)⟩
  ·obtain⟨F5,TZ⟩:=aG a (by omega) ha
   obtain⟨T1,atI⟩:=aG b (by omega) hb
   have fZ:=Bz dX
   have b1:qE l e:=BA aa hg cF (by
    intro i d R aO gp hd;rw [bn]at hd;generalize e.Op=op at dX ao fZ gp
    rw [if_neg (by omega)]
    rw [ao]at aO ⊢;intro n hn;obtain⟨n,rfl⟩:∃j,n=j+1:=⟨n-1,by omega⟩
    by_cases aC:ca op=4
    ·have aF:=F4 (a:=a) (b:=b) dX;rw [if_pos aC]at aF;have b4:dd (fA a.Op (bR a) 5)=eX a 5:=rfl;have e1:dd (fA b.Op (bR b) (ca op+1))=eX b (4+1):=by rw [aC]
     rw [b4,e1]at aF;rw [aF]at aO hn ⊢;rw [aC]at gp hn ⊢;simp only [auq,aum]at hn ⊢;have:=F5 5 i d _ (by omega) (by omega) aO.lO (by unfold jd;rw [List.cons_append,TT op _ dX,aC];show((4:Nat):Int)<((5:Nat):Int);omega) (Or.inl (by omega)) n (by omega)
     rw [FW];unfold uG;simp only [fs,show¬ 4=3 by omega,show¬ 4=8 by omega,auh,auj]
     rw [bm (by omega),this]
     simp only [ak,aE.on];obtain⟨m,hm⟩:∃j,n=j+1:=⟨n-1,by omega⟩
     conv=>lhs;arg 9;rw [hm]
     rw [abJ aa dX aC.symm T1 aO.kq (by omega) (by omega) (by omega),if_pos rfl]
     rw [show i+(eX a 5).length+1+(eX b (4+1)).length=i+((eX a 5).length+((eX b (4+1)).length+1))by omega]
    ·obtain⟨j,hj,TX⟩:=abK (i:=i) (d:=d) (n:=n) aa dX aC ha TZ T1 aO (by omega) (by omega) (by omega) (by omega)
     rw [TX];have di:dd (bR ⟨op,0,[],[a,b]⟩)≠[]:=by rw [F4 dX];simp
     have u_:=aO.TW di;obtain⟨m,hm⟩:∃m,n-j=m+1:=⟨n-j-1,by omega⟩
     rw [hm];simp only [qn,Ei];rw [TE];simp only [ak];rw [decide_eq_false (show¬ (tm l (i+(dd (bR ⟨op,0,[],[a,b]⟩)).length)).1=(ca op:Int)by rw [u_];omega)]
     simp only [aul,aui])
   refine⟨b1,BB cF b1 (λhc i d n R aO gp hd hn=>?_)⟩
   rw [bn]at hd;generalize e.Op=op at dX ao fZ gp hc hn
   rw [ao]at aO hn ⊢;exact abK (i:=i) (d:=d) (n:=n) aa dX (by omega) ha TZ T1 aO gp (by omega) (by omega) hn
end
def gW{k:Nat}(h:k≤1000000000000):b0 k=true:=Tq (by omega)
def T2{k:Nat}(h:k≤1000000000000):room k 1=true:=by simp [room];omega
def T3(n:Nat)(op:Int):DK n op=some ((ca op:Nat):Int):=by
 by_cases h:1≤op∧op≤27
 ·obtain rfl|rfl|rfl|rfl|rfl|rfl|rfl|rfl|rfl|rfl|rfl|rfl|rfl|rfl|rfl|rfl|rfl|rfl|rfl|rfl|rfl|rfl|rfl|rfl|rfl|rfl|rfl:op=1∨op=2∨op=3∨op=4∨op=5∨op=6∨op=7∨op=8∨op=9∨op=10∨op=11∨op=12∨op=13∨op=14∨op=15∨op=16∨op=17∨op=18∨op=19∨op=20∨op=21∨op=22∨op=23∨op=24∨op=25∨op=26∨op=27:=by omega
  all_goals rfl
 ·have e:ca op=9:=by
   unfold ca;rw [if_neg (by omega),if_neg (by omega),if_neg (by omega),if_neg (by omega),if_neg (by omega),if_neg (by omega),if_neg (by omega),if_neg (by omega)]
  rw [e];simp only [DK,uv,Iz,DJ,P8,show¬ op=17 by omega,show¬ op=16 by omega,show¬ op=18 by omega,show¬ op=10 by omega,show¬ op=11 by omega,show¬ op=12 by omega,show¬ op=13 by omega,show¬ op=14 by omega,show¬ op=15 by omega,show¬ op=19 by omega,show¬ op=4 by omega,show¬ op=5 by omega,show¬ op=6 by omega,show¬ op=7 by omega,show¬ op=8 by omega,show¬ op=9 by omega,auh,auj]
  rfl
def abN(n:Nat)(op:Int)(h:20≤op∧op≤27):IB n op=some (spell (hL op)):=by
 obtain rfl|rfl|rfl|rfl|rfl|rfl|rfl|rfl:op=20∨op=21∨op=22∨op=23∨op=24∨op=25∨op=26∨op=27:=by omega
 all_goals rfl
def abO(n:Nat)(op:Int)(h:4≤op∧op≤8∨10≤op∧op≤17∨op=19):IA n op=some (spell (nV op)):=by
 have:op=4∨op=5∨op=6∨op=7∨op=8∨op=10∨op=11∨op=12∨op=13∨op=14∨op=15∨op=16∨op=17∨op=19:=by omega
 rcases this with rfl|rfl|rfl|rfl|rfl|rfl|rfl|rfl|rfl|rfl|rfl|rfl|rfl|rfl<;>rfl
def abP(n:Nat)(i:Int)(h0:0≤i)(Z:i≤9223372036854775807):wL n i=some (Lib.decDigits i.toNat):=by
 unfold wL HZ;rw [decide_eq_true (show(10:Int)=10 ∧ -9223372036854775808≤i∧i≤9223372036854775807 from⟨rfl,by omega,Z⟩)]
 simp only [aK,ak];unfold Lib.itoa;rw [if_neg (by omega)]
def BC(i:Int)(h0:0≤i)(Z:i≤9223372036854775807):(Lib.decDigits i.toNat).length≤21:=by
 have:=Lib.itoa_length_le i (by omega) Z
 unfold Lib.itoa at this
 rwa [if_neg (by omega)]at this
def F6(n:Nat)(c:UInt8)(b:aux)(h:b.length≤100000000):rr n ((c.toNat:Nat):Int) (fS b)=some (fS (b++[c])):=by
 unfold rr zm;simp only [ak,L0,aum,aun,T2 (show b.length+(0+1)≤1000000000000 by omega),aK,Tp]
def anp(n:Nat)(s:aux)(hs:s.length≤4611686018427387904):∀m i,s.length<i+m→i≤s.length→DH n s m (i:Int)=some ((s.drop i).all okB):=by
 intro m;induction m with
 |zero=>intro i h ab;omega
 |succ m aG=>
  intro i hm hi;simp only [DH,P3,P2];by_cases h:i<s.length
  ·rw [e9 s i 0 h,bm (by omega),aG (i+1) (by omega) (by omega)]
   simp only [h,bw h,auo,aup,aug,aui,aK,auu,List.all_cons,pu,eO,dv,Bl];cases okB (s.getD i 0)<;>simp
  ·rw [gu s i h];simp [h]
def anq{n:Nat}(s:aux)(h:s.length<n)(hs:s.length≤4611686018427387904):P4 n s=some (s.all okB):=by
 have:=anp n s hs n 0 (by omega) (by omega)
 rw [List.drop_zero]at this;exact this
def xR:∀s:aux,(gC s).length≤2*s.length
 |[]=>Nat.le_refl _
 |c::s=>by
  have:=xR s
  simp only [gC];split<;>simp only [aum]<;>omega
def abQ(s:aux)(c:UInt8):gC (s++[c])=gC s++gC [c]:=by
 induction s with
 |nil=>rfl
 |cons d s aG=>simp only [List.cons_append,gC,aG];split<;>rfl
def anr(n:Nat)(s:aux)(hs:s.length≤64):∀m i,s.length<i+m→i≤s.length→DI n s m (fS (34::gC (s.take i))) (i:Int)=some (quo s,0):=by
 intro m;induction m with
 |zero=>intro i h ab;omega
 |succ m aG=>
  intro i hm hi;simp only [DI,P7,P5,P6,Ix];have hlen:=xR (s.take i);have FU:(s.take i).length≤i:=by simp;omega
  by_cases h:i<s.length
  ·(rw [bm (by omega)];simp only [auo])
   have hn:=aG (i+1) (by omega) (by omega)
   have aF:s.take (i+1)=s.take i++[s.getD i 0]:=by
    rw [List.take_add,e9 s i 0 h,List.take_succ_cons,List.take_zero]
   rw [aF,abQ]at hn;generalize s.getD i 0=c at hn
   simp only [h,bw h,aup,aug,aui,aK,auu,fs,dv];by_cases hc:c.toNat=34∨c.toNat=92
   ·have hb:(decide (c.toNat=34)||decide (c.toNat=92))=true:=by rcases hc with hc|hc<;>rw [decide_eq_true hc]<;>simp
    have e1:=F6 n 92 (34::gC (s.take i)) (by simp only [aum];omega)
    have e2:=F6 n c (34::gC (s.take i)++[92]) (by simp only [auq,aum,aun];omega)
    rw [hb];simp only [aui];rw [show rr n 92 _=_ from e1]
    simp only [ak];rw [e2];simp only [ak];rw [show(34::gC (s.take i)++[92]++[c])=34::(gC (s.take i)++gC [c])by simp only [gC];rw [if_pos hc];simp]
    exact hn
   ·have hb:(decide (c.toNat=34)||decide (c.toNat=92))=false:=by rw [decide_eq_false (λe=>hc (Or.inl e)),decide_eq_false (λe=>hc (Or.inr e))];rfl
    have e2:=F6 n c (34::gC (s.take i)) (by simp only [aum];omega)
    rw [hb];simp only [auj];rw [e2];simp only [ak];rw [show(34::gC (s.take i)++[c])=34::(gC (s.take i)++gC [c])by simp only [gC];rw [if_neg hc];simp]
    exact hn
  ·have T4:i=s.length:=by omega
   subst T4;simp only [aup,Nat.lt_irrefl,auh,auj,List.take_length];have e1:=F6 n 34 (34::gC s) (by have:=xR s;simp only [aum];omega)
   rw [show rr n 34 _=_ from e1]
   have aa:=xR s;have eT:(fS (34::gC s++[34])).length≤9223372036854775807:=by rw [L0];simp only [auq,aum,aun];omega
   simp only [ak,sS,To,Tn,eT,aug,Bool.and_self,aK];rfl
def ans{n:Nat}(s:aux)(h:ju s=true)(hn:100<n):Iy n s=some (quo s,0):=by
 unfold ju at h;simp only [Bool.and_eq_true,decide_eq_true_eq]at h;unfold Iy;simp only [eO,show¬ 64<s.length by omega,auh,auj,anq s (show s.length<n by omega) (by omega),ak,h.1,auk]
 have e1:=F6 n 34 [] (by simp)
 rw [show rr n 34 []=_ from e1]
 exact anr n s (by omega) n 0 (by omega) (by omega)
def ant(s:aux):(quo s).length≤2*s.length+2:=by
 have:=xR s
 simp only [quo,aum,auq,aun];omega
def abR{c:Prop}[Decidable c]{a b:Token}{k:Nat}(ha:(spell a).length≤k)(hb:(spell b).length≤k):(spell (if c then a else b)).length≤k:=by
 by_cases h:c
 ·rw [if_pos h];exact ha
 ·rw [if_neg h];exact hb
def T6(op:Int):(spell (nV op)).length≤3:=by
 unfold nV
 repeat refine abR (by decide) ?_
 decide
def BD(op:Int):(spell (hL op)).length≤6:=by
 unfold hL
 repeat refine abR (by decide) ?_
 decide
def pD(op:Int)(p:lh)(k:Nat):(flat (fA op p k)).length≤(flat p).length+2:=by
 unfold fA;split
 ·simp only [flat,mJ,spell,bc,auq,aum];simp;omega
 ·omega
def pE{w:aux}(h:gv w=true):w.length≤16:=by
 obtain⟨c,l,_,_,_,_,aT⟩:=L' h;exact aT
def q6:∀(h:Nat) (e:Expr),fG e≤h→gO e→(flat (bR e)).length≤4*da e:=by
 intro h;induction h with
 |zero=>intro e he;rw [tu]at he;omega
 |succ h aG=>
  intro e he cF;have nW:=(Ma e).1 cF;have tl:=oQ e;rcases xQ e cF with⟨Z,ao⟩|⟨Z,ao⟩|⟨Z,ao⟩|⟨ai,ao⟩|⟨a,ao,ha,bn,dX⟩|⟨a,b,ao,ha,hb,bn,dX⟩
  ·have:=BC e.N (nW.2.1 Z).1 (nW.2.1 Z).2
   have e2:flat (bR e)=Lib.decDigits e.N.toNat++[]:=by rw [ao];rfl
   rw [e2,List.append_nil];omega
  ·have:=ant e.S
   have e2:flat (bR e)=quo e.S++[]:=by rw [ao];rfl
   rw [e2,List.append_nil];omega
  ·have:=pE (nW.2.2.2.2.2.1 Z)
   have e2:flat (bR e)=e.S++[]:=by rw [ao];rfl
   rw [e2,List.append_nil];omega
  ·have:=BD e.Op
   generalize e.Op=op at ai ao this
   have e2:flat (bR e)=spell (hL op)++([40]++([41]++[])):=by
    rw [ao];simp only [bR,jv,kR];rw [if_neg (by omega),if_neg (by omega),if_neg (by omega)];rfl
   rw [e2];simp only [auq,aum,aun];omega
  ·have F7:=aG a (by omega) ha
   have F8:da e=30+(da a+1):=by rw [ao];simp [da,mB]
   have:=BD e.Op
   have aj:=pD a.Op (bR a) 3;have dj:=pD a.Op (bR a) 8;generalize e.Op=op at dX ao this
   have e2:bR e=if op=18 then some (dC [110,111,116])::none::fA a.Op (bR a) 3 else if op=9 then some (bc [45])::fA a.Op (bR a) 8 else some (hL op)::some (bc [40])::(bR a++[some (bc [41])]):=by
    rw [ao];simp only [bR,jv,kR];rw [if_neg (by omega),if_neg (by omega),if_neg (by omega)]
   rw [e2];split
   ·simp only [flat,spell,dC,auq,aum];simp;omega
   ·split
    ·simp only [flat,spell,bc,auq,aum];simp;omega
    ·simp only [flat,mJ,auq];have e3:(spell (bc [40])).length=1:=rfl;have gG:(spell (bc [41])).length=1:=rfl;simp only [aun];omega
  ·have F7:=aG a (by omega) ha
   have abS:=aG b (by omega) hb
   have F8:da e=30+(da a+1+(da b+1)):=by rw [ao];simp [da,mB]
   have:=T6 e.Op
   have aj:=pD a.Op (bR a) (if ca e.Op=4 then 5 else ca e.Op)
   have dj:=pD b.Op (bR b) (ca e.Op+1);generalize e.Op=op at dX ao this aj dj
   have e2:bR e=fA a.Op (bR a) (if ca op=4 then 5 else ca op)++none::some (nV op)::none::fA b.Op (bR b) (ca op+1):=by rw [ao,Mg dX]
   rw [e2];simp only [mJ,flat,auq,aum];omega
def anu(n:Nat):l' (n+1)=IC n (l' n) (wM n):=rfl
def anv(n:Nat):wM (n+1)=ID n (l' n) (wM n):=rfl
def F9{n:Nat}{e:Expr}{k:Nat}(h:l' n e=some (flat (bR e)))(aa:(flat (bR e)).length≤100000000):wM (n+1) e (k:Int)=some (flat (fA e.Op (bR e) k)):=by
 rw [anv];unfold ID fA;rw [T3,h];simp only [ak,aup];by_cases hk:ca e.Op<k
 ·simp only [hk,aug,aui,auv];rw [gW (by simp;omega),gW (by simp;omega)]
  simp only [aK,flat,mJ,spell,bc];simp
 ·simp only [hk,auh,auj,auw]
def anw:∀(h:Nat) (e:Expr) (n:Nat),fG e≤h→gO e→2*h+200≤n→da e≤1000000→l' n e=some (flat (bR e)):=by
 intro h;induction h with
 |zero=>intro e n he;rw [tu]at he;omega
 |succ h aG=>
  intro e n he cF hn anx;obtain⟨n,rfl⟩:∃j,n=j+1:=⟨n-1,by omega⟩
  obtain⟨n,rfl⟩:∃j,n=j+1:=⟨n-1,by omega⟩
  have nW:=(Ma e).1 cF;have tl:=oQ e;rw [anu];unfold IC;rw [T3];simp only [ak];rcases xQ e cF with⟨Z,ao⟩|⟨Z,ao⟩|⟨Z,ao⟩|⟨ai,ao⟩|⟨a,ao,ha,bn,dX⟩|⟨a,b,ao,ha,hb,bn,dX⟩
  ·have e2:flat (bR e)=Lib.decDigits e.N.toNat++[]:=by rw [ao];rfl
   rw [abP _ e.N (nW.2.1 Z).1 (nW.2.1 Z).2,e2,List.append_nil];simp only [Z,aug,aui,ak]
  ·have e2:flat (bR e)=quo e.S++[]:=by rw [ao];rfl
   rw [ans e.S (nW.2.2.2.2.1 Z) (by omega),e2,List.append_nil]
   simp only [Z,show¬ (2:Int)=1 by omega,aug,auh,aui,auj,ak]
  ·have e2:flat (bR e)=e.S++[]:=by rw [ao];rfl
   rw [e2,List.append_nil];simp only [Z,show¬ (3:Int)=1 by omega,show¬ (3:Int)=2 by omega,aug,auh,aui,auj]
  ·have hw:=BD e.Op;have T7:=abN (n+1) e.Op (by omega)
   have fZ:ca e.Op=9:=by
    have:e.Op=25∨e.Op=26∨e.Op=27:=by omega
    rcases this with h|h|h<;>rw [h]<;>decide
   have e8:e.ar=[]:=by rw [ao]
   have e2:flat (bR e)=spell (hL e.Op)++([40]++([41]++[])):=by
    generalize e.Op=op at ai ao
    rw [ao];simp only [bR,jv,kR];rw [if_neg (by omega),if_neg (by omega),if_neg (by omega)];rfl
   rw [T7,e2];simp only [ak];rw [gW (show(spell (hL e.Op)).length+([40,41]:aux).length≤1000000000000 by simp;omega)]
   simp only [fZ,e8,show¬ e.Op=1 by omega,show¬ e.Op=2 by omega,show¬ e.Op=3 by omega,show¬ e.Op=18 by omega,show¬ e.Op=9 by omega,auh,auj,aun,fs,aug,aui,aK]
   simp
  ·have F8:da e=30+(da a+1):=by rw [ao];simp [da,mB]
   have qG:=aG a n (by omega) ha (by omega) (by omega)
   have T8:=aG a (n+1) (by omega) ha (by omega) (by omega)
   have F7:=q6 (fG a) a (Nat.le_refl _) ha;have e8:e.ar=[a]:=by rw [ao]
   have aj:=pD a.Op (bR a) 3;have dj:=pD a.Op (bR a) 8
   have e2:bR e=if e.Op=18 then some (dC [110,111,116])::none::fA a.Op (bR a) 3 else if e.Op=9 then some (bc [45])::fA a.Op (bR a) 8 else some (hL e.Op)::some (bc [40])::(bR a++[some (bc [41])]):=by
    generalize e.Op=op at dX ao
    rw [ao];simp only [bR,jv,kR];rw [if_neg (by omega),if_neg (by omega),if_neg (by omega)]
   rw [e2,e8];simp only [aum,aun,ma (show 0<0+1 by omega),aK,List.getD_cons_zero,show¬ e.Op=1 by omega,show¬ e.Op=2 by omega,show¬ e.Op=3 by omega,auh,auj]
   by_cases mK:e.Op=18
   ·have:=F9 (k:=3) qG (by omega)
    rw [mK];simp only [aug,aui,auv,show ca 18=3 from rfl]
    rw [this];simp only [ak];rw [gW (by simp;omega)]
    rfl
   ·by_cases en:e.Op=9
    ·have:=F9 (k:=8) qG (by omega)
     rw [en];simp only [show¬ (9:Int)=18 by omega,aug,auh,aui,auj,auv,auw,show ca 9=8 from rfl]
     rw [this];simp only [ak];rw [gW (by simp;omega)]
     rfl
    ·have T0:20≤e.Op∧e.Op≤24:=by omega
     have fZ:ca e.Op=9:=by
      have:e.Op=20∨e.Op=21∨e.Op=22∨e.Op=23∨e.Op=24:=by omega
      rcases this with h|h|h|h|h<;>rw [h]<;>decide
     have hw:=BD e.Op;rw [abN (n+1) e.Op (by omega),T8,if_neg mK,if_neg en]
     have e3:flat (some (hL e.Op)::some (bc [40])::(bR a++[some (bc [41])]))=spell (hL e.Op)++([40]++(flat (bR a)++([41]++[]))):=by
      simp only [flat,mJ];rfl
     rw [e3];generalize spell (hL e.Op)=W at hw
     simp only [mK,en,fZ,auh,aug,auj,aui,ak];rw [gW (show W.length+(0+1)≤1000000000000 by omega),gW (show(W++([40]:aux)).length+(flat (bR a)).length≤1000000000000 by simp;omega),gW (show((W++([40]:aux))++flat (bR a)).length+(0+1)≤1000000000000 by simp;omega)]
     simp only [show((0+1:Nat):Int)=1 from rfl,show¬ (1:Int)=0 by omega,show((9:Nat):Int)=9 from rfl,aug,auh,aui,auj,aK]
     simp
  ·have F8:da e=30+(da a+1+(da b+1)):=by rw [ao];simp [da,mB]
   have qG:=aG a n (by omega) ha (by omega) (by omega)
   have T9:=aG b n (by omega) hb (by omega) (by omega)
   have F7:=q6 (fG a) a (Nat.le_refl _) ha;have abS:=q6 (fG b) b (Nat.le_refl _) hb;have e8:e.ar=[a,b]:=by rw [ao]
   have fZ:=Bz dX;have anz:=T6 e.Op
   have e2:bR e=fA a.Op (bR a) (if ca e.Op=4 then 5 else ca e.Op)++none::some (nV e.Op)::none::fA b.Op (bR b) (ca e.Op+1):=by
    generalize e.Op=op at dX ao
    rw [ao,Mg dX]
   have aj:=pD a.Op (bR a) (if ca e.Op=4 then 5 else ca e.Op)
   have dj:=pD b.Op (bR b) (ca e.Op+1);have xS:=F9 (k:=ca e.Op+1) T9 (by omega)
   rw [e2,e8,abO (n+1) e.Op dX];simp only [aum,aun,ma (show 0<0+1+1 by omega),aK,List.getD_cons_zero,List.getD_cons_succ,show¬ e.Op=1 by omega,show¬ e.Op=2 by omega,show¬ e.Op=3 by omega,show¬ e.Op=18 by omega,show¬ e.Op=9 by omega,auh,auj,fs,show¬ ca e.Op=9 by omega,show aL 1 (0+1+1)=true from rfl]
   by_cases aC:ca e.Op=4
   ·have sz:=F9 (k:=5) qG (by omega)
    rw [aC]at xS ⊢;rw [if_pos rfl];rw [if_pos aC]at aj;simp only [aug,aui];rw [show wM (n+1) a 5=_ from sz,show wM (n+1) b 5=_ from xS]
    simp only [ak];rw [aC]at dj;rw [gW (by simp;omega),gW (by simp;omega),gW (by simp;omega),gW (by simp only [auq,aum,aun];omega)]
    simp only [aK,mJ,flat];simp
   ·have sz:=F9 (k:=ca e.Op) qG (by omega)
    rw [if_neg aC]at aj ⊢;simp only [aC,auh,auj];rw [sz,bm (by omega),xS]
    simp only [ak];rw [gW (by simp;omega),gW (by simp;omega),gW (by simp;omega),gW (by simp only [auq,aum,aun];omega)]
    simp only [aK,mJ,flat];simp
mutual
def mL:Expr→Prop
 |⟨Op,N,S,ar⟩=>N≤9223372036854775807∧S.length≤9223372036854775807∧ar.length≤9223372036854775807∧BE ar
def BE:List Expr→Prop
 |[]=>True
 |x::l=>mL x∧BE l
end
def Mk(e:Expr):mL e↔e.N≤9223372036854775807∧e.S.length≤9223372036854775807∧e.ar.length≤9223372036854775807∧BE e.ar:=by cases e;rfl
def abT:∀(l:List Expr) (i:Nat),i<l.length→BE l→mL (l.getD i default)
 |[],i,h,_=>by simp at h
 |x::l,0,h,aa=>aa.1
 |x::l,i+1,h,aa=>by simp only [List.getD_cons_succ];exact abT l i (by simpa using h) aa.2
mutual
def rP:Expr→Nat
 |⟨_,_,S,ar⟩=>1+S.length / 64+xT ar
def xT:List Expr→Nat
 |[]=>0
 |x::l=>rP x+xT l
end
def anA(e:Expr):rP e=1+e.S.length / 64+xT e.ar:=by cases e;rfl
mutual
def T_:∀e:Expr,da e+1≤95*rP e
 |⟨Op,N,S,ar⟩=>by
  have:=abU ar
  simp only [da,rP];omega
def abU:∀l:List Expr,mB l≤95*xT l
 |[]=>Nat.le_refl _
 |x::l=>by
  have Z:=T_ x;have ab:=abU l;simp only [mB,xT];omega
end
def Ua(k:Nat):Int.tdiv ((k:Nat):Int) 64=((k / 64:Nat):Int):=by
 rw [Int.tdiv_eq_ediv_of_nonneg (by omega)];rfl
def anB:∀(n:Nat) (e:Expr) (m:Nat),m≤1000→m+3≤n→mL e→
 ∃r:Nat,rH n e (m:Int)=some (r:Int)∧1≤r∧r≤m+144115188075855873∧(r≤m→r=rP e):=by
 intro n;induction n with
 |zero=>intro e m h ab;omega
 |succ n aG=>
  intro e m hm hn he;obtain⟨Z,ab,aj,aC⟩:=(Mk e).1 he;simp only [rH,K3];rw [Ua];rw [show auz ((e.S.length / 64:Nat):Int)=((e.S.length / 64:Nat):Int)by rw [wr]<;>omega]
  rw [show auz (1+((e.S.length / 64:Nat):Int))=((1+e.S.length / 64:Nat):Int)by rw [wr]<;>omega]
  have gR:∀k i v,m+2≤v+k→i≤e.ar.length→i≤v→1≤v→v≤m+144115188075855873→1≤k→
   ∃r:Nat,AX n (rH n) (m:Int) e k (v:Int) (i:Int)=some (r:Int)∧v≤r∧r≤m+144115188075855873∧(r≤m→r=v+xT (e.ar.drop i)):=by
   intro k;induction k with
   |zero=>intro i v Z ab h0 aj aC aT;omega
   |succ k BF=>
    intro i v g1 g2 g0 g3 g4 g5;simp only [AX,K2,K1,eg,aup,Int.ofNat_le];by_cases hi:i<e.ar.length
    ·by_cases av:v≤m
     ·obtain⟨r1,e1,e2,e3,gG⟩:=aG (e.ar.getD i default) (m-v) (by omega) (by omega) (abT _ _ hi aC)
      (rw [show auz ((m:Int)-(v:Int))=((m-v:Nat):Int)by rw [wr]<;>omega,bm (by omega)];simp only [auo];rw [e1])
      simp only [hi,av,aug,Bool.and_self,aui,bw hi,aK,ak];rw [show auz ((v:Int)+(r1:Int))=((v+r1:Nat):Int)by rw [wr]<;>omega]
      obtain⟨r,f1,f2,f3,f4⟩:=BF (i+1) (v+r1) (by omega) (by omega) (by omega) (by omega) (by omega) (by omega)
      refine⟨r,f1,by omega,f3,λai=>?_⟩
      have:=f4 ai
      have ix:=gG (by omega)
      rw [e9 e.ar i default hi];simp only [xT];omega
     ·simp only [hi,av,aug,auh,Bool.and_false,auj];exact⟨v,rfl,Nat.le_refl _,g4,λh=>absurd h av⟩
    ·rw [gu e.ar i hi];simp only [hi,auh,Bool.false_and,auj];exact⟨v,rfl,Nat.le_refl _,g4,λh=>rfl⟩
  obtain⟨r,f1,f2,f3,f4⟩:=gR n 0 (1+e.S.length / 64) (by omega) (by omega) (by omega) (by omega) (by omega) (by omega)
  exact⟨r,f1,by omega,f3,λai=>by rw [f4 ai,anA,List.drop_zero]⟩
def anC:∀(h:Nat) (e:Expr) (d:Nat),fG e≤h→mL e→gV e (d:Int)=0→d≤1000→gO e∧d+fG e≤13:=by
 intro h;induction h with
 |zero=>intro e d he;rw [tu]at he;omega
 |succ h aG=>
  intro e d he hi av hd;obtain⟨i1,i2,i3,i4⟩:=(Mk e).1 hi;rw [aba]at av
  have kg:px e (d:Int)=0:=by
   by_cases h0:px e (d:Int)=0
   ·exact h0
   ·rw [if_neg h0]at av;exact absurd av h0
  rw [if_pos kg]at av;unfold px at kg;split at kg
  ·omega
  rename_i g1;split at kg
  ·omega
  rename_i g2;split at kg
  ·omega
  rename_i g3;split at kg
  ·omega
  rename_i g4;simp only [not_or,not_and,Bool.not_eq_false]at g1 g2 g3;obtain⟨aZ,a2,a3⟩:=g1;obtain⟨c6,jl,F0⟩:=g3
  have dX:1≤e.Op∧e.Op≤27:=by
   unfold jH at aZ;by_cases Z:e.Op<1
   ·simp [Z]at aZ
   ·by_cases ab:27<e.Op
    ·simp [ab]at aZ
    ·omega
  rw [show auz ((d:Int)+1)=((d+1:Nat):Int)by rw [wr]<;>omega]at av
  have aa:∀l:List Expr,qD l≤h→BE l→tp l ((d+1:Nat):Int)=0→F1 l∧(d+1+qD l≤13∨l=[]):=by
   intro l;induction l with
   |nil=>intro _ _ _;exact⟨trivial,Or.inr rfl⟩
   |cons x l anD=>
    intro bn hin v';simp only [qD]at bn;simp only [tp]at v'
    have hx:gV x ((d+1:Nat):Int)=0:=by
     by_cases h0:gV x ((d+1:Nat):Int)=0
     ·exact h0
     ·rw [if_neg h0]at v';exact absurd v' h0
    rw [if_pos hx]at v';obtain⟨fy,eI⟩:=aG x (d+1) (by omega) hin.1 hx (by omega)
    obtain⟨aN,bp⟩:=anD (by omega) hin.2 v'
    refine⟨⟨fy,aN⟩,Or.inl ?_⟩
    simp only [qD];rcases bp with bp|rfl
    ·omega
    ·simp only [qD];omega
  have abV:=tu e;obtain⟨cC,al⟩:=aa e.ar (by omega) i4 av
  refine⟨(Ma e).2 ⟨⟨dX,?_⟩,λZ=>⟨by omega,i1⟩,λZ=>?_,λZ=>?_,λZ=>?_,λZ=>?_,cC⟩,?_⟩
  ·by_cases hc:(e.ar.length:Int)=jH e.Op
   ·exact hc
   ·exact absurd hc F0
  ·by_cases hc:e.N=0
   ·exact hc
   ·exact absurd hc (a2 Z)
  ·by_cases hc:e.S=[]
   ·exact hc
   ·exact absurd hc (a3 Z.1 Z.2)
  ·exact jl Z
  ·exact g2 Z
  ·rcases al with al|al
   ·omega
   ·rw [al]at abV;simp only [qD]at abV;omega
open Go Go.Ab Go.Proofs
mutual
def rQ:Stmt→Prop
 |⟨_,Name,Max,A,B,Body,bz⟩=>(-9223372036854775808≤Max∧Max≤9223372036854775807)∧Name.length≤9223372036854775807∧mL A∧mL B∧rR Body∧rR bz
def rR:List Stmt→Prop
 |[]=>True
 |x::l=>rQ x∧rR l
end
def Ub(s:Stmt):rQ s↔(-9223372036854775808≤s.Max∧s.Max≤9223372036854775807)∧s.Name.length≤9223372036854775807∧mL s.A∧mL s.B∧rR s.Body∧rR s.bz:=by cases s;rfl
def abW:∀(l:List Stmt) (i:Nat),i<l.length→rR l→rQ (l.getD i default)
 |[],i,h,_=>by simp at h
 |x::l,0,h,aa=>aa.1
 |x::l,i+1,h,aa=>by simp only [List.getD_cons_succ];exact abW l i (by simpa using h) aa.2
mutual
def Ml:Stmt→Nat
 |⟨_,Name,_,A,B,Body,bz⟩=>1+Name.length / 64+rP A+rP B+qH Body+qH bz
def qH:List Stmt→Nat
 |[]=>0
 |x::l=>Ml x+qH l
end
def anE(s:Stmt):Ml s=1+s.Name.length / 64+rP s.A+rP s.B+qH s.Body+qH s.bz:=by cases s;rfl
mutual
def anF:∀s:Stmt,fst s+1≤150*Ml s
 |⟨Op,Name,Max,A,B,Body,bz⟩=>by
  have Z:=T_ A;have ab:=T_ B;have aj:=Mm Body;have aC:=Mm bz;simp only [fst,Ml];omega
def Mm:∀l:List Stmt,dq l≤150*qH l
 |[]=>Nat.zero_le _
 |x::l=>by
  have Z:=anF x;have ab:=Mm l;simp only [dq,qH];omega
end
def anG(n:Nat)(e:Expr)(m:Int)(hm:m<0)(hn:2≤n)(he:mL e):rH n e m=some ((1+e.S.length / 64:Nat):Int):=by
 obtain⟨n,rfl⟩:∃k,n=k+2:=⟨n-2,by omega⟩
 obtain⟨Z,ab,aj,aC⟩:=(Mk e).1 he;simp only [rH,K3];rw [Ua];rw [show auz ((e.S.length / 64:Nat):Int)=((e.S.length / 64:Nat):Int)by rw [wr]<;>omega]
 rw [show auz (1+((e.S.length / 64:Nat):Int))=((1+e.S.length / 64:Nat):Int)by rw [wr]<;>omega]
 simp only [AX,K2,K1,eg];rw [show decide (((1+e.S.length / 64:Nat):Int)≤m)=false from decide_eq_false (by omega)]
 simp
def abX(n:Nat)(e:Expr)(m:Int)(hm:m≤1000)(hn:m+3≤n)(rL:3≤n)(he:mL e):
 ∃r:Nat,rH n e m=some (r:Int)∧1≤r∧(r:Int)≤(if m<0 then 0 else m)+144115188075855873∧((r:Int)≤m→r=rP e):=by
 by_cases h:m<0
 ·have ab:=((Mk e).1 he).2.1;exact⟨_,anG n e m h (by omega) he,by omega,by rw [if_pos h];omega,λai=>by omega⟩
 ·obtain⟨k,rfl⟩:=Int.eq_ofNat_of_zero_le (show 0≤m by omega)
  obtain⟨r,Z,ab,aj,aC⟩:=anB n e k (by omega) (by omega) he
  exact⟨r,Z,ab,by rw [if_neg h];omega,λai=>aC (by omega)⟩
def anH:∀(n:Nat) (l:List Stmt) (m:Int),-4611686018427387904≤m→m≤1000→m+6≤n→5≤n→rR l→
 ∃r:Nat,AY n l m=some (r:Int)∧(r:Int)≤(if m<0 then 0 else m+576460752303423500)∧((r:Int)≤m→r=qH l):=by
 intro n;induction n with
 |zero=>intro l m _ _ _ h;omega
 |succ n aG=>
  intro l m atJ hm hn rL aa;simp only [AY,St]
  have gR:∀(k i v:Nat),m+2≤v+k→1≤k→i≤v→(v:Int)≤(if m<0 then 0 else m+576460752303423500)→
   ∃r:Nat,E4 n (AY n) l m k (v:Int) (i:Int)=some (r:Int)∧v≤r∧(r:Int)≤(if m<0 then 0 else m+576460752303423500)∧((r:Int)≤m→r=v+qH (l.drop i)):=by
   intro k;induction k with
   |zero=>intro i v _ h;omega
   |succ k BF=>
    intro i v g1 g2 g3 g4;simp only [E4,Ss,Sr,eg,aup];by_cases hi:i<l.length
    ·by_cases av:(v:Int)≤m
     ·have abY:¬ m<0:=by omega
      rw [if_neg abY];simp only [if_neg abY]at BF g4;obtain⟨aZ,a2,a3,a4,a5,qI⟩:=(Ub _).1 (abW l i hi aa)
      (simp only [auo])
      generalize hs:l.getD i default=s at aZ a2 a3 a4 a5 qI
      simp only [hi,av,aug,Bool.and_self,aui,bw hi,aK];rw [Ua];rw [show auz ((s.Name.length / 64:Nat):Int)=((s.Name.length / 64:Nat):Int)by rw [wr]<;>omega]
      rw [show auz ((v:Int)+1)=((v+1:Nat):Int)by rw [wr]<;>omega]
      rw [show auz (((v+1:Nat):Int)+((s.Name.length / 64:Nat):Int))=((v+1+s.Name.length / 64:Nat):Int)by rw [wr]<;>omega]
      rw [show auz (m-((v+1+s.Name.length / 64:Nat):Int))=m-((v+1+s.Name.length / 64:Nat):Int)by rw [wr]<;>omega]
      obtain⟨r1,e1,c6,c1,d1⟩:=abX n s.A (m-((v+1+s.Name.length / 64:Nat):Int)) (by omega) (by omega) (by omega) a3
      rw [e1];simp only [ak];have VF:(v+1+s.Name.length / 64+r1:Nat)≤m+288230376151711750:=by split at c1<;>omega
      rw [show auz (((v+1+s.Name.length / 64:Nat):Int)+(r1:Int))=((v+1+s.Name.length / 64+r1:Nat):Int)by rw [wr]<;>omega]
      rw [show auz (m-((v+1+s.Name.length / 64+r1:Nat):Int))=m-((v+1+s.Name.length / 64+r1:Nat):Int)by rw [wr]<;>omega]
      obtain⟨r2,e2,jl,c2,d2⟩:=abX n s.B (m-((v+1+s.Name.length / 64+r1:Nat):Int)) (by omega) (by omega) (by omega) a4
      rw [e2];simp only [ak];have VG:(v+1+s.Name.length / 64+r1+r2:Nat)≤m+432345564227567625:=by split at c2<;>omega
      rw [show auz (((v+1+s.Name.length / 64+r1:Nat):Int)+(r2:Int))=((v+1+s.Name.length / 64+r1+r2:Nat):Int)by rw [wr]<;>omega]
      rw [show auz (m-((v+1+s.Name.length / 64+r1+r2:Nat):Int))=m-((v+1+s.Name.length / 64+r1+r2:Nat):Int)by rw [wr]<;>omega]
      obtain⟨r3,e3,c3,d3⟩:=aG s.Body (m-((v+1+s.Name.length / 64+r1+r2:Nat):Int)) (by omega) (by omega) (by omega) (by omega) a5
      rw [e3];simp only [ak];have atK:(v+1+s.Name.length / 64+r1+r2+r3:Nat)≤m+576460752303423500:=by split at c3<;>omega
      rw [show auz (((v+1+s.Name.length / 64+r1+r2:Nat):Int)+(r3:Int))=((v+1+s.Name.length / 64+r1+r2+r3:Nat):Int)by rw [wr]<;>omega]
      rw [show auz (m-((v+1+s.Name.length / 64+r1+r2+r3:Nat):Int))=m-((v+1+s.Name.length / 64+r1+r2+r3:Nat):Int)by rw [wr]<;>omega]
      obtain⟨bx,gG,c4,d4⟩:=aG s.bz (m-((v+1+s.Name.length / 64+r1+r2+r3:Nat):Int)) (by omega) (by omega) (by omega) (by omega) qI
      rw [gG];simp only [ak];have atL:(v+1+s.Name.length / 64+r1+r2+r3+bx:Nat)≤m+576460752303423500:=by split at c4<;>omega
      rw [show auz (((v+1+s.Name.length / 64+r1+r2+r3:Nat):Int)+(bx:Int))=((v+1+s.Name.length / 64+r1+r2+r3+bx:Nat):Int)by rw [wr]<;>omega]
      rw [bm (by omega)]
      obtain⟨r,f1,f2,f3,f4⟩:=BF (i+1) (v+1+s.Name.length / 64+r1+r2+r3+bx) (by omega) (by omega) (by omega) (by omega)
      refine⟨r,f1,by omega,f3,λai=>?_⟩
      have h0:=f4 ai;have Z:=d1 (by omega)
      have ab:=d2 (by omega)
      have aj:=d3 (by omega)
      have aC:=d4 (by omega)
      rw [e9 l i default hi,hs];have:=anE s
      simp only [qH];omega
     ·simp only [hi,av,aug,auh,Bool.and_false,auj];exact⟨v,rfl,Nat.le_refl _,g4,λh=>absurd h av⟩
    ·rw [gu l i hi];simp only [hi,auh,Bool.false_and,auj];exact⟨v,rfl,Nat.le_refl _,g4,λh=>rfl⟩
  obtain⟨r,f1,f2,f3,f4⟩:=gR n 0 0 (by omega) (by omega) (by omega) (by split<;>omega)
  exact⟨r,f1,f3,λai=>by rw [f4 ai,List.drop_zero];omega⟩
def qJ(p:bb):Prop:=p.Name.length≤9223372036854775807∧p.Params.length≤9223372036854775807∧(∀i,i<p.Params.length→(p.Params.getD i default).Name.length≤9223372036854775807)∧rR p.Body
def abZ:∀l:List Param,(∀i,i<l.length→(l.getD i default).Name.length≤200)→h4 l≤400*l.length
 |[],_=>Nat.le_refl _
 |x::l,h=>by
  have h0:=h 0 (by simp)
  have Z:=abZ l λi hi=>by have:=h (i+1) (by simpa using hi);simpa using this
  simp only [List.getD_cons_zero]at h0;simp only [h4,aum];omega
def Mn(p:bb)(m:Nat):Prop:=p.Name.length≤200∧p.Params.length≤40∧h4 p.Params≤16000∧qH p.Body≤m
def anI{n:Nat}(p:bb)(m:Nat)(hm:m≤1000)(hn:1100≤n)(hp:qJ p):∃b,E6 n p (m:Int)=some b∧(b=true→Mn p m):=by
 obtain⟨Z,ab,aj,aC⟩:=hp;simp only [E6,dv];by_cases hc:40<p.Params.length∨200<p.Name.length
 ·rw [show(decide (40<((p.Params.length:Nat):Int))||decide (200<((p.Name.length:Nat):Int)))=true by
   rcases hc with h|h
   ·rw [decide_eq_true (show 40<((p.Params.length:Nat):Int)by omega)];rfl
   ·rw [decide_eq_true (show 200<((p.Name.length:Nat):Int)by omega),auu]]
  exact⟨false,rfl,λh=>by cases h⟩
 ·rw [show(
   decide (40<((p.Params.length:Nat):Int))||decide (200<((p.Name.length:Nat):Int)))=false by
   rw [decide_eq_false (show¬ 40<((p.Params.length:Nat):Int)by omega),decide_eq_false (show¬ 200<((p.Name.length:Nat):Int)by omega)];rfl]
  simp only [auj]
  have gR:∀k i,p.Params.length<i+k→i≤p.Params.length→(∀j,j<i→(p.Params.getD j default).Name.length≤200)→∃b,E5 n (m:Int) p k (i:Int)=some b∧(b=true→Mn p m):=by
   intro k;induction k with
   |zero=>intro i g1 g2;omega
   |succ k BF=>
    intro i g1 g2 g3;simp only [E5,Sv,Su,aup,auo];by_cases hi:i<p.Params.length
    ·simp only [hi,aug,aui,bw hi,aK];by_cases hx:200<(p.Params.getD i default).Name.length
     ·rw [decide_eq_true (show 200<(((p.Params.getD i default).Name.length:Nat):Int)by omega)]
      exact⟨false,rfl,λh=>by cases h⟩
     ·rw [decide_eq_false (show¬ 200<(((p.Params.getD i default).Name.length:Nat):Int)by omega),bm (by omega)]
      exact BF (i+1) (by omega) (by omega) λj hj=>by
       by_cases h:j<i
       ·exact g3 j h
       ·obtain rfl:j=i:=by omega
        omega
    ·simp only [hi,auh,auj];obtain⟨r,f1,f2,f3⟩:=anH n p.Body (m:Int) (by omega) (by omega) (by omega) (by omega) aC
     rw [f1];refine⟨_,rfl,λhb=>?_⟩
     have hb:=of_decide_eq_true hb;have:=f3 hb
     have aY:=abZ p.Params λj hj=>g3 j (by omega)
     exact⟨by omega,by omega,by omega,by omega⟩
  exact gR n 0 (by omega) (by omega) λj hj=>by omega
open Go Go.Ab Go.Proofs
abbrev ek:Expr:=⟨0,0,[],[]⟩
def iO(e:Expr):Prop:=gO e∧fG e≤12
def F'(s:Stmt):Prop:=
 ((s.Op=1∨s.Op=2)∧s=⟨s.Op,s.Name,0,s.A,ek,[],[]⟩∧gv s.Name=true∧iO s.A)∨
 (s=⟨3,[],0,s.A,s.B,[],[]⟩∧iO s.A∧iO s.B)∨
 ((s.Op=4∨s.Op=7)∧s=⟨s.Op,[],0,s.A,ek,[],[]⟩∧iO s.A)∨
 (s=⟨5,[],0,s.A,ek,s.Body,s.bz⟩∧iO s.A)∨
 (s=⟨6,s.Name,s.Max,s.A,s.B,s.Body,[]⟩∧gv s.Name=true∧(1≤s.Max∧s.Max≤16)∧iO s.A∧iO s.B)∨
 (s=⟨8,[],s.Max,ek,ek,[],[]⟩∧0≤s.Max∧s.Max≤999)
mutual
def tw:Stmt→Nat→Prop
 |⟨Op,Name,Max,A,B,Body,bz⟩,d=>d≤12∧F' ⟨Op,Name,Max,A,B,Body,bz⟩∧kr Body (d+1)∧kr bz (d+1)
def kr:List Stmt→Nat→Prop
 |[],_=>True
 |s::l,d=>tw s d∧kr l d
end
def va(s:Stmt)(d:Nat):tw s d↔d≤12∧F' s∧kr s.Body (d+1)∧kr s.bz (d+1):=by cases s;rfl
def xU{e:Expr}(h:ng e=true):e=ek:=by
 obtain⟨a,b,c,l⟩:=e;unfold ng at h;simp only [Bool.and_eq_true,decide_eq_true_eq]at h;obtain⟨⟨⟨rfl,rfl⟩,rfl⟩,h⟩:=h;rw [List.length_eq_zero_iff]at h;subst h;rfl
def tx{e:Expr}(hi:mL e)(h:gV e 1=0):iO e:=by
 obtain⟨Z,ab⟩:=anC (fG e) e 1 (Nat.le_refl _) hi h (by omega)
 exact⟨Z,by omega⟩
def anJ{s:Stmt}{d:Int}(hi:rQ s)(h:kp s d=0):d≤12∧F' s:=by
 obtain⟨i1,i2,i3,i4,i5,i6⟩:=(Ub s).1 hi;unfold kp at h;split at h
 ·omega
 rename_i g1;split at h
 ·omega
 rename_i g2;split at h
 ·rename_i g;exact absurd h g.2
 rename_i g3;split at h
 ·rename_i g;exact absurd h g.2
 rename_i g4;split at h
 ·omega
 rename_i g5;refine⟨by omega,?_⟩
 simp only [not_or,not_and,Bool.not_eq_false,Bool.not_eq_true,Decidable.not_not]at g1 g2 g3 g4;obtain⟨aZ,a2,a3⟩:=g1
 have dX:1≤s.Op∧s.Op≤8:=by
  by_cases bn:1≤s.Op∧s.Op≤8
  ·exact bn
  ·rw [show j_ s.Op=(⟨false,false,false,false,false,false⟩,false) by
    unfold j_;rw [if_neg (by omega),if_neg (by omega),if_neg (by omega),if_neg (by omega),if_neg (by omega),if_neg (by omega)]]at aZ
   cases aZ
 obtain⟨Op,Name,Max,A,B,Body,bz⟩:=s;simp only at *
 obtain rfl|rfl|rfl|rfl|rfl|rfl|rfl|rfl:Op=1∨Op=2∨Op=3∨Op=4∨Op=5∨Op=6∨Op=7∨Op=8:=by omega
 all_goals
  simp only [Bt,rO,j_]at a2 a3 g2 g3 g4;simp [-List.length_eq_zero_iff]at a2 a3 g2 g3 g4
 all_goals unfold F';simp only []
 ·obtain⟨⟨⟨cN,rfl⟩,Z⟩,ab⟩:=a2;obtain rfl:=xU cN;obtain rfl:=List.eq_nil_of_length_eq_zero Z;obtain rfl:=List.eq_nil_of_length_eq_zero ab;exact Or.inl ⟨Or.inl trivial,rfl,g2,tx i3 g3⟩
 ·obtain⟨⟨⟨cN,rfl⟩,Z⟩,ab⟩:=a2;obtain rfl:=xU cN;obtain rfl:=List.eq_nil_of_length_eq_zero Z;obtain rfl:=List.eq_nil_of_length_eq_zero ab;exact Or.inl ⟨Or.inr trivial,rfl,g2,tx i3 g3⟩
 ·obtain⟨⟨⟨rfl,rfl⟩,Z⟩,ab⟩:=a2;obtain rfl:=List.eq_nil_of_length_eq_zero Z;obtain rfl:=List.eq_nil_of_length_eq_zero ab;exact Or.inr (Or.inl ⟨rfl,tx i3 g3,tx i4 g4⟩)
 ·obtain⟨⟨⟨⟨rfl,cN⟩,rfl⟩,Z⟩,ab⟩:=a2;obtain rfl:=xU cN;obtain rfl:=List.eq_nil_of_length_eq_zero Z;obtain rfl:=List.eq_nil_of_length_eq_zero ab;exact Or.inr (Or.inr (Or.inl ⟨Or.inl trivial,rfl,tx i3 g3⟩))
 ·obtain⟨⟨rfl,cN⟩,rfl⟩:=a2;obtain rfl:=xU cN;exact Or.inr (Or.inr (Or.inr (Or.inl ⟨rfl,tx i3 g3⟩)))
 ·obtain rfl:=List.eq_nil_of_length_eq_zero a2;exact Or.inr (Or.inr (Or.inr (Or.inr (Or.inl ⟨rfl,g2,a3,tx i3 g3,tx i4 g4⟩))))
 ·obtain⟨⟨⟨⟨rfl,cN⟩,rfl⟩,Z⟩,ab⟩:=a2;obtain rfl:=xU cN;obtain rfl:=List.eq_nil_of_length_eq_zero Z;obtain rfl:=List.eq_nil_of_length_eq_zero ab;exact Or.inr (Or.inr (Or.inl ⟨Or.inr trivial,rfl,tx i3 g3⟩))
 ·obtain⟨⟨⟨⟨rfl,aO⟩,cN⟩,Z⟩,ab⟩:=a2;obtain rfl:=xU aO;obtain rfl:=xU cN;obtain rfl:=List.eq_nil_of_length_eq_zero Z;obtain rfl:=List.eq_nil_of_length_eq_zero ab;exact Or.inr (Or.inr (Or.inr (Or.inr (Or.inr ⟨rfl,a3⟩))))
mutual
def ab0:∀(s:Stmt) (d:Int) (r:Nat×Int),(qC s d r).2=0→r.2=0∧kp s d=0
 |⟨Op,Name,Max,A,B,Body,bz⟩,d,r,h=>by
  simp only [qC]at h;have Z:=F_ Body _ _ (F_ bz _ _ h);simp only at Z
  by_cases h0:r.2=0
  ·rw [if_pos h0]at Z;exact⟨h0,Z⟩
  ·rw [if_neg h0]at Z;exact absurd Z h0
def F_:∀(l:List Stmt) (d:Int) (r:Nat×Int),(h5 l d r).2=0→r.2=0
 |[],d,r,h=>h
 |s::l,d,r,h=>by
  simp only [h5]at h;split at h
  ·exact h
  ·exact(ab0 s d r (F_ l d _ h)).1
end
mutual
def anK:∀(s:Stmt) (d:Nat) (r:Nat×Int),rQ s→(qC s (d:Int) r).1≠0→(qC s (d:Int) r).2=0→tw s d
 |⟨Op,Name,Max,A,B,Body,bz⟩,d,r,hi,Z,ab=>by
  have hs:=anJ hi (ab0 _ _ _ ab).2;obtain⟨i1,i2,i3,i4,i5,i6⟩:=(Ub _).1 hi;have hd:auz ((d:Int)+1)=((d+1:Nat):Int):=by rw [wr]<;>omega
  simp only [qC,hd]at Z ab;have cC:=F_ _ _ _ ab;have al:=u9 bz ((d+1:Nat):Int) (h5 Body ((d+1:Nat):Int) (ka B (ka A (r.1-1)),if r.2=0 then kp ⟨Op,Name,Max,A,B,Body,bz⟩ d else r.2))
  exact⟨by omega,hs.2,Mo Body (d+1) _ i5 (by omega) cC,Mo bz (d+1) _ i6 Z ab⟩
def Mo:∀(l:List Stmt) (d:Nat) (r:Nat×Int),rR l→(h5 l (d:Int) r).1≠0→(h5 l (d:Int) r).2=0→kr l d
 |[],d,r,_,_,_=>trivial
 |s::l,d,r,hi,Z,ab=>by
  simp only [h5]at Z ab;split at Z
  ·rename_i h;exact absurd h Z
  ·rename_i h;rw [if_neg h]at ab;have k:=u9 l (d:Int) (qC s (d:Int) r);exact⟨anK s d r hi.1 (by omega) (F_ _ _ _ ab),Mo l d _ hi.2 Z ab⟩
end
def Mp(p:bb):Prop:=gv p.Name=true∧qA p.Params=0∧kr p.Body 1
def Mq{p:bb}(hi:qJ p)(h:mF p=0):Mp p:=by
 unfold mF at h;split at h
 ·omega
 rename_i g1;split at h
 ·rename_i g;exact absurd h g
 rename_i g2;split at h
 ·omega
 rename_i g3;simp only [Bool.not_eq_false,Decidable.not_not]at g1 g2;exact⟨g1,g2,Mo p.Body 1 (401,0) hi.2.2.2 (λe=>g3 ⟨h,e⟩) h⟩
open Go Go.Ab Go.Proofs
def ind:Nat→aux
 | 0=>[]
 |d+1=>32::32::32::32::ind d
def cat:List aux→aux
 |[]=>[]
 |x::l=>x++cat l
def dt(d:Nat)(l:List aux):aux:=ind d++(cat l++[10])
abbrev e'(e:Expr):aux:=flat (bR e)
abbrev fM(e:Expr):List Token:=dd (bR e)
mutual
def ep:Stmt→Nat→aux
 |⟨Op,Name,Max,A,B,Body,bz⟩,d=>
  if Op=1 then dt d [[108,101,116,32],Name,[32,61,32],e' A,[59]]
  else if Op=2 then dt d [Name,[32,61,32],e' A,[59]]
  else if Op=3 then dt d [[112,117,116,32],e' A,[32,61,32],e' B,[59]]
  else if Op=4 then dt d [[100,101,108,101,116,101,32],e' A,[59]]
  else if Op=5 then dt d [[105,102,32],e' A,[32,123]]++(fB Body (d+1)++((if bz.length=0 then[]else dt d [[125,32,101,108,115,101,32,123]]++fB bz (d+1))++dt d [[125]]))
  else if Op=6 then dt d [[102,111,114,32],Name,[32,61,32],e' A,[32,116,111,32],e' B,[32,109,97,120,32],Lib.decDigits Max.toNat,[32,123]]++(fB Body (d+1)++dt d [[125]])
  else if Op=7 then dt d [[101,109,105,116,32],e' A,[59]]
  else dt d [[97,98,111,114,116,32],Lib.decDigits Max.toNat,[59]]
def fB:List Stmt→Nat→aux
 |[],_=>[]
 |s::l,d=>ep s d++fB l d
end
mutual
def eF:Stmt→List Token
 |⟨Op,Name,Max,A,B,Body,bz⟩=>
  if Op=1 then dC [108,101,116]::hU Name::bc [61]::(fM A++[bc [59]])
  else if Op=2 then hU Name::bc [61]::(fM A++[bc [59]])
  else if Op=3 then dC [112,117,116]::(fM A++bc [61]::(fM B++[bc [59]]))
  else if Op=4 then dC [100,101,108,101,116,101]::(fM A++[bc [59]])
  else if Op=5 then dC [105,102]::(fM A++bc [123]::(gc Body++bc [125]::(if bz.length=0 then[]else dC [101,108,115,101]::bc [123]::(gc bz++[bc [125]]))))
  else if Op=6 then dC [102,111,114]::hU Name::bc [61]::(fM A++dC [116,111]::(fM B++dC [109,97,120]::nU Max::bc [123]::(gc Body++[bc [125]])))
  else if Op=7 then dC [101,109,105,116]::(fM A++[bc [59]])
  else[dC [97,98,111,114,116],nU Max,bc [59]]
def gc:List Stmt→List Token
 |[]=>[]
 |s::l=>eF s++gc l
end
def pF{r:aux}{T:List Token}(h:eJ r T):∀d,eJ (ind d++r) T
 | 0=>h
 |d+1=>mI (mI (mI (mI (pF h d))))
def qK{w r:aux}{T:List Token}(hw:w∈pw)(h:eJ r T):eJ (w++32::r) (dC w::T):=lg (t:=dC w) (u' hw) Bv (mI h)
def Ga{w r:aux}{T:List Token}(hw:gv w=true)(hb:nT r)(h:eJ r T):eJ (w++r) (hU w::T):=lg (t:=hU w) (abw hw) (F2 (by simp [hU,nU]) hb) h
def ab1{n:Int}{r:aux}{T:List Token}(h0:0≤n)(Z:n≤9223372036854775807)(hb:nT r)(h:eJ r T):eJ (Lib.decDigits n.toNat++r) (nU n::T):=lg (t:=nU n) (abx h0 Z) (F2 (by simp [hU,nU]) hb) h
def Mr{r:aux}{T:List Token}(h:eJ r T):eJ (32::61::32::r) (bc [61]::T):=mI (lg (t:=bc [61]) (pB (by decide)) Bv (mI h))
def BG{r:aux}{T:List Token}(h:eJ r T):eJ (59::10::r) (bc [59]::T):=lg (t:=bc [59]) (pB (by decide)) TQ (TP h)
def Gb{r:aux}{T:List Token}(h:eJ r T):eJ (32::123::10::r) (bc [123]::T):=mI (lg (t:=bc [123]) (pB (by decide)) TQ (TP h))
def Ms{r:aux}{T:List Token}(d:Nat)(h:eJ r T):eJ (dt d [[125]]++r) (bc [125]::T):=by
 have e:dt d [[125]]++r=ind d++(125::10::r):=by simp [dt,cat]
 rw [e];exact pF (lg (t:=bc [125]) (pB (by decide)) TQ (TP h)) d
def rS{e:Expr}{r:aux}{T:List Token}(he:gO e)(hb:nT r)(h:eJ r T):eJ (e' e++r) (fM e++T):=abz e he r T hb h
mutual
def anL:∀(s:Stmt) (d dD:Nat),tw s dD→∀(r:aux) (T:List Token),eJ r T→eJ (ep s d++r) (eF s++T)
 |⟨Op,Name,Max,A,B,Body,bz⟩,d,dD,h,r,T,aH=>by
  obtain⟨_,hs,dc,fC⟩:=(va _ _).1 h;have xV:=Mt Body (d+1) _ dc;have Mu:=Mt bz (d+1) _ fC;rcases hs with⟨aw,ao,hn,aO⟩|⟨ao,aO,cN⟩|⟨aw,ao,aO⟩|⟨ao,aO⟩|⟨ao,hn,hm,aO,cN⟩|⟨ao,hm⟩
  ·simp only [Stmt.mk.injEq,true_and,and_true]at ao aw;obtain⟨rfl,rfl,rfl,rfl⟩:=ao;rcases aw with rfl|rfl
   ·have e:ep ⟨1,Name,0,A,ek,[],[]⟩ d++r=ind d++([108,101,116]++32::(Name++32::61::32::(e' A++59::10::r))):=by simp [ep,dt,cat]
    have e2:eF ⟨1,Name,0,A,ek,[],[]⟩++T=dC [108,101,116]::hU Name::bc [61]::(fM A++bc [59]::T):=by simp [eF]
    rw [e,e2];exact pF (qK (by decide) (Ga hn (jc rfl) (Mr (rS aO.1 (jc rfl) (BG aH))))) d
   ·have e:ep ⟨2,Name,0,A,ek,[],[]⟩ d++r=ind d++(Name++32::61::32::(e' A++59::10::r)):=by simp [ep,dt,cat]
    have e2:eF ⟨2,Name,0,A,ek,[],[]⟩++T=hU Name::bc [61]::(fM A++bc [59]::T):=by simp [eF]
    rw [e,e2];exact pF (Ga hn (jc rfl) (Mr (rS aO.1 (jc rfl) (BG aH)))) d
  ·simp only [Stmt.mk.injEq,true_and,and_true]at ao;obtain⟨rfl,rfl,rfl,rfl,rfl⟩:=ao;have e:ep ⟨3,[],0,A,B,[],[]⟩ d++r=ind d++([112,117,116]++32::(e' A++32::61::32::(e' B++59::10::r))):=by simp [ep,dt,cat]
   have e2:eF ⟨3,[],0,A,B,[],[]⟩++T=dC [112,117,116]::(fM A++bc [61]::(fM B++bc [59]::T)):=by simp [eF]
   rw [e,e2];exact pF (qK (by decide) (rS aO.1 (jc rfl) (Mr (rS cN.1 (jc rfl) (BG aH))))) d
  ·simp only [Stmt.mk.injEq,true_and,and_true]at ao aw;obtain⟨rfl,rfl,rfl,rfl,rfl⟩:=ao;rcases aw with rfl|rfl
   ·have e:ep ⟨4,[],0,A,ek,[],[]⟩ d++r=ind d++([100,101,108,101,116,101]++32::(e' A++59::10::r)):=by simp [ep,dt,cat]
    have e2:eF ⟨4,[],0,A,ek,[],[]⟩++T=dC [100,101,108,101,116,101]::(fM A++bc [59]::T):=by simp [eF]
    rw [e,e2];exact pF (qK (by decide) (rS aO.1 (jc rfl) (BG aH))) d
   ·have e:ep ⟨7,[],0,A,ek,[],[]⟩ d++r=ind d++([101,109,105,116]++32::(e' A++59::10::r)):=by simp [ep,dt,cat]
    have e2:eF ⟨7,[],0,A,ek,[],[]⟩++T=dC [101,109,105,116]::(fM A++bc [59]::T):=by simp [eF]
    rw [e,e2];exact pF (qK (by decide) (rS aO.1 (jc rfl) (BG aH))) d
  ·simp only [Stmt.mk.injEq,true_and,and_true]at ao;obtain⟨rfl,rfl,rfl,rfl⟩:=ao;by_cases aa:bz.length=0
   ·have e:ep ⟨5,[],0,A,ek,Body,bz⟩ d++r=ind d++([105,102]++32::(e' A++32::123::10::(fB Body (d+1)++(dt d [[125]]++r)))):=by
     simp only [ep,aa];simp [dt,cat]
    have e2:eF ⟨5,[],0,A,ek,Body,bz⟩++T=dC [105,102]::(fM A++bc [123]::(gc Body++bc [125]::T)):=by simp only [eF,aa];simp
    rw [e,e2];exact pF (qK (by decide) (rS aO.1 (jc rfl) (Gb (xV _ _ (Ms d aH))))) d
   ·have e:ep ⟨5,[],0,A,ek,Body,bz⟩ d++r=ind d++([105,102]++32::(e' A++32::123::10::(fB Body (d+1)++(ind d++(125::32::([101,108,115,101]++32::123::10::(fB bz (d+1)++(dt d [[125]]++r)))))))):=by
     simp only [ep,aa];simp [dt,cat]
    have e2:eF ⟨5,[],0,A,ek,Body,bz⟩++T=dC [105,102]::(fM A++bc [123]::(gc Body++bc [125]::dC [101,108,115,101]::bc [123]::(gc bz++bc [125]::T))):=by simp only [eF,aa];simp
    rw [e,e2];exact pF (qK (by decide) (rS aO.1 (jc rfl) (Gb (xV _ _ (pF (lg (t:=bc [125]) (pB (by decide)) Bv (mI (lg (t:=dC [101,108,115,101]) (u' (by decide)) Bv (Gb (Mu _ _ (Ms d aH)))))) d))))) d
  ·simp only [Stmt.mk.injEq,true_and,and_true]at ao;obtain⟨rfl,rfl⟩:=ao;have hm:1≤Max∧Max≤16:=hm
   have e:ep ⟨6,Name,Max,A,B,Body,[]⟩ d++r=ind d++([102,111,114]++32::(Name++32::61::32::(e' A++32::([116,111]++32::(e' B++32::([109,97,120]++32::(Lib.decDigits Max.toNat++32::123::10::(fB Body (d+1)++(dt d [[125]]++r))))))))):=by
    simp [ep,dt,cat]
   have e2:eF ⟨6,Name,Max,A,B,Body,[]⟩++T=dC [102,111,114]::hU Name::bc [61]::(fM A++dC [116,111]::(fM B++dC [109,97,120]::nU Max::bc [123]::(gc Body++bc [125]::T))):=by simp [eF]
   rw [e,e2];exact pF (qK (by decide) (Ga hn (jc rfl) (Mr (rS aO.1 (jc rfl) (mI (qK (by decide) (rS cN.1 (jc rfl) (mI (qK (by decide) (ab1 (by omega) (by omega) (jc rfl) (Gb (xV _ _ (Ms d aH))))))))))))) d
  ·simp only [Stmt.mk.injEq,true_and,and_true]at ao;obtain⟨rfl,rfl,rfl,rfl,rfl,rfl⟩:=ao;have hm:0≤Max∧Max≤999:=hm;have e:ep ⟨8,[],Max,ek,ek,[],[]⟩ d++r=ind d++([97,98,111,114,116]++32::(Lib.decDigits Max.toNat++59::10::r)):=by simp [ep,dt,cat]
   have e2:eF ⟨8,[],Max,ek,ek,[],[]⟩++T=dC [97,98,111,114,116]::nU Max::bc [59]::T:=by simp [eF]
   rw [e,e2];exact pF (qK (by decide) (ab1 (by omega) (by omega) (jc rfl) (BG aH))) d
def Mt:∀(l:List Stmt) (d dD:Nat),kr l dD→∀(r:aux) (T:List Token),eJ r T→eJ (fB l d++r) (gc l++T)
 |[],d,dD,h,r,T,aH=>aH
 |s::l,d,dD,h,r,T,aH=>by
  have:=anL s d dD h.1 _ _ (Mt l d dD h.2 r T aH)
  simp only [fB,gc,List.append_assoc];exact this
end
open Go Go.Ab Go.Proofs
def ab2(n:Nat)(s b:aux)(x:Int)(h:b.length+s.length≤1000000000):DE n s (fS b) x=some (((s.length:Nat):Int),fS (b++s)):=by
 unfold DE zl;rw [show(fS b).length+s.length=b.length+s.length by simp [fS],T2 (by omega)]
 simp [fS,ak,aK]
def anM(n:Nat)(b:aux)(x:Int)(h:b.length≤1000000000):Iw n 10 (fS b) x=some (fS (b++[10])):=by
 unfold Iw zl;rw [show(fS b).length+([10]:List Int).length=b.length+1 by simp [fS],T2 (by omega)]
 simp [fS,ak,aK]
def Uc:∀l m:List aux,cat (l++m)=cat l++cat m
 |[],m=>rfl
 |x::l,m=>by simp only [List.cons_append,cat,Uc l m,List.append_assoc]
def Ud:∀d,ind (d+1)=ind d++[32,32,32,32]
 | 0=>rfl
 |d+1=>by
  show 32::32::32::32::ind (d+1)=(32::32::32::32::ind d)++[32,32,32,32]
  rw [Ud d];rfl
def Gc:∀d,(ind d).length=4*d
 | 0=>rfl
 |d+1=>by simp only [ind,aum,Gc d];omega
def anN(n:Nat)(parts:List aux)(d:Nat)(b:aux)(aa:b.length+(cat parts).length≤1000000000)(hp:parts.length≤1000):∀m i,parts.length<i+m→i≤parts.length→
 DF n parts (d:Int) m (fS (b++cat (parts.take i))) (i:Int)=some (fS (b++(cat parts++[10]))):=by
 intro m;induction m with
 |zero=>intro i Z ab;omega
 |succ m aG=>
  intro i Z ab;have hc:cat parts=cat (parts.take i)++cat (parts.drop i):=by rw [←Uc,List.take_append_drop]
  have gN:(cat parts).length=(cat (parts.take i)).length+(cat (parts.drop i)).length:=by rw [hc,auq]
  simp only [DF,PY,PX,aup,auo];by_cases hi:i<parts.length
  ·rw [e9 parts i default hi]at gN;simp only [cat,auq]at gN;simp only [hi,aug,aui,bw hi,aK];rw [ab2 n _ _ _ (by rw [auq];omega),bm (by omega)]
   simp only [ak];have:=aG (i+1) (by omega) (by omega)
   rw [xP parts i hi,Uc]at this;simp only [cat,List.append_nil]at this;rw [List.append_assoc];exact this
  ·simp only [hi,auh,auj];obtain rfl:i=parts.length:=by omega
   rw [List.take_length,anM n _ _ (by rw [auq];omega)]
   simp only [ak,List.append_assoc]
def nX{n:Nat}(parts:List aux)(d:Nat)(b:aux)(aa:b.length+(cat parts).length≤900000000)(hp:parts.length≤10)(hd:d≤100)(hn:200≤n):
 mx n parts (fS b) (d:Int)=some (fS (b++dt d parts)):=by
 have gR:∀m i,d<i+m→i≤d→DG n parts (d:Int) m (fS (b++ind i)) (i:Int)=some (fS (b++dt d parts)):=by
  intro m;induction m with
  |zero=>intro i Z ab;omega
  |succ m aG=>
   intro i Z ab;have NG:=Gc i;simp only [DG,P0,PZ,aup];by_cases hi:i<d
   ·simp only [hi,aug,aui];rw [ab2 n _ _ _ (by simp only [auq,aum,aun];omega),bm (by omega)]
    simp only [ak];have:=aG (i+1) (by omega) (by omega)
    rw [Ud]at this;rw [List.append_assoc];exact this
   ·simp only [hi,auh,auj];obtain rfl:i=d:=by omega
    have:=anN n parts i (b++ind i) (by rw [auq];omega) (by omega) n 0 (by omega) (by omega)
    simp only [List.take_zero,cat,List.append_nil]at this;rw [show((0:Nat):Int)=0 from rfl]at this
    rw [this,dt,List.append_assoc]
 have:=gR n 0 (by omega) (by omega)
 simp only [ind,List.append_nil]at this;exact this
def lP(d:Nat)(l:List aux):(dt d l).length=4*d+(cat l).length+1:=by
 unfold dt;simp only [auq,Gc,aum,aun];omega
def mM{e:Expr}(h:iO e):(e' e).length≤4*da e:=q6 (fG e) e (Nat.le_refl _) h.1
mutual
def ab3:∀(s:Stmt) (d:Nat),tw s d→(ep s d).length≤4*fst s
 |⟨Op,Name,Max,A,B,Body,bz⟩,d,h=>by
  obtain⟨hd,hs,dc,fC⟩:=(va _ _).1 h;have xV:=oR Body (d+1) dc;have Mu:=oR bz (d+1) fC;rcases hs with⟨aw,ao,hn,aO⟩|⟨ao,aO,cN⟩|⟨aw,ao,aO⟩|⟨ao,aO⟩|⟨ao,hn,hm,aO,cN⟩|⟨ao,hm⟩
  ·simp only [Stmt.mk.injEq,true_and,and_true]at ao aw;obtain⟨rfl,rfl,rfl,rfl⟩:=ao;have Z:=mM aO;have ab:=pE hn;simp only at Z ab
   rcases aw with rfl|rfl
   ·rw [show ep ⟨1,Name,0,A,ek,[],[]⟩ d=dt d [[108,101,116,32],Name,[32,61,32],e' A,[59]]by simp [ep],lP]
    simp only [cat,fst,auq,aum,aun];omega
   ·rw [show ep ⟨2,Name,0,A,ek,[],[]⟩ d=dt d [Name,[32,61,32],e' A,[59]]by simp [ep],lP]
    simp only [cat,fst,auq,aum,aun];omega
  ·simp only [Stmt.mk.injEq,true_and,and_true]at ao;obtain⟨rfl,rfl,rfl,rfl,rfl⟩:=ao;have Z:=mM aO;have ab:=mM cN;simp only at Z ab
   rw [show ep ⟨3,[],0,A,B,[],[]⟩ d=dt d [[112,117,116,32],e' A,[32,61,32],e' B,[59]]by simp [ep],lP]
   simp only [cat,fst,auq,aum,aun];omega
  ·simp only [Stmt.mk.injEq,true_and,and_true]at ao aw;obtain⟨rfl,rfl,rfl,rfl,rfl⟩:=ao;have Z:=mM aO;simp only at Z
   rcases aw with rfl|rfl
   ·rw [show ep ⟨4,[],0,A,ek,[],[]⟩ d=dt d [[100,101,108,101,116,101,32],e' A,[59]]by simp [ep],lP]
    simp only [cat,fst,auq,aum,aun];omega
   ·rw [show ep ⟨7,[],0,A,ek,[],[]⟩ d=dt d [[101,109,105,116,32],e' A,[59]]by simp [ep],lP]
    simp only [cat,fst,auq,aum,aun];omega
  ·simp only [Stmt.mk.injEq,true_and,and_true]at ao;obtain⟨rfl,rfl,rfl,rfl⟩:=ao;have Z:=mM aO;simp only at Z
   have ab:(ep ⟨5,[],0,A,ek,Body,bz⟩ d).length≤(dt d [[105,102,32],e' A,[32,123]]).length+((fB Body (d+1)).length+(((dt d [[125,32,101,108,115,101,32,123]]).length+(fB bz (d+1)).length)+(dt d [[125]]).length)):=by
    by_cases aa:bz.length=0
    ·simp [ep,aa]
    ·simp [ep,aa];omega
   simp only [lP,cat,auq,aum,aun]at ab;simp only [fst];omega
  ·simp only [Stmt.mk.injEq,true_and,and_true]at ao;obtain⟨rfl,rfl⟩:=ao;have hm:1≤Max∧Max≤16:=hm;have Z:=mM aO;have ab:=mM cN;have aj:=pE hn;have aC:=BC Max (by omega) (by omega)
   simp only at Z ab aj
   have aT:ep ⟨6,Name,Max,A,B,Body,[]⟩ d=dt d [[102,111,114,32],Name,[32,61,32],e' A,[32,116,111,32],e' B,[32,109,97,120,32],Lib.decDigits Max.toNat,[32,123]]++(fB Body (d+1)++dt d [[125]]):=by simp [ep]
   rw [aT];simp only [lP,cat,fst,auq,aum,aun];omega
  ·simp only [Stmt.mk.injEq,true_and,and_true]at ao;obtain⟨rfl,rfl,rfl,rfl,rfl,rfl⟩:=ao;have hm:0≤Max∧Max≤999:=hm;have aC:=BC Max (by omega) (by omega)
   rw [show ep ⟨8,[],Max,ek,ek,[],[]⟩ d=dt d [[97,98,111,114,116,32],Lib.decDigits Max.toNat,[59]]by simp [ep],lP]
   simp only [cat,fst,auq,aum,aun];omega
def oR:∀(l:List Stmt) (d:Nat),kr l d→(fB l d).length≤4*dq l
 |[],d,h=>Nat.le_refl _
 |s::l,d,h=>by
  have Z:=ab3 s d h.1;have ab:=oR l d h.2;simp only [fB,dq,auq];omega
end
def ab4(n:Nat)(i:Int)(h0:0≤i)(Z:i≤9223372036854775807):wL n i=some (Lib.decDigits i.toNat):=abP n i h0 Z
open Go Go.Ab Go.Proofs
def anO(n:Nat):rv (n+1)=IE n (rv n) (wN n) (wO n):=rfl
def anP(n:Nat):wN (n+1)=IG n (rv n) (wN n) (wO n):=rfl
def anQ(n:Nat):wO (n+1)=IH n (rv n) (wN n) (wO n):=rfl
def tz{n:Nat}{e:Expr}(h:iO e)(hn:300≤n)(aY:da e≤1000000):l' n e=some (e' e):=anw (fG e) e n (Nat.le_refl _) h.1 (by have:=h.2;omega) aY
def tA(n:Nat)(l:List Stmt)(d:Nat)(b:aux):Prop:=rv n l (fS b) (d:Int)=some (fS (b++fB l (d+1)),(d:Int))
def anR{n d:Nat}{b:aux}{A:Expr}{Body bz:List Stmt}(aO:iO A)(aY:da A≤300000)(hd:d≤12)(hn:400≤n)(hb:b.length≤10000000)(fm:(fB Body (d+1)).length≤10000000)(eT:(fB bz (d+1)).length≤10000000)
 (cN:∀bH:aux,bH.length≤b.length+4*da A+100→tA n Body d bH) (b1:∀bH:aux,bH.length≤b.length+4*da A+200+(fB Body (d+1)).length→tA n bz d bH):
 wN (n+1) ⟨5,[],0,A,ek,Body,bz⟩ (fS b) (d:Int)=some (fS (b++ep ⟨5,[],0,A,ek,Body,bz⟩ d),(d:Int)):=by
 have Z:=mM aO;rw [anP];simp only [IG,IF,iN];rw [tz aO (by omega) (by omega)]
 simp only [ak];rw [nX _ d b (by simp only [cat,auq,aum,aun];omega) (by simp) (by omega) (by omega)]
 simp only [ak];have e1:=cN (b++dt d [[105,102,32],e' A,[32,123]]) (by simp only [auq,lP,cat,aum,aun];omega)
 unfold tA at e1;rw [e1];simp only [ak];by_cases aa:bz.length=0
 ·rw [show decide (0<((bz.length:Nat):Int))=false from decide_eq_false (by omega)]
  simp only [auj];rw [nX _ d _ (by simp only [auq,lP,cat,aum,aun];omega) (by simp) (by omega) (by omega)]
  simp only [ak];have:ep ⟨5,[],0,A,ek,Body,bz⟩ d=dt d [[105,102,32],e' A,[32,123]]++(fB Body (d+1)++dt d [[125]]):=by simp [ep,aa]
  rw [this];simp only [List.append_assoc]
 ·rw [show decide (0<((bz.length:Nat):Int))=true from decide_eq_true (by omega)]
  simp only [aui];rw [nX _ d _ (by simp only [auq,lP,cat,aum,aun];omega) (by simp) (by omega) (by omega)]
  simp only [ak];have e2:=b1 (b++dt d [[105,102,32],e' A,[32,123]]++fB Body (d+1)++dt d [[125,32,101,108,115,101,32,123]]) (by simp only [auq,lP,cat,aum,aun];omega)
  unfold tA at e2;rw [e2];simp only [ak];rw [nX _ d _ (by simp only [auq,lP,cat,aum,aun];omega) (by simp) (by omega) (by omega)]
  simp only [ak];have:ep ⟨5,[],0,A,ek,Body,bz⟩ d=dt d [[105,102,32],e' A,[32,123]]++(fB Body (d+1)++((dt d [[125,32,101,108,115,101,32,123]]++fB bz (d+1))++dt d [[125]])):=by simp [ep,aa]
  rw [this];simp only [List.append_assoc]
def anS{n d:Nat}{b:aux}{Name:aux}{Max:Int}{A B:Expr}{Body:List Stmt}(aO:iO A)(ab5:iO B)(aY:da A≤300000)(tY:da B≤300000)(aI:gv Name=true)(hm:1≤Max∧Max≤16)(hd:d≤12)(hn:400≤n)(hb:b.length≤10000000)(fm:(fB Body (d+1)).length≤10000000)
 (cN:∀bH:aux,bH.length≤b.length+4*da A+4*da B+120→tA n Body d bH):
 wO (n+1) ⟨6,Name,Max,A,B,Body,[]⟩ (fS b) (d:Int)=some (fS (b++ep ⟨6,Name,Max,A,B,Body,[]⟩ d),(d:Int)):=by
 have Z:=mM aO;have ab:=mM ab5;have aj:=pE aI;have aC:=BC Max (by omega) (by omega)
 rw [anQ];simp only [IH,iN];rw [tz aO (by omega) (by omega),tz ab5 (by omega) (by omega),ab4 n Max (by omega) (by omega)]
 simp only [ak];rw [nX _ d b (by simp only [cat,auq,aum,aun];omega) (by simp) (by omega) (by omega)]
 simp only [ak];have e1:=cN (b++dt d [[102,111,114,32],Name,[32,61,32],e' A,[32,116,111,32],e' B,[32,109,97,120,32],Lib.decDigits Max.toNat,[32,123]]) (by simp only [auq,lP,cat,aum,aun];omega)
 unfold tA at e1;rw [e1];simp only [ak];rw [nX _ d _ (by simp only [auq,lP,cat,aum,aun];omega) (by simp) (by omega) (by omega)]
 simp only [ak];have:ep ⟨6,Name,Max,A,B,Body,[]⟩ d=dt d [[102,111,114,32],Name,[32,61,32],e' A,[32,116,111,32],e' B,[32,109,97,120,32],Lib.decDigits Max.toNat,[32,123]]++(fB Body (d+1)++dt d [[125]]):=by simp [ep]
 rw [this];simp only [List.append_assoc]
def Ue:∀(l:List Stmt) (i d:Nat),i<l.length→kr l d→tw (l.getD i default) d
 |[],i,d,h,_=>by simp at h
 |x::l,0,d,h,aa=>aa.1
 |x::l,i+1,d,h,aa=>by simp only [List.getD_cons_succ];exact Ue l i d (by simpa using h) aa.2
def Uf:∀(l m:List Stmt) (d:Nat),kr (l++m) d↔kr l d∧kr m d
 |[],m,d=>by simp [kr]
 |x::l,m,d=>by simp only [List.cons_append,kr,Uf l m d,and_assoc]
def Ug:∀(l m:List Stmt) (d:Nat),fB (l++m) d=fB l d++fB m d
 |[],m,d=>rfl
 |x::l,m,d=>by simp only [List.cons_append,fB,Ug l m d,List.append_assoc]
def anT:∀(n:Nat) (l:List Stmt) (d:Nat) (b:aux),kr l (d+1)→d≤12→dq l≤300000→2*dq l+500≤n→b.length+4*dq l≤9000000→tA n l d b:=by
 intro n;induction n using Nat.strongRecOn with
 |_ n aG=>
  intro l d b cF hd aY hn hb;obtain⟨n,rfl⟩:∃k,n=k+2:=⟨n-2,by omega⟩
  have hlen:=rN l;unfold tA;rw [anO];unfold IE;rw [bm (by omega)]
  have gR:∀m i,l.length<i+m→i≤l.length→DL (n+1) (rv (n+1)) (wN (n+1)) (wO (n+1)) l m (fS (b++fB (l.take i) (d+1))) ((d+1:Nat):Int) (i:Int)=some (fS (b++fB l (d+1)),(d:Int)):=by
   intro m;induction m with
   |zero=>intro i Z ab;omega
   |succ m la=>
    intro i Z ab;simp only [DL,Qd,Qc,aup,auo,iN,mC];by_cases hi:i<l.length
    ·simp only [hi,aug,aui,bw hi,aK];have dy:=Ue l i (d+1) hi cF;have xL:kr (l.take i) (d+1):=((Uf (l.take i) (l.drop i) (d+1)).1 (by rw [List.take_append_drop];exact cF)).1
     have p6:=oR _ _ xL
     have oA:dq l=dq (l.take i)+(fst (l.getD i default)+1+dq (l.drop (i+1))):=by
      have:dq l=dq (l.take i++l.drop i):=by rw [List.take_append_drop]
      rw [TH,e9 l i default hi]at this;simpa only [dq]using this
     have gn:=la (i+1) (by omega) (by omega)
     rw [xP l i hi,Ug,←List.append_assoc]at gn;simp only [fB,List.append_nil]at gn;have nu:(b++fB (l.take i) (d+1)).length≤b.length+4*dq (l.take i):=by rw [auq];omega
     generalize b++fB (l.take i) (d+1)=BH at gn nu
     rw [bm (by omega)]
     generalize l.getD i default=s at dy oA gn
     have lZ:=fst_eq s;obtain⟨jj,hs,dc,fC⟩:=(va _ _).1 dy;obtain⟨Op,Name,Max,A,B,Body,bz⟩:=s;simp only at lZ dc fC
     rcases hs with⟨aw,ao,aI,aO⟩|⟨ao,aO,cN⟩|⟨aw,ao,aO⟩|⟨ao,aO⟩|⟨ao,aI,hm,aO,cN⟩|⟨ao,hm⟩
     ·simp only [Stmt.mk.injEq,true_and,and_true]at ao aw;obtain⟨rfl,rfl,rfl,rfl⟩:=ao;have aj:=mM aO;have aC:=pE aI;simp only at aj aC
      rcases aw with rfl|rfl
      ·simp only [show rq (n+1) 1=some (.inl ())from rfl,ak,ik.on,P',iN]
       rw [tz aO (by omega) (by show da A≤_;omega)]
       simp only [ak];rw [nX _ (d+1) BH (by simp only [cat,auq,aum,aun];omega) (by simp) (by omega) (by omega)]
       simp only [ak];rw [show ep ⟨1,Name,0,A,ek,[],[]⟩ (d+1)=dt (d+1) [[108,101,116,32],Name,[32,61,32],e' A,[59]]by simp [ep]]at gn
       exact gn
      ·simp only [show rq (n+1) 2=some (.inr (.inl ()))from rfl,ak,ik.on,P9,iN]
       rw [tz aO (by omega) (by show da A≤_;omega)]
       simp only [ak];rw [nX _ (d+1) BH (by simp only [cat,auq,aum,aun];omega) (by simp) (by omega) (by omega)]
       simp only [ak];rw [show ep ⟨2,Name,0,A,ek,[],[]⟩ (d+1)=dt (d+1) [Name,[32,61,32],e' A,[59]]by simp [ep]]at gn
       exact gn
     ·simp only [Stmt.mk.injEq,true_and,and_true]at ao;obtain⟨rfl,rfl,rfl,rfl,rfl⟩:=ao;have aj:=mM aO;have aC:=mM cN;simp only at aj aC
      simp only [show rq (n+1) 3=some (.inr (.inr (.inl ())))from rfl,ak,ik.on,Qa,iN]
      rw [tz aO (by omega) (by show da A≤_;omega),tz cN (by omega) (by show da B≤_;omega)]
      simp only [ak];rw [nX _ (d+1) BH (by simp only [cat,auq,aum,aun];omega) (by simp) (by omega) (by omega)]
      simp only [ak];rw [show ep ⟨3,[],0,A,B,[],[]⟩ (d+1)=dt (d+1) [[112,117,116,32],e' A,[32,61,32],e' B,[59]]by simp [ep]]at gn
      exact gn
     ·simp only [Stmt.mk.injEq,true_and,and_true]at ao aw;obtain⟨rfl,rfl,rfl,rfl,rfl⟩:=ao;have aj:=mM aO;simp only at aj
      rcases aw with rfl|rfl
      ·simp only [show rq (n+1) 4=some (.inr (.inr (.inr (.inl ()))))from rfl,ak,ik.on,Qb,iN]
       rw [tz aO (by omega) (by show da A≤_;omega)]
       simp only [ak];rw [nX _ (d+1) BH (by simp only [cat,auq,aum,aun];omega) (by simp) (by omega) (by omega)]
       simp only [ak];rw [show ep ⟨4,[],0,A,ek,[],[]⟩ (d+1)=dt (d+1) [[100,101,108,101,116,101,32],e' A,[59]]by simp [ep]]at gn
       exact gn
      ·simp only [show rq (n+1) 7=some (.inr (.inr (.inr (.inr (.inr (.inr (.inl ())))))))from rfl,ak,ik.on,P_,iN]
       rw [tz aO (by omega) (by show da A≤_;omega)]
       simp only [ak];rw [nX _ (d+1) BH (by simp only [cat,auq,aum,aun];omega) (by simp) (by omega) (by omega)]
       simp only [ak];rw [show ep ⟨7,[],0,A,ek,[],[]⟩ (d+1)=dt (d+1) [[101,109,105,116,32],e' A,[59]]by simp [ep]]at gn
       exact gn
     ·simp only [Stmt.mk.injEq,true_and,and_true]at ao;obtain⟨rfl,rfl,rfl,rfl⟩:=ao;have fm:=oR _ _ dc;have eT:=oR _ _ fC;simp only [show rq (n+1) 5=some (.inr (.inr (.inr (.inr (.inl ())))))from rfl,ak,ik.on]
      rw [anR (A:=A) aO (by show da A≤_;omega) (by omega) (by omega) (by omega) (by omega) (by omega)
       (λbH bY=>aG n (by omega) Body (d+1) bH dc (by omega) (by omega) (by omega) (by omega)) (λbH bY=>aG n (by omega) bz (d+1) bH fC (by omega) (by omega) (by omega) (by omega))]
      exact gn
     ·simp only [Stmt.mk.injEq,true_and,and_true]at ao;obtain⟨rfl,rfl⟩:=ao;have fm:=oR _ _ dc;simp only [show rq (n+1) 6=some (.inr (.inr (.inr (.inr (.inr (.inl ()))))))from rfl,ak,ik.on]
      rw [anS (A:=A) (B:=B) aO cN (by show da A≤_;omega) (by show da B≤_;omega) aI hm (by omega) (by omega) (by omega) (by omega)
       (λbH bY=>aG n (by omega) Body (d+1) bH dc (by omega) (by omega) (by omega) (by omega))]
      exact gn
     ·simp only [Stmt.mk.injEq,true_and,and_true]at ao;obtain⟨rfl,rfl,rfl,rfl,rfl,rfl⟩:=ao;have hm:0≤Max∧Max≤999:=hm;have aC:=BC Max (by omega) (by omega)
      simp only [show rq (n+1) 8=some (.inr (.inr (.inr (.inr (.inr (.inr (.inr ())))))))from rfl,ak,ik.on,P1,iN]
      rw [ab4 _ Max (by omega) (by omega)]
      simp only [ak];rw [nX _ (d+1) BH (by simp only [cat,auq,aum,aun];omega) (by simp) (by omega) (by omega)]
      simp only [ak];rw [show ep ⟨8,[],Max,ek,ek,[],[]⟩ (d+1)=dt (d+1) [[97,98,111,114,116,32],Lib.decDigits Max.toNat,[59]]by simp [ep]]at gn
      exact gn
    ·simp only [hi,auh,auj];obtain rfl:i=l.length:=by omega
     rw [List.take_length,show auz (((d+1:Nat):Int)-1)=(d:Int)by rw [wr]<;>omega]
  have:=gR (n+1) 0 (by omega) (by omega)
  simp only [List.take_zero,fB,List.append_nil]at this;exact this
open Go Go.Ab Go.Proofs
section
variable {l:List Token}
theorem ni{i n:Nat}{t:Token}{T R:List Token}{w:aux}(aa:l.length≤1000000000)(aO:cl l i (t::T) R)(h:f8 [t] w=true):kI n w ⟨l,(i:Int)⟩=some (true,((i+1:Nat):Int)):=by
 have:=aO.lt
 rw [FV n l i w (by omega),aO.is,show f8 ((t::T)++R) w=true from h];rfl
theorem hz{i n:Nat}{t:Token}{T R:List Token}{w:aux}(aa:l.length≤1000000000)(aO:cl l i (t::T) R)(h:f8 [t] w=false):kI n w ⟨l,(i:Int)⟩=some (false,((i:Nat):Int)):=by
 have:=aO.lt
 rw [FV n l i w (by omega),aO.is,show f8 ((t::T)++R) w=false from h];rfl
theorem qL{i n:Nat}{t:Token}{T R:List Token}{w:aux}(aa:l.length≤1000000000)(aO:cl l i (t::T) R)(h:f8 [t] w=true):kJ n w ⟨l,(i:Int)⟩=some (.ret () ((i+1:Nat):Int)):=by
 have:=aO.lt
 rw [Bs n l i w (by omega) (by omega),aO.is,show f8 ((t::T)++R) w=true from h];rfl
theorem BI{i n:Nat}{T R:List Token}{s:Stmt}(aa:l.length≤1000000000)(aO:cl l i (bc [59]::T) R):rB n s ⟨l,(i:Int)⟩=some (.ret s ((i+1:Nat):Int)):=by
 have:=aO.lt
 rw [amh n s l i (by omega) (by omega),aO.is];rfl
theorem xW{i n:Nat}{t:Token}{T R:List Token}{kd:Int}(aa:l.length≤1000000000)(aO:cl l i (t::T) R)(h:t.Kind=kd):∃u:Token,qo n kd ⟨l,(i:Int)⟩=some (.ret u ((i+1:Nat):Int))∧u.Text=t.Text∧u.N=t.N:=by
 have:=aO.lt
 obtain⟨Z,ab,aj⟩:=Mj aO.hd;refine⟨l.getD i default,?_,ab,aj⟩
 rw [amg n l i kd aa (by omega),if_pos ⟨this,by rw [Z,h]⟩]
theorem rT{i n:Nat}{e:Expr}{R:List Token}(aa:l.length≤1000000000)(hg:ld l)(he:iO e)(aO:cl l i (fM e) R)(gp:jd R<1)(hn:24*l.length+100≤n):
 h2 n 1 0 ⟨l,(i:Int)⟩=some (.ret e ((i+(fM e).length:Nat):Int)):=by
 have Wb:=TU e.Op;have e1:eX e 1=fM e:=by unfold eX fA;rw [if_neg (by omega)]
 have di:=Mi e 1 he.1;have b1:=(anm aa hg (fG e) e (Nat.le_refl _) he.1).1 1 i 0 R (by omega) (by omega) (by rw [e1];exact aO) gp (Or.inl (by have:=he.2;omega))
 rw [e1]at b1 di;have:=aO.le di
 exact b1 n (by omega)
theorem mc{α:Type}{x:α}{a b:Nat}(h:a=b):(some (.ret x (a:Int)):Option (aE α Int))=some (.ret x (b:Int)):=by rw [h]
theorem ab6{s:Stmt}{d:Nat}(h:tw s d)(R:List Token):f8 (eF s++R) [125]=false∧f8 (eF s++R) [101,108,115,101]=false:=by
 obtain⟨_,hs,_,_⟩:=(va _ _).1 h;obtain⟨Op,Name,Max,A,B,Body,bz⟩:=s;rcases hs with⟨aw,ao,hn,aO⟩|⟨ao,aO,cN⟩|⟨aw,ao,aO⟩|⟨ao,aO⟩|⟨ao,hn,hm,aO,cN⟩|⟨ao,hm⟩
 ·simp only at aw
  rcases aw with rfl|rfl<;>simp [eF,f8,dC,hU]
 ·simp only [Stmt.mk.injEq,true_and,and_true]at ao;obtain⟨rfl,rfl,rfl,rfl,rfl⟩:=ao;simp [eF,f8,dC,hU]
 ·simp only at aw
  rcases aw with rfl|rfl<;>simp [eF,f8,dC,hU]
 ·simp only [Stmt.mk.injEq,true_and,and_true]at ao;obtain⟨rfl,rfl,rfl,rfl⟩:=ao;simp [eF,f8,dC,hU]
 ·simp only [Stmt.mk.injEq,true_and,and_true]at ao;obtain⟨rfl,rfl⟩:=ao;simp [eF,f8,dC,hU]
 ·simp only [Stmt.mk.injEq,true_and,and_true]at ao;obtain⟨rfl,rfl,rfl,rfl,rfl,rfl⟩:=ao;simp [eF,f8,dC,hU]
theorem Gd(R:List Token):jd (bc [59]::R)<1:=by have:jd (bc [59]::R)=0:=rfl;omega
theorem anU(R:List Token):jd (bc [61]::R)<1:=by have:jd (bc [61]::R)=0:=rfl;omega
theorem ab7(R:List Token):jd (bc [123]::R)<1:=by have:jd (bc [123]::R)=0:=rfl;omega
theorem anV(R:List Token):jd (dC [116,111]::R)<1:=by have:jd (dC [116,111]::R)=0:=rfl;omega
theorem anW(R:List Token):jd (dC [109,97,120]::R)<1:=by have:jd (dC [109,97,120]::R)=0:=rfl;omega
def lQ(l:List Token)(n d i:Nat)(s:Stmt):Prop:=xh n (d:Int) ⟨l,(i:Int)⟩=some (.ret s ((i+(eF s).length:Nat):Int))
def rU(l:List Token)(n d i:Nat)(b:List Stmt):Prop:=rD n (d:Int) ⟨l,(i:Int)⟩=some (.ret b ((i+(gc b).length+2:Nat):Int))
theorem anX{i n d:Nat}{Name:aux}{A:Expr}{R:List Token}(aa:l.length≤1000000000)(hg:ld l)(aH:iO A)(aO:cl l i (eF ⟨1,Name,0,A,ek,[],[]⟩) R)(hn:24*l.length+100≤n):lQ l (n+1) d i ⟨1,Name,0,A,ek,[],[]⟩:=by
 have e:eF ⟨1,Name,0,A,ek,[],[]⟩=dC [108,101,116]::hU Name::bc [61]::(fM A++[bc [59]]):=by simp [eF]
 unfold lQ;rw [e]at aO ⊢;have Z:=aO.fU;have ab:=Z.fU;have aj:=ab.fU;obtain⟨u,t1,t2,t3⟩:=xW (n:=n) (kd:=1) aa Z rfl;rw [tn];unfold pn;rw [ni aa aO rfl];simp only [ak,aui];rw [t1];simp only [ak,aE.on];rw [qL aa ab rfl];simp only [ak,aE.on];rw [rT aa hg aH aj.lO (Gd _) hn];simp only [ak,aE.on];rw [BI aa aj.kq];simp only [ak,aE.on,iN,mC,t2];exact mc (by simp only [aum,auq,aun];omega)
theorem anY{i n d:Nat}{Name:aux}{A:Expr}{R:List Token}(aa:l.length≤1000000000)(hg:ld l)(aH:iO A)(aO:cl l i (eF ⟨2,Name,0,A,ek,[],[]⟩) R)(hn:24*l.length+100≤n):lQ l (n+1) d i ⟨2,Name,0,A,ek,[],[]⟩:=by
 have e:eF ⟨2,Name,0,A,ek,[],[]⟩=hU Name::bc [61]::(fM A++[bc [59]]):=by simp [eF]
 unfold lQ;rw [e]at aO ⊢;have ab:=aO.fU;have aj:=ab.fU;obtain⟨u,t1,t2,t3⟩:=xW (n:=n) (kd:=1) aa aO rfl;rw [tn];unfold pn;simp only [hz aa aO (show f8 [hU Name] _=false from rfl),ak,auj]
 rw [t1];simp only [ak,aE.on];rw [qL aa ab rfl];simp only [ak,aE.on];rw [rT aa hg aH aj.lO (Gd _) hn];simp only [ak,aE.on];rw [BI aa aj.kq];simp only [ak,aE.on,iN,mC,t2];exact mc (by simp only [aum,auq,aun];omega)
theorem anZ{i n d:Nat}{A B:Expr}{R:List Token}(aa:l.length≤1000000000)(hg:ld l)(aH:iO A)(qF:iO B)(aO:cl l i (eF ⟨3,[],0,A,B,[],[]⟩) R)(hn:24*l.length+100≤n):lQ l (n+1) d i ⟨3,[],0,A,B,[],[]⟩:=by
 have e:eF ⟨3,[],0,A,B,[],[]⟩=dC [112,117,116]::(fM A++bc [61]::(fM B++[bc [59]])):=by simp [eF]
 unfold lQ;rw [e]at aO ⊢;have Z:=aO.fU;have ab:=Z.kq;have aj:=ab.fU;rw [tn];unfold pn;rw [hz aa aO rfl];simp only [ak,auj];rw [ni aa aO rfl];simp only [ak,aui];rw [rT aa hg aH Z.lO (anU _) hn];simp only [ak,aE.on];rw [qL aa ab rfl];simp only [ak,aE.on];rw [rT aa hg qF aj.lO (Gd _) hn];simp only [ak,aE.on];rw [BI aa aj.kq];simp only [ak,aE.on,iN,mC];exact mc (by simp only [aum,auq,aun];omega)
theorem an0{i n d:Nat}{A:Expr}{R:List Token}(aa:l.length≤1000000000)(hg:ld l)(aH:iO A)(aO:cl l i (eF ⟨4,[],0,A,ek,[],[]⟩) R)(hn:24*l.length+100≤n):lQ l (n+1) d i ⟨4,[],0,A,ek,[],[]⟩:=by
 have e:eF ⟨4,[],0,A,ek,[],[]⟩=dC [100,101,108,101,116,101]::(fM A++[bc [59]]):=by simp [eF]
 unfold lQ;rw [e]at aO ⊢;have Z:=aO.fU;rw [tn];unfold pn;rw [hz aa aO rfl];simp only [ak,auj];rw [hz aa aO rfl];simp only [ak,auj];rw [ni aa aO rfl];simp only [ak,aui];rw [rT aa hg aH Z.lO (Gd _) hn];simp only [ak,aE.on];rw [BI aa Z.kq];simp only [ak,aE.on,iN,mC];exact mc (by simp only [aum,auq,aun];omega)
theorem an1{i n d:Nat}{A:Expr}{R:List Token}(aa:l.length≤1000000000)(hg:ld l)(aH:iO A)(aO:cl l i (eF ⟨7,[],0,A,ek,[],[]⟩) R)(hn:24*l.length+100≤n):lQ l (n+1) d i ⟨7,[],0,A,ek,[],[]⟩:=by
 have e:eF ⟨7,[],0,A,ek,[],[]⟩=dC [101,109,105,116]::(fM A++[bc [59]]):=by simp [eF]
 unfold lQ;rw [e]at aO ⊢;have Z:=aO.fU;rw [tn];unfold pn;rw [hz aa aO rfl];simp only [ak,auj];rw [hz aa aO rfl];simp only [ak,auj];rw [hz aa aO rfl];simp only [ak,auj];rw [ni aa aO rfl];simp only [ak,aui];rw [rT aa hg aH Z.lO (Gd _) hn];simp only [ak,aE.on];rw [BI aa Z.kq];simp only [ak,aE.on,iN,mC];exact mc (by simp only [aum,auq,aun];omega)
theorem an2{i n d:Nat}{Max:Int}{R:List Token}(aa:l.length≤1000000000)(aO:cl l i (eF ⟨8,[],Max,ek,ek,[],[]⟩) R):lQ l (n+1) d i ⟨8,[],Max,ek,ek,[],[]⟩:=by
 have e:eF ⟨8,[],Max,ek,ek,[],[]⟩=[dC [97,98,111,114,116],nU Max,bc [59]]:=by simp [eF]
 unfold lQ;rw [e]at aO ⊢;have Z:=aO.fU;have ab:=Z.fU;obtain⟨u,t1,t2,t3⟩:=xW (n:=n) (kd:=3) aa Z rfl;rw [tn];unfold pn;rw [hz aa aO rfl];simp only [ak,auj];rw [hz aa aO rfl];simp only [ak,auj];rw [hz aa aO rfl];simp only [ak,auj];rw [hz aa aO rfl];simp only [ak,auj];rw [ni aa aO rfl];simp only [ak,aui];rw [t1];simp only [ak,aE.on];rw [BI aa ab];simp only [ak,aE.on,iN,mC,t3];exact mc (by simp only [aum,auq,aun])
end
open Go Go.Ab Go.Proofs
section
variable {l:List Token}
def ab8(l:List Token)(n d k:Nat)(b:List Stmt):Prop:=∀(i m:Nat) (acc:List Stmt),b.length<m→acc.length+b.length≤1000000→
 z8 n (rD n) (xh n) (z' n) (d:Int) ⟨l,(i:Int)⟩ m (k:Int) acc=some (.ret (acc++b) ((k+(gc b).length+1:Nat):Int))
theorem Mv{n d i:Nat}{b:List Stmt}{T R:List Token}(aa:l.length≤1000000000)(aO:cl l i (bc [123]::T) R)(hd:d≤12)(hn:b.length<n)(hb:b.length≤1000000)(h:ab8 l n d (i+1) b):rU l (n+1) d i b:=by
 unfold rU;have:=aO.lt
 rw [ami];unfold JG JF;rw [xM,ak,show decide ((12:Int)<(d:Int))=false from decide_eq_false (by omega)]
 have e:(bif (bif hK l i [123]then false else false) then(true:Bool)else false)=false:=by cases hK l i [123]<;>rfl
 have e2:(bif hK l i [123]then false else false)=false:=by cases hK l i [123]<;>rfl
 rw [e2];simp only [auj];rw [qL aa aO rfl];simp only [ak,aE.on];rw [h i n [] hn (by simp;omega)]
 exact mc (by omega)
theorem an3{i n d:Nat}{A:Expr}{Body bz:List Stmt}{R:List Token}(aa:l.length≤1000000000)(hg:ld l)(aH:iO A)(gp:f8 R [101,108,115,101]=false)(aO:cl l i (eF ⟨5,[],0,A,ek,Body,bz⟩) R)(hn:24*l.length+100≤n)
 (cN:∀T' nw,cl l (i+1+(fM A).length) (bc [123]::(gc Body++bc [125]::T')) nw→rU l n d (i+1+(fM A).length) Body)
 (b1:∀k nw,bz.length≠0→cl l k (bc [123]::(gc bz++[bc [125]])) nw→rU l n d k bz):lQ l (n+1) d i ⟨5,[],0,A,ek,Body,bz⟩:=by
 unfold lQ;by_cases h0:bz.length=0
 ·have e:eF ⟨5,[],0,A,ek,Body,bz⟩=dC [105,102]::(fM A++bc [123]::(gc Body++bc [125]::[])):=by simp only [eF,h0];simp
  obtain rfl:=List.eq_nil_of_length_eq_zero h0;rw [e]at aO ⊢;have Z:=aO.fU;have ab:=Z.kq;have hb:=cN [] R ab;unfold rU at hb;have aj:=(show cl l (i+1+(fM A).length) ((bc [123]::(gc Body++[bc [125]]))++[]) R by rw [List.append_nil];exact ab).kq
  have an4:=ab.le (by simp)
  simp only [aum,auq,aun]at aj an4;rw [tn];unfold pn Ek;rw [hz aa aO rfl];simp only [ak,auj];rw [hz aa aO rfl];simp only [ak,auj];rw [hz aa aO rfl];simp only [ak,auj];rw [hz aa aO rfl];simp only [ak,auj];rw [hz aa aO rfl];simp only [ak,auj];rw [ni aa aO rfl];simp only [ak,aui];rw [rT aa hg aH Z.lO (ab7 _) hn];simp only [ak,aE.on];rw [hb];simp only [ak,aE.on];rw [FV n l _ _ (by omega),show i+1+(fM A).length+(gc Body).length+2=i+1+(fM A).length+((gc Body).length+(0+1)+1)by omega,aj.is,show f8 ([]++R) [101,108,115,101]=false from gp]
  simp only [ak,auj];exact mc (by simp only [aum,auq,aun];omega)
 ·have e:eF ⟨5,[],0,A,ek,Body,bz⟩=dC [105,102]::(fM A++bc [123]::(gc Body++bc [125]::(dC [101,108,115,101]::bc [123]::(gc bz++[bc [125]])))):=by simp only [eF,h0];simp
  rw [e]at aO ⊢;have Z:=aO.fU;have ab:=Z.kq;have hb:=cN _ R ab;unfold rU at hb;have aj:=(show cl l (i+1+(fM A).length) ((bc [123]::(gc Body++[bc [125]]))++(dC [101,108,115,101]::bc [123]::(gc bz++[bc [125]]))) R by simpa using ab).kq
  simp only [aum,auq,aun]at aj;rw [show i+1+(fM A).length+((gc Body).length+(0+1)+1)=i+1+(fM A).length+(gc Body).length+2 by omega]at aj
  have aC:=aj.fU;have he:=b1 _ R h0 aC;unfold rU at he;rw [tn];unfold pn Ek;rw [hz aa aO rfl];simp only [ak,auj];rw [hz aa aO rfl];simp only [ak,auj];rw [hz aa aO rfl];simp only [ak,auj];rw [hz aa aO rfl];simp only [ak,auj];rw [hz aa aO rfl];simp only [ak,auj];rw [ni aa aO rfl];simp only [ak,aui];rw [rT aa hg aH Z.lO (ab7 _) hn];simp only [ak,aE.on];rw [hb];simp only [ak,aE.on];rw [ni aa aj rfl];simp only [ak,aui];rw [he];simp only [ak,aE.on];exact mc (by simp only [aum,auq,aun];omega)
theorem an5{i n d:Nat}{Name:aux}{Max:Int}{A B:Expr}{Body:List Stmt}{R:List Token}(aa:l.length≤1000000000)(hg:ld l)(aH:iO A)(qF:iO B)(aO:cl l i (eF ⟨6,Name,Max,A,B,Body,[]⟩) R)(hn:24*l.length+100≤n)
 (cN:∀k nw,cl l k (bc [123]::(gc Body++[bc [125]])) nw→rU l n d k Body):lQ l (n+2) d i ⟨6,Name,Max,A,B,Body,[]⟩:=by
 have e:eF ⟨6,Name,Max,A,B,Body,[]⟩=dC [102,111,114]::hU Name::bc [61]::(fM A++dC [116,111]::(fM B++dC [109,97,120]::nU Max::bc [123]::(gc Body++[bc [125]]))):=by simp [eF]
 unfold lQ;rw [e]at aO ⊢;have Z:=aO.fU;have ab:=Z.fU;have aj:=ab.fU;have aC:=aj.kq;have aT:=aC.fU;have bP:=aT.kq;have cM:=bP.fU;have dj:=cM.fU;have hb:=cN _ _ dj;unfold rU at hb;obtain⟨u,t1,t2,t3⟩:=xW (n:=n) (kd:=1) aa Z rfl;obtain⟨v,v1,v2,v3⟩:=xW (n:=n) (kd:=3) aa cM rfl;rw [tn];unfold pn;rw [hz aa aO rfl];simp only [ak,auj];rw [hz aa aO rfl];simp only [ak,auj];rw [hz aa aO rfl];simp only [ak,auj];rw [hz aa aO rfl];simp only [ak,auj];rw [hz aa aO rfl];simp only [ak,auj];rw [hz aa aO rfl];simp only [ak,auj];rw [ni aa aO rfl];simp only [ak,aui];rw [amj];unfold JN;rw [t1];simp only [ak,aE.on];rw [qL aa ab rfl];simp only [ak,aE.on];rw [rT aa hg aH aj.lO (anV _) hn];simp only [ak,aE.on];rw [qL aa aC rfl];simp only [ak,aE.on];rw [rT aa hg qF aT.lO (anW _) hn];simp only [ak,aE.on];rw [qL aa bP rfl];simp only [ak,aE.on];rw [v1];simp only [ak,aE.on];rw [hb];simp only [ak,aE.on,iN,mC,t2,v3];exact mc (by simp only [aum,auq,aun];omega)
mutual
theorem an6(aa:l.length≤1000000000)(hg:ld l):∀(s:Stmt) (d i n:Nat) (R:List Token),tw s d→f8 R [101,108,115,101]=false→cl l i (eF s) R→fst s≤1000000→24*l.length+200+3*fst s≤n→lQ l n d i s
 |⟨Op,Name,Max,A,B,Body,bz⟩,d,i,n,R,cF,gp,aO,aY,hn=>by
  obtain⟨hd,hs,dc,fC⟩:=(va _ _).1 cF;have lZ:fst ⟨Op,Name,Max,A,B,Body,bz⟩=80+Name.length+da A+da B+dq Body+dq bz:=rfl;have an7:=rN Body;have atM:=rN bz;have xV:=λk n R=>Mw aa hg Body d k n R dc
  have Mu:=λk n R=>Mw aa hg bz d k n R fC
  obtain⟨n,rfl⟩:∃k,n=k+3:=⟨n-3,by omega⟩
  rcases hs with⟨aw,ao,aI,aH⟩|⟨ao,aH,qF⟩|⟨aw,ao,aH⟩|⟨ao,aH⟩|⟨ao,aI,hm,aH,qF⟩|⟨ao,hm⟩
  ·simp only [Stmt.mk.injEq,true_and,and_true]at ao aw;obtain⟨rfl,rfl,rfl,rfl⟩:=ao;rcases aw with rfl|rfl
   ·exact anX aa hg aH aO (by omega)
   ·exact anY aa hg aH aO (by omega)
  ·simp only [Stmt.mk.injEq,true_and,and_true]at ao;obtain⟨rfl,rfl,rfl,rfl,rfl⟩:=ao;exact anZ aa hg aH qF aO (by omega)
  ·simp only [Stmt.mk.injEq,true_and,and_true]at ao aw;obtain⟨rfl,rfl,rfl,rfl,rfl⟩:=ao;rcases aw with rfl|rfl
   ·exact an0 aa hg aH aO (by omega)
   ·exact an1 aa hg aH aO (by omega)
  ·simp only [Stmt.mk.injEq,true_and,and_true]at ao;obtain⟨rfl,rfl,rfl,rfl⟩:=ao;refine an3 (A:=A) aa hg aH gp aO (by omega) (λT' nw h=>?_) (λk nw h0 h=>?_)
   ·refine Mv aa h hd (by omega) (by omega) (xV _ (n+1) (T'++nw) ?_ (by omega) (by omega))
    have:=h.fU
    rw [show gc Body++bc [125]::T'=(gc Body++[bc [125]])++T' by simp]at this
    exact this.lO
   ·exact Mv aa h hd (by omega) (by omega) (Mu _ (n+1) nw h.fU (by omega) (by omega))
  ·simp only [Stmt.mk.injEq,true_and,and_true]at ao;obtain⟨rfl,rfl⟩:=ao;refine an5 (A:=A) (B:=B) aa hg aH qF aO (by omega) (λk nw h=>?_)
   exact Mv aa h hd (by omega) (by omega) (xV _ n nw h.fU (by omega) (by omega))
  ·simp only [Stmt.mk.injEq,true_and,and_true]at ao;obtain⟨rfl,rfl,rfl,rfl,rfl,rfl⟩:=ao;exact an2 aa aO
theorem Mw(aa:l.length≤1000000000)(hg:ld l):∀(b:List Stmt) (d k n:Nat) (R:List Token),kr b (d+1)→cl l k (gc b++[bc [125]]) R→dq b≤1000000→24*l.length+200+3*dq b≤n→ab8 l n d k b
 |[],d,k,n,R,cF,aO,aY,hn=>by
  intro i m acc hm ha;obtain⟨m,rfl⟩:∃j,m=j+1:=⟨m-1,by simp at hm;omega⟩
  simp only [z8,JE,Q0];rw [ni aa (show cl l k (bc [125]::[]) R from aO) rfl]
  simp only [ak,auk,auj,List.append_nil];exact mc rfl
 |s::b,d,k,n,R,cF,aO,aY,hn=>by
  intro i m acc hm ha;simp only [aum]at hm ha;obtain⟨m,rfl⟩:∃j,m=j+1:=⟨m-1,by omega⟩
  have lZ:dq (s::b)=fst s+1+dq b:=rfl;simp only [gc,List.append_assoc]at aO
  have gp:f8 ((gc b++[bc [125]])++R) [101,108,115,101]=false:=by
   cases b with
   |nil=>rfl
   |cons x b=>simp only [gc,List.append_assoc];exact(ab6 cF.2.1 _).2
  have Z:=an6 aa hg s (d+1) k n _ cF.1 gp aO.lO (by omega) (by omega)
  have ab:=Mw aa hg b d (k+(eF s).length) n R cF.2 aO.kq (by omega) (by omega) i m (acc++[s]) (by omega) (by simp only [auq,aum,aun];omega)
  unfold lQ at Z
  have hk:k<l.length:=by
   by_cases hk:k<l.length
   ·exact hk
   ·unfold cl at aO;have:=congrArg List.length aO
    simp only [List.length_drop,List.length_map,auq,aum,aun]at this;omega
  simp only [z8,JE];rw [FV n l k _ (by omega),aO.is,List.append_assoc,(ab6 cF.1 _).1]
  simp only [ak,aul,aui,auj];rw [bm (by have:=((va _ _).1 cF.1).1;omega),Z]
  simp only [ak,aE.on];rw [show(acc.length+([s]:List Stmt).length)=acc.length+1 from rfl,amk (by omega)]
  simp only [aK];rw [ab];simp only [gc,List.append_assoc,List.cons_append,List.nil_append,auq];exact mc (by omega)
end
end
open Go Go.Ab Go.Proofs
def nY(t:Int):aux:=if t=1 then[105,110,116]else if t=2 then[115,116,114] else[98,111,111,108]
def mN(x:Param):aux:=(x.Name++[58,32])++nY x.fi
def vb(x:Param):List Token:=[hU x.Name,bc [58],dC (nY x.fi)]
def qM:List Param→List Token
 |[]=>[]
 |x::l=>bc [44]::(vb x++qM l)
def vc:List Param→List Token
 |[]=>[]
 |x::l=>vb x++qM l
def rV(x:Param):Prop:=gv x.Name=true∧1≤x.fi∧x.fi≤3
def ab9:∀(l b:List Param),u7 b l=0→∀x,x∈l→rV x
 |[],b,h,x,hx=>by cases hx
 |y::l,b,h,x,hx=>by
  unfold u7 at h;split at h
  ·omega
  rename_i g1;split at h
  ·omega
  rename_i g2;split at h
  ·omega
  rename_i g3;rcases List.mem_cons.1 hx with rfl|hx
  ·exact⟨by simpa using g1,by omega,by omega⟩
  ·exact ab9 l _ h x hx
def Ge{l:List Param}(h:qA l=0):l.length≤6∧∀x,x∈l→rV x:=by
 unfold qA at h;split at h
 ·omega
 ·exact⟨by omega,ab9 l [] h⟩
def nj(l:List Param):aux:=Lib.join (l.map mN) [44,32]
def kS(p:bb):aux:=dt 0 [[112,114,111,99,32],p.Name,[40],nj p.Params,[41,32,123]]++(fB p.Body 1++dt 0 [[125]])
def vd(p:bb):List Token:=dC [112,114,111,99]::hU p.Name::bc [40]::(vc p.Params++bc [41]::bc [123]::(gc p.Body++[bc [125]]))
def an8(t:Int):nY t∈pw:=by
 unfold nY;by_cases Z:t=1
 ·rw [if_pos Z];decide
 ·rw [if_neg Z];by_cases ab:t=2
  ·rw [if_pos ab];decide
  ·rw [if_neg ab];decide
def Uh(t:Int):(nY t).length≤4:=by
 unfold nY;split
 ·simp
 ·split<;>simp
def ab'(n:Nat)(t:Int):Iv n t=some (nY t):=by
 unfold Iv nY;by_cases Z:t=1
 ·simp [Z]
 ·by_cases ab:t=2
  ·simp [ab]
  ·simp [Z,ab]
def ab_{x:Param}{r:aux}{T:List Token}(hx:rV x)(hb:nT r)(h:eJ r T):eJ (mN x++r) (vb x++T):=by
 have e:mN x++r=x.Name++58::32::(nY x.fi++r):=by simp [mN]
 rw [e];exact Ga hx.1 (jc rfl) (lg (t:=bc [58]) (pB (by decide)) (F3 (by decide)) (mI (lg (t:=dC (nY x.fi)) (u' (an8 _)) (F2 (by simp [dC]) hb) h)))
def Gf(x:aux)(l:List aux):Lib.joinTail [44,32] (x::l)=44::32::(x++Lib.joinTail [44,32] l):=by simp [Lib.joinTail]
def aca{l:List Param}{r:aux}(hb:nT r):nT (Lib.joinTail [44,32] (l.map mN)++r):=by
 cases l with
 |nil=>exact hb
 |cons x l=>rw [List.map_cons,Gf];exact jc rfl
def acb{r:aux}{T:List Token}(hb:nT r)(h:eJ r T):∀l:List Param,(∀x,x∈l→rV x)→eJ (Lib.joinTail [44,32] (l.map mN)++r) (qM l++T)
 |[],_=>h
 |x::l,aa=>by
  rw [List.map_cons,Gf];have:=ab_ (aa x (by simp)) (aca (l:=l) hb) (acb hb h l λy cg=>aa y (by simp [cg]))
  simp only [List.cons_append,List.append_assoc,qM];exact lg (t:=bc [44]) (pB (by decide)) (F3 (by decide)) (mI this)
def an9{r:aux}{T:List Token}(hb:nT r)(h:eJ r T)(l:List Param)(aa:∀x,x∈l→rV x):eJ (nj l++r) (vc l++T):=by
 unfold nj;cases l with
 |nil=>exact h
 |cons x l=>
  rw [List.map_cons,Lib.join_cons];simp only [List.append_assoc,vc];exact ab_ (aa x (by simp)) (aca (l:=l) hb) (acb hb h l λy cg=>aa y (by simp [cg]))
def an'{p:bb}(hp:Mp p){r:aux}{T:List Token}(h:eJ r T):eJ (kS p++r) (vd p++T):=by
 obtain⟨Z,ab,aj⟩:=hp;have e:kS p++r=[112,114,111,99]++32::(p.Name++40::(nj p.Params++41::32::123::10::(fB p.Body 1++(dt 0 [[125]]++r)))):=by simp [kS,dt,ind,cat]
 have e2:vd p++T=dC [112,114,111,99]::hU p.Name::bc [40]::(vc p.Params++bc [41]::bc [123]::(gc p.Body++bc [125]::T)):=by simp [vd]
 rw [e,e2];exact qK (by decide) (Ga Z (jc rfl) (TS (an9 (jc rfl) (Mb (Gb (Mt p.Body 1 1 aj _ _ (Ms 0 h)))) p.Params (Ge ab).2)))
def acd{x:Param}(h:rV x):(mN x).length≤22:=by
 have:=pE h.1
 have:=Uh x.fi
 unfold mN;simp only [auq,aum,aun];omega
def ace:∀l:List Param,(∀x,x∈l→rV x)→(Lib.joinTail [44,32] (l.map mN)).length≤24*l.length
 |[],_=>Nat.le_refl _
 |x::l,h=>by
  have Z:=ace l λy cg=>h y (by simp [cg])
  have ab:=acd (h x (by simp))
  rw [List.map_cons,Gf];simp only [auq,aum];omega
def Ui{l:List Param}(aa:∀x,x∈l→rV x):(nj l).length≤24*l.length:=by
 unfold nj;cases l with
 |nil=>exact Nat.le_refl _
 |cons x l=>
  have Z:=ace l λy cg=>aa y (by simp [cg])
  have ab:=acd (aa x (by simp))
  rw [List.map_cons,Lib.join_cons];simp only [auq,aum];omega
def acf{p:bb}(hp:Mp p):(kS p).length≤4*dq p.Body+300:=by
 obtain⟨Z,ab,aj⟩:=hp;obtain⟨aC,aT⟩:=Ge ab;have bP:=Ui aT;have cM:=pE Z;have dj:=oR p.Body 1 aj;unfold kS;simp only [auq,lP,cat,aum,aun];omega
def an_{n:Nat}(p:bb)(hi:qJ p)(av:mF p=0)(hn:3000000≤n)(aY:h4 p.Params≤300000)(cN:dq p.Body≤300000):uw n p=some (kS p):=by
 have hp:=Mq hi av;have yK:=hp;obtain⟨Z,ab,aj⟩:=hp;obtain⟨aC,aT⟩:=Ge ab;have bP:=Ui aT;have cM:=pE Z;have dj:=oR p.Body 1 aj;have en:(fB p.Body (0+1)).length≤4*dq p.Body:=dj;unfold uw;rw [TM p (by omega) (by omega) (by omega) (by omega) (by omega),av]
 simp only [ak,aug,auk,auj]
 have gR:∀m i,p.Params.length<i+m→i≤p.Params.length→DM n p m (i:Int) ((p.Params.take i).map mN)=some (kS p):=by
  intro m;induction m with
  |zero=>intro i g1 g2;omega
  |succ m aG=>
   intro i g1 g2;simp only [DM,Qf,aup,auo];by_cases hi:i<p.Params.length
   ·have hx:=aT (p.Params.getD i default) (by rw [List.getD_eq_getElem?_getD,List.getElem?_eq_getElem hi];exact List.getElem_mem hi)
    have hnx:=pE hx.1;have acg:=Uh (p.Params.getD i default).fi;have:=aG (i+1) (by omega) (by omega)
    rw [xP p.Params i hi,List.map_append]at this;simp only [List.map_cons,List.map_nil]at this;simp only [hi,aug,aui,bw hi,aK];rw [gW (by simp only [aum,aun];omega),ab']
    simp only [aK,ak];rw [gW (by simp only [auq,aum,aun];omega)]
    simp only [aK]
    rw [show room ((List.map mN (p.Params.take i)).length+([(p.Params.getD i default).Name++[58,32]++nY (p.Params.getD i default).fi]:List aux).length) 16=true by
     simp [room];omega]
    simp only [aK];rw [bm (by omega)]
    exact this
   ·simp only [hi,auh,auj];obtain rfl:i=p.Params.length:=by omega
    unfold Qe;rw [List.take_length];unfold H0;rw [show decide ((p.Params.map mN).length≤140737488355328∧(Lib.join (p.Params.map mN) [44,32]).length≤140737488355328)=true from decide_eq_true ⟨by rw [List.length_map];omega,by show(nj p.Params).length≤_;omega⟩]
    simp only [aK,ak];have aa:=nX (n:=n) [[112,114,111,99,32],p.Name,[40],nj p.Params,[41,32,123]] 0 [] (by simp only [cat,auq,aum,aun];omega) (by simp) (by omega) (by omega)
    have aa:mx n [[112,114,111,99,32],p.Name,[40],Lib.join (p.Params.map mN) [44,32],[41,32,123]] [] 0=_:=aa;rw [aa];simp only [ak,List.nil_append];have hb:=anT n p.Body 0 (dt 0 [[112,114,111,99,32],p.Name,[40],nj p.Params,[41,32,123]]) aj (by omega) (by omega) (by omega) (by simp only [lP,cat,auq,aum,aun];omega)
    unfold tA at hb;rw [show rv n p.Body (fS (dt 0 [[112,114,111,99,32],p.Name,[40],nj p.Params,[41,32,123]])) 0=_ from hb]
    simp only [ak];rw [nX _ 0 _ (by simp only [cat,auq,lP,aum,aun];omega) (by simp) (by omega) (by omega)]
    simp only [ak];unfold II;rw [To,Tn];have hlen:=acf yK;have aoa:dt 0 [[112,114,111,99,32],p.Name,[40],nj p.Params,[41,32,123]]++fB p.Body (0+1)++dt 0 [[125]]=kS p:=by unfold kS;rw [List.append_assoc]
    rw [aoa];rw [show decide ((fS (kS p)).length≤9223372036854775807)=true from decide_eq_true (by rw [show(fS (kS p)).length=(kS p).length by simp [fS]];omega)]
    rfl
 exact gR n 0 (by omega) (by omega)
open Go Go.Ab Go.Proofs
section
variable {l:List Token}
theorem ach{i n:Nat}{x:Param}{R:List Token}(aa:l.length≤1000000000)(hx:rV x)(aO:cl l i (vb x) R):Ev n ⟨l,(i:Int)⟩=some (.ret x ((i+3:Nat):Int)):=by
 have aO:cl l i (hU x.Name::bc [58]::dC (nY x.fi)::[]) R:=aO;have Z:=aO.fU;have ab:=Z.fU;obtain⟨u,t1,t2,t3⟩:=xW (n:=n) (kd:=1) aa aO rfl;obtain⟨mD,ty⟩:=x;unfold Ev z_;rw [t1];simp only [ak,aE.on];rw [qL aa Z rfl];simp only [ak,aE.on];obtain⟨_,g1,g2⟩:=hx;simp only at g1 g2
 have:ty=1∨ty=2∨ty=3:=by omega
 rcases this with rfl|rfl|rfl
 ·rw [ni aa ab rfl];simp only [ak,aui,t2];exact mc rfl
 ·rw [hz aa ab rfl];simp only [ak,auj];rw [ni aa ab rfl];simp only [ak,aui,t2];exact mc rfl
 ·rw [hz aa ab rfl];simp only [ak,auj];rw [hz aa ab rfl];simp only [ak,auj];rw [ni aa ab rfl];simp only [ak,aui,t2];exact mc rfl
theorem aci{n:Nat}{b:Int}{t:Token}(aa:l.length≤1000000000):∀(b8 acc:List Param) (k m:Nat) (T R:List Token),(∀x,x∈b8→rV x)→cl l k (qM b8++bc [41]::T) R→b8.length<m→acc.length+b8.length≤1000→
 Aa n ⟨l,b⟩ t m (k:Int) acc=JQ n ⟨l,b⟩ t ((k+(qM b8).length:Nat):Int) (acc++b8)
 |[],acc,k,m,T,R,hx,aO,hm,ha=>by
  obtain⟨m,rfl⟩:∃j,m=j+1:=⟨m-1,by simp at hm;omega⟩
  simp only [Aa,JR];rw [hz aa (show cl l k (bc [41]::T) R from aO) rfl]
  simp only [ak,auj,List.append_nil];rfl
 |x::b8,acc,k,m,T,R,hx,aO,hm,ha=>by
  simp only [aum]at hm ha;obtain⟨m,rfl⟩:∃j,m=j+1:=⟨m-1,by omega⟩
  have aO:cl l k (bc [44]::(vb x++qM b8++bc [41]::T)) R:=aO;have Z:=aO.fU;rw [List.append_assoc]at Z;have ab:=aci (n:=n) (b:=b) (t:=t) aa b8 (acc++[x]) (k+1+(vb x).length) m T R (λy cg=>hx y (by simp [cg])) Z.kq (by omega) (by simp only [auq,aum,aun];omega)
  simp only [Aa,JR];rw [ni aa aO rfl];simp only [ak,aui];rw [ach aa (hx x (by simp)) Z.lO]
  simp only [ak,aE.on];rw [show acc.length+([x]:List Param).length=acc.length+1 from rfl,aa_ (by omega)]
  simp only [aK];have e3:(vb x).length=3:=rfl;rw [e3]at ab;rw [ab,List.append_assoc,show k+1+3+(qM b8).length=k+(qM (x::b8)).length by simp only [qM,aum,auq,e3];omega]
  rfl
theorem acj{n i k:Nat}{b:Int}{t:Token}{b8:List Param}{Body:List Stmt}{R:List Token}(aa:l.length≤1000000000)(hg:ld l)(cF:kr Body 1)(aY:dq Body≤1000000)(hn:24*l.length+201+3*dq Body≤n)(aO:cl l k (bc [123]::(gc Body++[bc [125]])) R):
 Ew n ⟨l,b⟩ t (k:Int) b8=some (.ret ⟨t.Text,b8,Body⟩ ((k+(gc Body).length+2:Nat):Int)):=by
 have an7:=rN Body;obtain⟨n,rfl⟩:∃j,n=j+1:=⟨n-1,by omega⟩
 have Z:=Mw aa hg Body 0 (k+1) n R cF aO.fU aY (by omega)
 have ab:=Mv aa aO (by omega) (by omega) (by omega) Z
 unfold rU at ab;unfold Ew;rw [show rD (n+1) 0 ⟨l,(k:Int)⟩=_ from ab]
 simp only [ak,aE.on]
theorem aob{n i:Nat}{p:bb}{R:List Token}(aa:l.length≤1000000000)(hg:ld l)(hp:Mp p)(aY:dq p.Body≤1000000)(hn:24*l.length+201+3*dq p.Body≤n)(aO:cl l i (vd p) R):
 Ex n ⟨l,(i:Int)⟩=some (.ret p ((i+(vd p).length:Nat):Int)):=by
 obtain⟨mD,b8,kZ⟩:=p;obtain⟨g1,g2,g3⟩:=hp;obtain⟨g4,g5⟩:=Ge g2;simp only at g1 g4 g5 g3 aY hn
 have aO:cl l i (dC [112,114,111,99]::hU mD::bc [40]::(vc b8++bc [41]::bc [123]::(gc kZ++[bc [125]]))) R:=aO;have Z:=aO.fU;have ab:=Z.fU;have aj:=ab.fU;obtain⟨u,t1,t2,t3⟩:=xW (n:=n) (kd:=1) aa Z rfl;have t2:u.Text=mD:=t2;unfold Ex;rw [qL aa aO rfl];simp only [ak,aE.on];rw [t1];simp only [ak,aE.on];rw [qL aa ab rfl];simp only [ak,aE.on];cases b8 with
 |nil=>
  have aj:cl l (i+1+1+1) (bc [41]::bc [123]::(gc kZ++[bc [125]])) R:=aj;rw [ni aa aj rfl];simp only [ak,auk,auj];rw [acj (i:=0) aa hg g3 aY hn aj.fU,t2];exact mc (by simp only [vd,vc,aum,auq,aun];omega)
 |cons x b8=>
  have e3:(vb x).length=3:=rfl;simp only [vc,List.append_assoc]at aj;have aC:=aj.kq;rw [e3]at aC;have aT:=aC.kq;rw [hz aa (show cl l (i+1+1+1) (hU x.Name::(bc [58]::dC (nY x.fi)::(qM b8++bc [41]::bc [123]::(gc kZ++[bc [125]])))) R from aj) rfl]
  simp only [ak,aul,aui];rw [ach aa (g5 x (by simp)) aj.lO]
  simp only [ak,aE.on];rw [show(([]:List Param).length+([x]:List Param).length)=1 from rfl,aa_ (by omega)]
  simp only [aK,List.nil_append];simp only [aum]at g4;rw [aci aa b8 [x] _ n _ R (λy cg=>g5 y (by simp [cg])) aC (by omega) (by simp;omega)]
  unfold JQ;rw [qL aa aT rfl];simp only [ak,aE.on];rw [acj (i:=0) aa hg g3 aY hn aT.fU,t2];exact mc (by simp only [vd,vc,e3,aum,auq,aun];omega)
end
def aoc{l T:List Token}(h:l.map db=T):cl l 0 T []:=by
 unfold cl;rw [List.drop_zero,h,List.append_nil]
def aod{l T:List Token}(h:l.map db=T):l.length=T.length:=by rw [←h,List.length_map]
def aoe{n:Nat}{p:bb}(hi:qJ p)(av:mF p=0)(hn:3000000≤n)(aY:h4 p.Params≤300000)(cN:dq p.Body≤300000)(hs:(kS p).length≤16384):Ey n (kS p)=some (p,0,0):=by
 have hp:=Mq hi av
 have aH:eJ (kS p) (vd p):=by
  have:=an' hp eJ.nil
  rwa [List.append_nil,List.append_nil]at this
 have aI:=pE hp.1;obtain⟨l,Z,ab,aj,aC,aT⟩:=amP aH hs (n:=n) (by omega) (by omega)
 have hlen:=L2 l;have aof:=aod ab;unfold Ey JS Rj;rw [Z];simp only [ak,aug,auk,auj];have aog:=aob (l:=l) (i:=0) (n:=n) (by omega) aC hp (by omega) (by omega) (aoc ab)
 rw [show Ex n ⟨l,0⟩=_ from aog]
 simp only [ak,aE.on,aof,Nat.zero_add,aut,auh,auj,aug,aui,abp];rw [TM p (by omega) (by omega) (by omega) (by omega) (by omega),av]
 simp only [ak,JT,aug,auk,auj,abp]
open Go Go.Ab Go.Proofs
def hf(s:aux):List Int:=s.map λb=>(b.toNat:Int)
def Uj(s:aux):jV (hf s)=s:=by
 simp only [jV,hf,List.map_map]
 conv=>rhs;rw [←List.map_id s]
 apply List.map_congr_left;intro b _;simp
def Uk(s:aux):nB (hf s)=true:=by
 simp only [nB,hf,List.all_eq_true,List.mem_map,forall_exists_index,and_imp,forall_apply_eq_imp_iff₂];intro b _;have:=b.toNat_lt
 simp;omega
def Ul(s t:aux):hf (s++t)=hf s++hf t:=List.map_append
def Mx(s:aux):(hf s).length=s.length:=List.length_map _
def Um:([]:List Int)=hf []:=rfl
def e_(u:Nat):aux:=if u<128 then[UInt8.ofNat u]else UInt8.ofNat (u % 128+128)::e_ (u / 128)
termination_by u
decreasing_by omega
def ack:∀(k u:Nat),u<128 ^ k→0<k→(e_ u).length≤k
 | 0,u,_,h=>by omega
 |k+1,u,hu,_=>by
  rw [e_];split
  ·simp
  ·have hk:0<k:=by
    rcases Nat.eq_zero_or_pos k with rfl|h
    ·simp at hu;omega
    ·exact h
   have:=ack k (u / 128) (by rw [Nat.pow_succ]at hu;omega) hk
   simp;omega
def nk{u:Nat}(h:u<18446744073709551616):(e_ u).length≤10:=ack 10 u (by omega) (by omega)
def aoh:∀x:Nat,x<256→qY .u8 (x:Int) 128=((x % 128+128:Nat):Int):=by decide +kernel
def acl(u:Nat):IntKind.u8.wrap (u:Int)=((u % 256:Nat):Int):=by rw [IntKind.wrap_u8];omega
def rW{u:Nat}(h:u<18446744073709551616):IntKind.u64.wrap (u:Int)=(u:Int):=by rw [IntKind.wrap_u64];omega
def Un(u:Nat)(h:u<256):([(u:Int)]:List Int)=hf [UInt8.ofNat u]:=by
 simp only [hf,List.map_cons,List.map_nil,UInt8.toNat_ofNat',Nat.mod_eq_of_lt (show u<2 ^ 8 from h)]
def aoi(u:Nat):nq .u64 (u:Int) 7=((u / 128:Nat):Int):=by
 unfold nq;rw [show min (7:Int).toNat (IntKind.bits .u64)=7 by decide,Int.fdiv_eq_ediv_of_nonneg _ (by omega)]
 omega
def Uo{n:Nat}(h:n≤140737488355328):room n 1=true:=by simp [room];omega
def gD{n:Nat}(h:n≤9223372036854775807):b0 n=true:=by simp [b0];omega
def aoj(n:Nat):∀m u (acc:aux),u<18446744073709551616→(e_ u).length≤m→acc.length+(e_ u).length≤1000→Ds n m (u:Int) (hf acc)=some (acc++e_ u):=by
 intro m;induction m with
 |zero=>intro u acc _ h _;rw [e_]at h;split at h<;>simp at h
 |succ m aG=>
  intro u acc hu hm aa;simp only [Ds,Px,Pw,H7];rw [e_]at hm aa ⊢;by_cases h:u<128
  ·rw [if_pos h]at hm aa ⊢;simp only [aur]at aa;have:¬ (128:Int)≤(u:Int):=by omega
   rw [acl,Nat.mod_eq_of_lt (by omega),Un u (by omega),←Ul]
   simp only [this,auh,auj,aur,Mx,Uo (show acc.length+1≤140737488355328 by omega),aK,ak,Uk,Uj]
  ·rw [if_neg h]at hm aa ⊢;simp only [aum]at hm aa;have:(128:Int)≤(u:Int):=by omega
   rw [acl,aoh _ (by omega),show u % 256 % 128=u % 128 by omega,Un _ (by omega),←Ul,aoi]
   simp only [this,aug,aui,aur,Mx,Uo (show acc.length+1≤140737488355328 by omega),aK,ak]
   rw [aG (u / 128) _ (by omega) (by omega) (by simp;omega)]
   simp
def ve{n u:Nat}(hn:10≤n)(hu:u<18446744073709551616):h1 n (u:Int)=some (e_ u):=by
 have:=nk hu
 exact aoj n n u [] hu (by omega) (by simp;omega)
def fold(n:Int):Nat:=if n<0 then(2*(-(n+1))+1).toNat else(2*n).toNat
def e6(x:Int):Prop := -9223372036854775808≤x∧x≤9223372036854775807
def Up{n:Int}(h:e6 n):fold n<18446744073709551616:=by
 unfold e6 at h;unfold fold;split<;>omega
def mO(n:Int):aux:=e_ (fold n)
def rX{n:Int}(h:e6 n):(mO n).length≤10:=nk (Up h)
def xor_zero{a:Nat}(h:a<18446744073709551616):mU .u64 (a:Int) 0=(a:Int):=by
 unfold mU;rw [show BitVec.ofInt (IntKind.bits .u64) 0=0#_ from rfl,BitVec.xor_zero]
 rw [show((BitVec.ofInt (IntKind.bits .u64) (a:Int)).toNat:Int)=(a:Int) by
  rw [BitVec.toNat_ofInt];simp only [IntKind.bits];omega]
 exact rW h
def aok{a:Nat}(h:a<18446744073709551616):mU .u64 (a:Int) 18446744073709551615=((18446744073709551615-a:Nat):Int):=by
 unfold mU;rw [show BitVec.ofInt (IntKind.bits .u64) 18446744073709551615=BitVec.allOnes _ by decide,BitVec.xor_allOnes]
 rw [show((~~~ BitVec.ofInt (IntKind.bits .u64) (a:Int)).toNat:Int)=((18446744073709551615-a:Nat):Int) by
  rw [BitVec.toNat_not,BitVec.toNat_ofInt];simp only [IntKind.bits];omega]
 exact rW (by omega)
def aol{x:Int}(h:e6 x):mU .u64 (o1 .u64 (IntKind.u64.wrap x) 1) (IntKind.u64.wrap (nq .i64 x 63))=(fold x:Int):=by
 unfold e6 at h
 have e1:nq .i64 x 63=if x<0 then -1 else 0:=by
  unfold nq;rw [show min (63:Int).toNat (IntKind.bits .i64)=63 by decide,Int.fdiv_eq_ediv_of_nonneg _ (by omega)]
  split<;>omega
 have e2:o1 .u64 (IntKind.u64.wrap x) 1=(((2*x) % 18446744073709551616).toNat:Int):=by
  unfold o1;rw [show min (1:Int).toNat (IntKind.bits .u64)=1 by decide,IntKind.wrap_u64,IntKind.wrap_u64]
  omega
 rw [e1,e2];unfold fold;by_cases hx:x<0
 ·rw [if_pos hx,if_pos hx,show IntKind.u64.wrap (-1)=18446744073709551615 by decide,aok (by omega)]
  omega
 ·rw [if_neg hx,if_neg hx,show IntKind.u64.wrap 0=0 by decide,xor_zero (by omega)]
  omega
def xX{n:Nat}{x:Int}(hn:10≤n)(h:e6 x):rp n x=some (mO x):=by
 unfold rp;rw [aol h,ve hn (Up h)];rfl
def gd(s:aux):aux:=e_ s.length++s
def vf{n:Nat}{s:aux}(hn:10≤n)(h:s.length≤4611686018427387904):qh n s=some (gd s):=by
 unfold qh;have:=nk (u:=s.length) (by omega)
 rw [rW (by omega),ve hn (by omega)]
 simp only [ak,gD (show(e_ s.length).length+s.length≤9223372036854775807 by omega),aK];rfl
def My{s:aux}(h:s.length≤4611686018427387904):(gd s).length≤s.length+10:=by
 have:=nk (u:=s.length) (by omega)
 simp [gd];omega
open Go Go.Ab Go.Proofs
def acm(n:Nat)(op:Int):KH n op=some ((ca op:Nat):Int):=T3 n op
def aom(n:Nat)(op:Int)(h:4≤op∧op≤8∨10≤op∧op≤17∨op=19):KI n op=some (spell (nV op)):=abO n op h
def acn(n:Nat)(op:Int)(h:20≤op∧op≤27):KJ n op=some (spell (hL op)):=by
 obtain rfl|rfl|rfl|rfl|rfl|rfl|rfl|rfl:op=20∨op=21∨op=22∨op=23∨op=24∨op=25∨op=26∨op=27:=by omega
 all_goals rfl
def aco(u:Nat)(h:u<18446744073709551616):jV ([(IntKind.u8.wrap (IntKind.u64.wrap (48+(Int.tmod (u:Int) 10))))]:List Int)=[UInt8.ofNat (48+u % 10)]∧nB ([(IntKind.u8.wrap (IntKind.u64.wrap (48+(Int.tmod (u:Int) 10))))]:List Int)=true:=by
 have:IntKind.u8.wrap (IntKind.u64.wrap (48+(Int.tmod (u:Int) 10)))=((48+u % 10:Nat):Int):=by
  rw [Int.tmod_eq_emod_of_nonneg (by omega),IntKind.wrap_u64,IntKind.wrap_u8];omega
 rw [this,Un _ (by omega)]
 exact⟨Uj _,Uk _⟩
def acp(u:Nat)(h:u<18446744073709551616):IntKind.u64.wrap (Int.tdiv (u:Int) 10)=((u / 10:Nat):Int):=by
 rw [Int.tdiv_eq_ediv_of_nonneg (by omega),IntKind.wrap_u64];omega
def aon(n:Nat)(i:Int)(hi:0≤i):∀(m f u:Nat) (acc:aux),u<18446744073709551616→u<10 ^ m→acc.length+m≤1000000000→(0<u∨acc≠[])→qr n i (m+f+1) (u:Int) acc=some ((if u=0 then[]else Lib.decDigits u)++acc):=by
 intro m;induction m with
 |zero=>
  intro f u acc hu Z aa dx;have h0:u=0:=by simp at Z;omega
  subst h0;have Uq:acc≠[]:=by rcases dx with h|h;exact absurd h (by omega);exact h
  have:¬ i<0:=by omega
  simp [qr,tc,ET,Uq,this]
 |succ m aG=>
  intro f u acc hu Z aa dx;rw [show m+1+f+1=m+f+1+1 by omega,show qr n i (m+f+1+1)=tc n i (qr n i (m+f+1))from rfl]
  simp only [tc,ET];by_cases h0:u=0
  ·subst h0;have Uq:acc≠[]:=by rcases dx with h|h;exact absurd h (by omega);exact h
   have:¬ i<0:=by omega
   simp [Uq,this]
  ·have hp:(0:Int)<(u:Int):=by omega
   obtain⟨d1,d2⟩:=aco u hu;rw [d1,d2,acp u hu];simp only [hp,aug,aui,aK,aur,gD (show 1+acc.length≤9223372036854775807 by omega)]
   rw [aG f (u / 10) _ (by omega) (by rw [Nat.pow_succ]at Z;omega) (by simp;omega) (.inr (by simp))]
   rw [if_neg h0]
   conv=>rhs;rw [Lib.decDigits]
   by_cases en:u<10
   ·rw [dif_pos en,if_pos (by omega),Nat.mod_eq_of_lt en];rfl
   ·rw [dif_neg en,if_neg (by omega)];simp
def acq(n:Nat)(hn:30≤n)(i:Int)(h0:0≤i)(Z:i≤9223372036854775807):xn n i=some (Lib.decDigits i.toNat):=by
 unfold xn R3;obtain⟨u,rfl⟩:=Int.eq_ofNat_of_zero_le h0;have:¬ (u:Int)<0:=by omega
 simp only [this,auh,auj,ak,rW (show u<18446744073709551616 by omega),auo]
 obtain⟨k,rfl⟩:∃k,n=k+30:=⟨n-30,by omega⟩
 by_cases dx:u=0
 ·subst dx;rw [show qr (k+30) ((0:Nat):Int) (k+30)=tc (k+30) ((0:Nat):Int) (qr (k+30) ((0:Nat):Int) (k+28+1))from rfl]
  obtain⟨d1,d2⟩:=aco 0 (by omega)
  have hs:=gD (n:=([UInt8.ofNat (48+0 % 10)]:aux).length+([]:aux).length) (by decide)
  simp only [tc,d1,d2,acp 0 (by omega),hs,aK]
  rw [show qr (k+30) ((0:Nat):Int) (k+28+1)=tc (k+30) ((0:Nat):Int) (qr (k+30) ((0:Nat):Int) (k+28))from rfl]
  simp [tc,ET,Lib.decDigits]
 ·have:=aon (k+30) (u:Int) h0 20 (k+9) u [] (by omega) (by omega) (by simp) (.inl (by omega))
  rw [if_neg dx,List.append_nil,show 20+(k+9)+1=k+30 by omega]at this;exact this
def aoo(n:Nat)(s:aux)(hs:s.length≤4611686018427387904):∀m i,s.length<i+m→i≤s.length→AO n s m (i:Int)=some ((s.drop i).all okB):=by
 intro m;induction m with
 |zero=>intro i h ab;omega
 |succ m aG=>
  intro i hm hi;simp only [AO,R8,R7];by_cases h:i<s.length
  ·rw [e9 s i 0 h,bm (by omega),aG (i+1) (by omega) (by omega)]
   simp only [h,bw h,auo,aup,aug,aui,aK,auu,List.all_cons,pu,eO,dv,Bl];cases okB (s.getD i 0)<;>simp
  ·rw [gu s i h];simp [h]
def acr{n:Nat}(s:aux)(h:s.length<n)(hs:s.length≤4611686018427387904):R9 n s=some (s.all okB):=by
 have:=aoo n s hs n 0 (by omega) (by omega)
 rw [List.drop_zero]at this;exact this
def take_one(s:aux)(i:Nat)(h:i<s.length):(s.take (i+1)).drop i=[s.getD i 0]:=by
 rw [List.drop_take,e9 s i 0 h];simp
def aop(n:Nat)(s:aux)(hs:s.length≤64):∀m i,s.length<i+m→i≤s.length→EV n s m (34::gC (s.take i)) (i:Int)=some (quo s,0):=by
 intro m;induction m with
 |zero=>intro i h ab;omega
 |succ m aG=>
  intro i hm hi;simp only [EV,Sa,R',R_,KE];have hlen:=xR (s.take i);have FU:(s.take i).length≤i:=by simp;omega
  by_cases h:i<s.length
  ·(rw [bm (by omega)];simp only [auo];rw [take_one s i h])
   have hn:=aG (i+1) (by omega) (by omega)
   have aF:s.take (i+1)=s.take i++[s.getD i 0]:=by
    rw [List.take_add,e9 s i 0 h,List.take_succ_cons,List.take_zero]
   rw [aF,abQ]at hn;generalize s.getD i 0=c at hn
   simp only [h,bw h,aup,aug,aui,aK,auu,fs,dv,FQ (show i≤i+1 by omega) (show i+1≤s.length by omega)]
   by_cases hc:c.toNat=34∨c.toNat=92
   ·have hb:(decide (c.toNat=34)||decide (c.toNat=92))=true:=by rcases hc with hc|hc<;>rw [decide_eq_true hc]<;>simp
    rw [hb];simp only [aui];rw [gD (by simp only [aum,aun];omega),gD (by simp only [auq,aum,aun];omega)]
    simp only [aK];rw [show(34::gC (s.take i)++[92]++[c])=34::(gC (s.take i)++gC [c])by simp only [gC];rw [if_pos hc];simp]
    exact hn
   ·have hb:(decide (c.toNat=34)||decide (c.toNat=92))=false:=by rw [decide_eq_false (λe=>hc (Or.inl e)),decide_eq_false (λe=>hc (Or.inr e))];rfl
    rw [hb];simp only [auj];rw [gD (by simp only [aum,aun];omega)]
    simp only [aK];rw [show(34::gC (s.take i)++[c])=34::(gC (s.take i)++gC [c])by simp only [gC];rw [if_neg hc];simp]
    exact hn
  ·have T4:i=s.length:=by omega
   subst T4;simp only [aup,Nat.lt_irrefl,auh,auj,List.take_length];have aa:=xR s;rw [gD (by simp only [aum,aun];omega)]
   rfl
def aoq{n:Nat}(s:aux)(h:ju s=true)(hn:100<n):KF n s=some (quo s,0):=by
 unfold ju at h;simp only [Bool.and_eq_true,decide_eq_true_eq]at h;unfold KF;simp only [eO,show¬ 64<s.length by omega,auh,auj,acr s (show s.length<n by omega) (by omega),ak,h.1,auk]
 exact aop n s (by omega) n 0 (by omega) (by omega)
open Go Go.Ab Go.Proofs
def aor(n:Nat):k8 (n+1)=KK n (k8 n) (xp n):=rfl
def aos(n:Nat):xp (n+1)=KL n (k8 n) (xp n):=rfl
def Gg{n:Nat}{e:Expr}{k:Nat}(h:k8 n e=some (flat (bR e)))(aa:(flat (bR e)).length≤100000000):xp (n+1) e (k:Int)=some (flat (fA e.Op (bR e) k)):=by
 rw [aos];unfold KL fA;rw [acm,h];simp only [ak,aup];by_cases hk:ca e.Op<k
 ·simp only [hk,aug,aui,auv];rw [gW (by simp;omega),gW (by simp;omega)]
  simp only [aK,flat,mJ,spell,bc];simp
 ·simp only [hk,auh,auj,auw]
def aot:∀(h:Nat) (e:Expr) (n:Nat),fG e≤h→gO e→2*h+200≤n→da e≤1000000→k8 n e=some (flat (bR e)):=by
 intro h;induction h with
 |zero=>intro e n he;rw [tu]at he;omega
 |succ h aG=>
  intro e n he cF hn anx;obtain⟨n,rfl⟩:∃j,n=j+1:=⟨n-1,by omega⟩
  obtain⟨n,rfl⟩:∃j,n=j+1:=⟨n-1,by omega⟩
  have nW:=(Ma e).1 cF;have tl:=oQ e;rw [aor];unfold KK;rw [acm];simp only [ak];rcases xQ e cF with⟨Z,ao⟩|⟨Z,ao⟩|⟨Z,ao⟩|⟨ai,ao⟩|⟨a,ao,ha,bn,dX⟩|⟨a,b,ao,ha,hb,bn,dX⟩
  ·have e2:flat (bR e)=Lib.decDigits e.N.toNat++[]:=by rw [ao];rfl
   rw [acq _ (by omega) e.N (nW.2.1 Z).1 (nW.2.1 Z).2,e2,List.append_nil]
   simp only [Z,aug,aui,ak]
  ·have e2:flat (bR e)=quo e.S++[]:=by rw [ao];rfl
   rw [aoq e.S (nW.2.2.2.2.1 Z) (by omega),e2,List.append_nil]
   simp only [Z,show¬ (2:Int)=1 by omega,aug,auh,aui,auj,ak]
  ·have e2:flat (bR e)=e.S++[]:=by rw [ao];rfl
   rw [e2,List.append_nil];simp only [Z,show¬ (3:Int)=1 by omega,show¬ (3:Int)=2 by omega,aug,auh,aui,auj]
  ·have hw:=BD e.Op;have T7:=acn (n+1) e.Op (by omega)
   have fZ:ca e.Op=9:=by
    have:e.Op=25∨e.Op=26∨e.Op=27:=by omega
    rcases this with h|h|h<;>rw [h]<;>decide
   have e8:e.ar=[]:=by rw [ao]
   have e2:flat (bR e)=spell (hL e.Op)++([40]++([41]++[])):=by
    generalize e.Op=op at ai ao
    rw [ao];simp only [bR,jv,kR];rw [if_neg (by omega),if_neg (by omega),if_neg (by omega)];rfl
   rw [T7,e2];simp only [ak];rw [gW (show(spell (hL e.Op)).length+([40,41]:aux).length≤1000000000000 by simp;omega)]
   simp only [fZ,e8,show¬ e.Op=1 by omega,show¬ e.Op=2 by omega,show¬ e.Op=3 by omega,show¬ e.Op=18 by omega,show¬ e.Op=9 by omega,auh,auj,aun,fs,aug,aui,aK]
   simp
  ·have F8:da e=30+(da a+1):=by rw [ao];simp [da,mB]
   have qG:=aG a n (by omega) ha (by omega) (by omega)
   have T8:=aG a (n+1) (by omega) ha (by omega) (by omega)
   have F7:=q6 (fG a) a (Nat.le_refl _) ha;have e8:e.ar=[a]:=by rw [ao]
   have aj:=pD a.Op (bR a) 3;have dj:=pD a.Op (bR a) 8
   have e2:bR e=if e.Op=18 then some (dC [110,111,116])::none::fA a.Op (bR a) 3 else if e.Op=9 then some (bc [45])::fA a.Op (bR a) 8 else some (hL e.Op)::some (bc [40])::(bR a++[some (bc [41])]):=by
    generalize e.Op=op at dX ao
    rw [ao];simp only [bR,jv,kR];rw [if_neg (by omega),if_neg (by omega),if_neg (by omega)]
   rw [e2,e8];simp only [aum,aun,ma (show 0<0+1 by omega),aK,List.getD_cons_zero,show¬ e.Op=1 by omega,show¬ e.Op=2 by omega,show¬ e.Op=3 by omega,auh,auj]
   by_cases mK:e.Op=18
   ·have:=Gg (k:=3) qG (by omega)
    rw [mK];simp only [aug,aui,auv,show ca 18=3 from rfl]
    rw [this];simp only [ak];rw [gW (by simp;omega)]
    rfl
   ·by_cases en:e.Op=9
    ·have:=Gg (k:=8) qG (by omega)
     rw [en];simp only [show¬ (9:Int)=18 by omega,aug,auh,aui,auj,auv,auw,show ca 9=8 from rfl]
     rw [this];simp only [ak];rw [gW (by simp;omega)]
     rfl
    ·have T0:20≤e.Op∧e.Op≤24:=by omega
     have fZ:ca e.Op=9:=by
      have:e.Op=20∨e.Op=21∨e.Op=22∨e.Op=23∨e.Op=24:=by omega
      rcases this with h|h|h|h|h<;>rw [h]<;>decide
     have hw:=BD e.Op;rw [acn (n+1) e.Op (by omega),T8,if_neg mK,if_neg en]
     have e3:flat (some (hL e.Op)::some (bc [40])::(bR a++[some (bc [41])]))=spell (hL e.Op)++([40]++(flat (bR a)++([41]++[]))):=by
      simp only [flat,mJ];rfl
     rw [e3];generalize spell (hL e.Op)=W at hw
     simp only [mK,en,fZ,auh,aug,auj,aui,ak];rw [gW (show W.length+(0+1)≤1000000000000 by omega),gW (show(W++([40]:aux)).length+(flat (bR a)).length≤1000000000000 by simp;omega),gW (show((W++([40]:aux))++flat (bR a)).length+(0+1)≤1000000000000 by simp;omega)]
     simp only [show((0+1:Nat):Int)=1 from rfl,show¬ (1:Int)=0 by omega,show((9:Nat):Int)=9 from rfl,aug,auh,aui,auj,aK]
     simp
  ·have F8:da e=30+(da a+1+(da b+1)):=by rw [ao];simp [da,mB]
   have qG:=aG a n (by omega) ha (by omega) (by omega)
   have T9:=aG b n (by omega) hb (by omega) (by omega)
   have F7:=q6 (fG a) a (Nat.le_refl _) ha;have abS:=q6 (fG b) b (Nat.le_refl _) hb;have e8:e.ar=[a,b]:=by rw [ao]
   have fZ:=Bz dX;have anz:=T6 e.Op
   have e2:bR e=fA a.Op (bR a) (if ca e.Op=4 then 5 else ca e.Op)++none::some (nV e.Op)::none::fA b.Op (bR b) (ca e.Op+1):=by
    generalize e.Op=op at dX ao
    rw [ao,Mg dX]
   have aj:=pD a.Op (bR a) (if ca e.Op=4 then 5 else ca e.Op)
   have dj:=pD b.Op (bR b) (ca e.Op+1);have xS:=Gg (k:=ca e.Op+1) T9 (by omega)
   rw [e2,e8,aom (n+1) e.Op dX];simp only [aum,aun,ma (show 0<0+1+1 by omega),aK,List.getD_cons_zero,List.getD_cons_succ,show¬ e.Op=1 by omega,show¬ e.Op=2 by omega,show¬ e.Op=3 by omega,show¬ e.Op=18 by omega,show¬ e.Op=9 by omega,auh,auj,fs,show¬ ca e.Op=9 by omega,show aL 1 (0+1+1)=true from rfl]
   by_cases aC:ca e.Op=4
   ·have sz:=Gg (k:=5) qG (by omega)
    rw [aC]at xS ⊢;rw [if_pos rfl];rw [if_pos aC]at aj;simp only [aug,aui];rw [show xp (n+1) a 5=_ from sz,show xp (n+1) b 5=_ from xS]
    simp only [ak];rw [aC]at dj;rw [gW (by simp;omega),gW (by simp;omega),gW (by simp;omega),gW (by simp only [auq,aum,aun];omega)]
    simp only [aK,mJ,flat];simp
   ·have sz:=Gg (k:=ca e.Op) qG (by omega)
    rw [if_neg aC]at aj ⊢;simp only [aC,auh,auj];rw [sz,bm (by omega),xS]
    simp only [ak];rw [gW (by simp;omega),gW (by simp;omega),gW (by simp;omega),gW (by simp only [auq,aum,aun];omega)]
    simp only [aK,mJ,flat];simp
open Go Go.Ab Go.Proofs
def aou(n d:Nat)(hd:d≤100):∀m i,d<i+m→i≤d→EU n (d:Int) m (ind i) (i:Int)=some (ind d):=by
 intro m;induction m with
 |zero=>intro i h ab;omega
 |succ m aG=>
  intro i hm hi;simp only [EU,R5,R4,aup];by_cases h:i<d
  ·simp only [h,aug,aui];rw [gD (by rw [Gc];simp;omega),bm (by omega),←Ud,aG (i+1) (by omega) (by omega)]
   rfl
  ·simp only [h,auh,auj];rw [show i=d by omega]
def aov{n d:Nat}(hd:d≤100)(hn:d<n):R6 n (d:Int)=some (ind d):=aou n d hd n 0 (by omega) (by omega)
def acs{n:Nat}{e:Expr}(h:iO e)(hn:300≤n)(aY:da e≤1000000):k8 n e=some (e' e):=aot (fG e) e n (Nat.le_refl _) h.1 (by have:=h.2;omega) aY
def aow(n:Nat):rG (n+1)=KM n (rG n) (AR n):=rfl
def aox(n:Nat):AR (n+1)=KN n (rG n) (AR n):=rfl
set_option maxHeartbeats 4000000 in
def aoy{n:Nat}{s:Stmt}{d:Nat}(cF:tw s d)(aY:fst s≤300000)(hn:500≤n)
 (hb:rG n s.Body ((d+1:Nat):Int)=some (fB s.Body (d+1))) (he:rG n s.bz ((d+1:Nat):Int)=some (fB s.bz (d+1))):AR (n+1) s (d:Int)=some (ep s d):=by
 obtain⟨hd,hsh,cp,nW⟩:=(va s d).1 cF;have Z:=oR _ _ cp;have ab:=oR _ _ nW;have hi:=Gc d;obtain⟨Op,Name,Max,A,B,Body,bz⟩:=s
 dsimp only at hb he cp nW Z ab
 have lZ:da A≤300000∧da B≤300000∧dq Body≤300000∧dq bz≤300000:=by simp only [fst]at aY;omega
 obtain⟨f1,f2,f3,f4⟩:=lZ;rw [aox];unfold KN;rw [aov (by omega) (by omega)]
 simp only [ak,iN,bm (show d≤4611686018427387904 by omega)]
 have aO:iO A→k8 n A=some (e' A)∧(e' A).length≤1200000:=λh=>⟨acs h (by omega) (by omega),by have:=mM h;omega⟩
 have cN:iO B→k8 n B=some (e' B)∧(e' B).length≤1200000:=λh=>⟨acs h (by omega) (by omega),by have:=mM h;omega⟩
 have aI:gv Name=true→Name.length≤16:=λh=>by obtain⟨_,_,_,_,_,_,h⟩:=L' h;exact h
 have cV:0≤Max∧Max≤999→xn n Max=some (Lib.decDigits Max.toNat)∧(Lib.decDigits Max.toNat).length≤21:=λh=>⟨acq n (by omega) Max h.1 (by omega),BC Max h.1 (by omega)⟩
 unfold ep;unfold F' at hsh;simp only at hsh
 rcases hsh with⟨aw,ao,C6,ha⟩|⟨ao,ha,q3⟩|⟨aw,ao,ha⟩|⟨ao,ha⟩|⟨ao,C6,OL,ha,q3⟩|⟨ao,OL⟩
 ·obtain⟨aZ,a2⟩:=aO ha;have a3:=aI C6;rcases aw with rfl|rfl
  ·simp (disch:=first|omega|(simp only [auq,aum,aun];omega)) only [aZ,decide_true,cond_true,ak,gD,aK,if_true,dt,cat]
   simp
  ·simp (disch:=first|omega|(simp only [auq,aum,aun];omega)) only [aZ,show¬ (2:Int)=1 by omega,decide_true,decide_false,cond_false,if_false,cond_true,ak,gD,aK,if_true,dt,cat]
   simp
 ·cases ao;obtain⟨aZ,a2⟩:=aO ha;obtain⟨c6,jl⟩:=cN q3;simp (disch:=first|omega|(simp only [auq,aum,aun];omega)) only [aZ,c6,show¬ (3:Int)=1 by omega,show¬ (3:Int)=2 by omega,decide_true,decide_false,cond_false,if_false,cond_true,ak,gD,aK,if_true,dt,cat]
  simp
 ·obtain⟨aZ,a2⟩:=aO ha;rcases aw with rfl|rfl<;>simp (disch:=first|omega|(simp only [auq,aum,aun];omega)) only [aZ,show¬ (4:Int)=1 by omega,show¬ (4:Int)=2 by omega,show¬ (4:Int)=3 by omega,show¬ (7:Int)=1 by omega,show¬ (7:Int)=2 by omega,show¬ (7:Int)=3 by omega,show¬ (7:Int)=4 by omega,show¬ (7:Int)=5 by omega,show¬ (7:Int)=6 by omega,decide_true,decide_false,cond_false,if_false,cond_true,ak,gD,aK,if_true,dt,cat]<;>simp
 ·cases ao;obtain⟨aZ,a2⟩:=aO ha;have b4:¬ (5:Int)=1∧¬ (5:Int)=2∧¬ (5:Int)=3∧¬ (5:Int)=4∧¬ (5:Int)=7∧¬ (5:Int)=8∧¬ (5:Int)=6:=by omega
  obtain⟨e1,e2,e3,gG,vg,BJ,vh⟩:=b4;by_cases dx:bz.length=0
  ·simp (disch:=first|omega|(simp only [auq,aum,aun];omega)) only [aZ,hb,e1,e2,e3,gG,vh,vg,BJ,dx,EX,Int.lt_irrefl,show¬ ((0:Int)<((0:Nat):Int))by omega,decide_true,decide_false,cond_false,if_false,cond_true,ak,gD,aK,if_true,dt,cat]
   simp
  ·have hp:(0:Int)<((bz.length:Nat):Int):=by omega
   simp (disch:=first|omega|(simp only [auq,aum,aun];omega)) only [aZ,hb,he,hp,e1,e2,e3,gG,vh,vg,BJ,dx,EX,decide_true,decide_false,cond_false,if_false,cond_true,ak,gD,aK,if_true,dt,cat]
   simp
 ·cases ao;obtain⟨aZ,a2⟩:=aO ha;obtain⟨c6,jl⟩:=cN q3;obtain⟨m1,m2⟩:=cV ⟨by omega,by omega⟩
  have a3:=aI C6;have b4:¬ (6:Int)=1∧¬ (6:Int)=2∧¬ (6:Int)=3∧¬ (6:Int)=4∧¬ (6:Int)=7∧¬ (6:Int)=8∧¬ (6:Int)=5:=by omega
  obtain⟨e1,e2,e3,gG,vg,BJ,mt⟩:=b4;simp (disch:=first|omega|(simp only [auq,aum,aun];omega)) only [aZ,c6,m1,hb,e1,e2,e3,gG,mt,vg,BJ,decide_true,decide_false,cond_false,if_false,cond_true,ak,gD,aK,if_true,dt,cat]
  simp
 ·cases ao;obtain⟨m1,m2⟩:=cV ⟨by omega,by omega⟩
  have b4:¬ (8:Int)=1∧¬ (8:Int)=2∧¬ (8:Int)=3∧¬ (8:Int)=4∧¬ (8:Int)=7∧¬ (8:Int)=5∧¬ (8:Int)=6:=by omega
  obtain⟨e1,e2,e3,gG,vg,mt,vh⟩:=b4;simp (disch:=first|omega|(simp only [auq,aum,aun];omega)) only [m1,e1,e2,e3,gG,mt,vh,vg,decide_true,decide_false,cond_false,if_false,cond_true,ak,gD,aK,if_true,dt,cat]
  simp
open Go Go.Ab Go.Proofs
def aoz:∀(n:Nat) (l:List Stmt) (d:Nat),kr l d→dq l≤300000→2*dq l+600≤n→rG n l (d:Int)=some (fB l d):=by
 intro n;induction n using Nat.strongRecOn with
 |_ n aG=>
  intro l d cF aY hn;obtain⟨n,rfl⟩:∃k,n=k+2:=⟨n-2,by omega⟩
  have hlen:=rN l;rw [aow];unfold KM
  have gR:∀m i,l.length<i+m→i≤l.length→EW (n+1) (rG (n+1)) (AR (n+1)) l (d:Int) m (fB (l.take i) d) (i:Int)=some (fB l d):=by
   intro m;induction m with
   |zero=>intro i Z ab;omega
   |succ m la=>
    intro i Z ab;simp only [EW,Sd,Sc,aup,auo,mC];by_cases hi:i<l.length
    ·simp only [hi,aug,aui,bw hi,aK];have dy:=Ue l i d hi cF;have xL:kr (l.take i) d:=((Uf (l.take i) (l.drop i) d).1 (by rw [List.take_append_drop];exact cF)).1
     have p6:=oR _ _ xL
     have oA:dq l=dq (l.take i)+(fst (l.getD i default)+1+dq (l.drop (i+1))):=by
      have:dq l=dq (l.take i++l.drop i):=by rw [List.take_append_drop]
      rw [TH,e9 l i default hi]at this;simpa only [dq]using this
     have gn:=la (i+1) (by omega) (by omega)
     rw [xP l i hi,Ug]at gn;generalize l.getD i default=s at dy oA gn
     have hx:=ab3 s d dy;have tl:=fst_eq s;obtain⟨_,_,aoA,aoB⟩:=(va s d).1 dy;have hb:=aG n (by omega) s.Body (d+1) aoA (by omega) (by omega)
     have he:=aG n (by omega) s.bz (d+1) aoB (by omega) (by omega)
     rw [aoy dy (by omega) (by omega) hb he,ak,gD (by omega),aK,bm (by omega)]
     simpa only [fB,List.append_nil]using gn
    ·simp only [hi,auh,auj];rw [List.take_of_length_le (by omega)]
  exact gR (n+1) 0 (by omega) (by omega)
end Go.Ab.Y

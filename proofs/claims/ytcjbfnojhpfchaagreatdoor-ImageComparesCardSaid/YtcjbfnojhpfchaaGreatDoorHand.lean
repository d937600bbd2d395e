/- The types of this claim, and the contracts that were written by hand. -/
import Derived.Test.YtcjbfnojhpfchaaGreatDoorProg
import Derived.WalkKit
import Derived.Lib.Builder
import Derived.Lib.UnsafeStr
import Derived.Laws.Externs
import Derived.Shelf.RegionOpenPlain
import Derived.Lib.Join
import Derived.Lib.Bytealg
import Derived.Lib.ItoaNum
import Derived.Lib.ParseIntBCases
import Derived.Lib.AppendIntMem
import Derived.Lib.AtoiErrMem
import Derived.Test.YtcjbfnojhpfchaaGreatDoorShelf
set_option linter.all false
namespace Go.Ab
abbrev auz(x:Int):Int:=IntKind.i64.wrap x
abbrev auA{α:Type}[Inhabited α](l:List α)(i:Int):α:=l.getD i.toNat default
abbrev auB:=Option Bool
abbrev auC:=Option Int
abbrev V.auD(x:Int):V:=.int .i64 x
end Go.Ab
namespace Go.Ab.Y
open Go Go.Proofs
def fQ(c:UInt8):Bool:=decide ((97≤c.toNat∧c.toNat≤122)∨(48≤c.toNat∧c.toNat≤57)∨c.toNat=95)
def hH(s:aux):Nat:=(s.takeWhile fQ).length
def Pf{s:aux}{k:Nat}(hk:k≤s.length)(h:∀(j:Nat) c,j<k→s[j]? = some c→fQ c=true)(he:∀c,s[k]? = some c→fQ c=false):hH s=k:=by
 unfold hH;induction s generalizing k with
 |nil=>simp at hk ⊢;omega
 |cons c s aG=>
  cases k with
  |zero=>
   have:=he c rfl
   simp [List.takeWhile,this]
  |succ k=>
   have h0:=h 0 c (by omega) rfl
   simp only [List.takeWhile,h0,List.length_cons];rw [aG (by simpa using hk) (λj c hj hc=>h (j+1) c (by omega) (by simpa using hc)) (λc hc=>he c (by simpa using hc))]
def Pg(s:ByteArray)(k:Nat)(h:k<s.size):s.data.toList[k]? = some (s[k]'h):=by
 have:k<s.data.toList.length:=by simpa using h
 rw [List.getElem?_eq_getElem this];rfl
def HS(s:ByteArray)(k:Nat):Prop:=∀(j:Nat) c,j<k→s.data.toList[j]? = some c→fQ c=true
def HS.succ{s:ByteArray}{k:Nat}(h:HS s k)(hk:k<s.size)(hc:fQ (s[k]'hk)=true):HS s (k+1):=by
 intro j c hj ke;by_cases e:j=k
 ·subst e;rw [Pg s j hk]at ke;cases ke;exact hc
 ·exact h j c (by omega) ke
set_option maxRecDepth 100000 in
def ahR(s:ByteArray)(w:World)(hs:s.size≤140737488351232):
 Calls Tryz.prog 174 #[.string s] w λe w'=>e = .returned (.int .i64 (hH s.data.toList))∧∃pos,w'=w.iter s pos:=by
 go_enter Tryz.func174,Tryz.ntmps174
 go_wp2
 go_loopw [] (λw'=>∃k:Nat,w'=w.iter s k∧k≤s.size∧HS s k) (λw'=>s.size-w'.iterPos w.heap.size)
 case atStart=>exact⟨0,rfl,by omega,λj c hj=>by omega⟩
 case round=>
  obtain⟨k,rfl,hk,hin⟩:=hrel;by_cases hp:k<s.size
  ·by_cases ha:(s[k]'hp).toNat<128
   ·have hnx:∀ty,(Instr.next (.pointer (some ⟨w.heap.size,0,none⟩)) true ty).run Tryz.prog (w.iter s k)=_:=λty=>run_next_ascii w s k ty hp ha
    cases hw:fQ (s[k]'hp)
    ·have hlen:=Pf (s:=s.data.toList) (k:=k) (by simpa using hk) hin (λc hc=>by rw [Pg s k hp]at hc;cases hc;exact hw)
     have hc:=of_decide_eq_false hw;clear hw
     go_wp2
     all_goals first
      |(exfalso;simp at *;omega)
      |(go_ret;exact⟨by first |rfl |(rw [hlen];rfl),_,rfl⟩)
    ·have hc:=of_decide_eq_true hw;have hin2:=hin.succ hp hw;clear hw hin
     go_wp2
     all_goals first
      |(exfalso;simp at *;omega)
      |(
       go_roundw
       case rel=>exact⟨k+1,rfl,hp,hin2⟩
       case measure=>simp;omega)
   ·have hnx:∀ty,(Instr.next (.pointer (some ⟨w.heap.size,0,none⟩)) true ty).run Tryz.prog (w.iter s k)=_:=λty=>run_next_any w s k ty hp
    have hd:=(decode_high s k hp (by omega)).1
    have hle:=decode_le s k
    have hlen:=Pf (s:=s.data.toList) (k:=k) (by simpa using hk) hin (λc hc=>by
     rw [Pg s k hp]at hc;cases hc;exact decide_eq_false (by omega))
    generalize Utf8.decode s k=d at hnx hd hle
    go_wp2
    all_goals first
     |(exfalso;simp at *;omega)
     |(go_ret;exact⟨by first |rfl |(rw [hlen];rfl),_,rfl⟩)
  ·have hnx:∀ty,(Instr.next (.pointer (some ⟨w.heap.size,0,none⟩)) true ty).run Tryz.prog (w.iter s k)=_:=λty=>run_next_end w s k ty hp
   have hlen:=Pf (s:=s.data.toList) (k:=k) (by simpa using hk) hin (λc hc=>by
    have:=(List.getElem?_eq_some_iff.1 hc).1
    simp at this;omega)
   obtain rfl:k=s.size:=by omega
   go_wp2
   go_ret
   exact⟨by first|rfl|(rw [hlen];rfl),_,rfl⟩
open Go Go.Proofs Go.RowKit
def X1:(Tryz.prog.info? 120).map (·.size)=some 2:=by kernel_rfl
set_option maxHeartbeats 1000000 in
set_option maxRecDepth 100000 in
def X2(b:Nat)(w:World)(h0:w.cell? ⟨b,0,none⟩=some (.pointer (some ⟨b,0,none⟩))):
 Calls Tryz.prog 113 #[.pointer (some ⟨b,0,none⟩)] w λe w'=>e = .returned (.tuple #[])∧w'=w:=by
 obtain⟨j,hj,_⟩:=Option.map_eq_some_iff.1 X1
 go_enter Tryz.func113,Tryz.ntmps113
 go_wp2
 rw [Lib.run_neq_ptr_same w _ Tryz.underlying117 hj]
 go_wp2
 go_end0
 exact⟨rfl,rfl⟩
set_option maxHeartbeats 1000000 in
set_option maxRecDepth 100000 in
def X3(b:Nat)(w:World)(T:TypeId)(k:Nat)(h0:w.cell? ⟨b,0,none⟩=some (.pointer none))(hsh:w.shape? b=some (T,k))(hk:0<k)(hlies:liesAt Tryz.prog Tryz.prog.depth T (k / Tryz.prog.cellsOf T) 0 120 1=true)(hfz:w.frozen? ⟨b,0,none⟩=false):
 Calls Tryz.prog 113 #[.pointer (some ⟨b,0,none⟩)] w λe w'=>e = .returned (.tuple #[])∧w'=w.setCell ⟨b,0,none⟩ (.pointer (some ⟨b,0,none⟩)):=by
 obtain⟨j,hj,hjs⟩:=Option.map_eq_some_iff.1 X1
 go_enter Tryz.func113,Tryz.ntmps113
 go_wp2
 rw [Lib.run_to_unsafe w ⟨b,0,none⟩ Tryz.underlying117 Tryz.underlying256 hj (by rw [hjs];decide) hsh hk]
 simp only [Result.andThen];rw [Oper.upon_value]
 go_wp2
 rw [run_callFunc_extern Tryz.func184 (by kernel_rfl) (by kernel_rfl) (by kernel_rfl) (e:=Extern.AbiNoEscape.same) (by kernel_rfl)]
 rw [Lib.run_noEscape];simp only [Result.andThen];rw [Oper.upon_value]
 go_wp2
 rw [Lib.run_from_unsafe w ⟨b,0,none⟩ Tryz.underlying256 Tryz.underlying117 hj hsh hlies];simp only [Result.andThen];rw [Oper.upon_value]
 go_wp2
 go_end0
 exact⟨rfl,rfl⟩
def cellsByte:Tryz.prog.cellsOf 5=1:=by kernel_rfl
set_option maxHeartbeats 2000000 in
set_option maxRecDepth 100000 in
def X4(b:Nat)(w:World)(h:w.cell? ⟨b,1,none⟩=some (.slice none 0 0)):
 Calls Tryz.prog 66 #[.pointer (some ⟨b,0,none⟩)] w λe w'=>e = .returned (.string ⟨#[]⟩)∧w'=w.drew:=by
 have hUS:(Builtin.unsafeString_ #[191,3] 9 #[.pointer none,.int .i64 0]).run Tryz.prog w.drew = .ok (.string .empty) w.drew:=Lib.run_unsafeString_none w.drew _ _ _ none;have c1:w.drew.cell? ⟨b,1,none⟩=some (.slice none 0 0):=h;have hSD:(Builtin.unsafeSliceData_ #[118] 191 #[.slice none 0 0]).run Tryz.prog w.drew = .ok (.pointer none) w.drew:=rfl;have mixed:Tryz.prog.follows .mixedOrders=true:=by kernel_rfl
 go_enter Tryz.func66,Tryz.ntmps66
 go_wp2
 go_region_o
 all_goals (go_wp2;go_ret;exact⟨rfl,rfl⟩)
set_option maxHeartbeats 2000000 in
set_option maxRecDepth 100000 in
def X5(b g cap:Nat)(w:World)(hc0:cap≠0)(h:w.cell? ⟨b,1,none⟩=some (.slice (some ⟨g,0,none⟩) 0 cap)):
 Calls Tryz.prog 66 #[.pointer (some ⟨b,0,none⟩)] w λe w'=>e = .returned (.string ⟨#[]⟩)∧w'=w.drew:=by
 have hUS:(Builtin.unsafeString_ #[191,3] 9 #[.pointer (some ⟨g,0,none⟩),.int .i64 0]).run Tryz.prog w.drew = .ok (.string .empty) w.drew:=Lib.run_unsafeString_none w.drew _ _ _ _;have c1:w.drew.cell? ⟨b,1,none⟩=some (.slice (some ⟨g,0,none⟩) 0 cap):=h;have hSD:(Builtin.unsafeSliceData_ #[118] 191 #[.slice (some ⟨g,0,none⟩) 0 cap]).run Tryz.prog w.drew = .ok (.pointer (some ⟨g,0,none⟩)) w.drew:=Lib.run_unsafeSliceData_row _ _ _ _ _ _ hc0;clear hc0;have mixed:Tryz.prog.follows .mixedOrders=true:=by kernel_rfl
 go_enter Tryz.func66,Tryz.ntmps66
 go_wp2
 go_region_o
 all_goals (go_wp2;go_ret;exact⟨rfl,rfl⟩)
set_option maxHeartbeats 2000000 in
set_option maxRecDepth 100000 in
def X6(b g:Nat)(w:World)(vs:List Value)(h:w.cell? ⟨b,1,none⟩=some (.slice (some ⟨g,0,none⟩) 0 0))(hb:b<w.heap.size)(hg:w.heap[g]? = some (.cells ⟨vs⟩ 5 (0,0))):
 Calls Tryz.prog 66 #[.pointer (some ⟨b,0,none⟩)] w λe w'=>e = .returned (.string ⟨#[]⟩)∧w'=(w.drew.alloc (.view ⟨g,0,none⟩ 5)):=by
 have hUS:∀(q:Option Addr) (W:World),(Builtin.unsafeString_ #[191,3] 9 #[.pointer q,.int .i64 0]).run Tryz.prog W = .ok (.string .empty) W:=λq W=>Lib.run_unsafeString_none W _ _ _ q
 have c1:w.drew.cell? ⟨b,1,none⟩=some (.slice (some ⟨g,0,none⟩) 0 0):=h
 have hSD:(Builtin.unsafeSliceData_ #[118] 191 #[.slice (some ⟨g,0,none⟩) 0 0]).run Tryz.prog w.drew = .ok (.pointer (some ⟨w.drew.heap.size,0,none⟩)) (w.drew.alloc (.view ⟨g,0,none⟩ 5)):=
  Lib.run_unsafeSliceData_zero w.drew _ _ 5 Tryz.underlying191 ⟨g,0,none⟩ 0 (5,vs.length) (by have hg':w.drew.heap[g]? = some (.cells ⟨vs⟩ 5 (0,0)):=hg;simp [World.shape?,hg'])
 have c2:(w.drew.alloc (.view ⟨g,0,none⟩ 5)).cell? ⟨b,1,none⟩=some (.slice (some ⟨g,0,none⟩) 0 0):=by
  unfold World.cell? at h ⊢;rw [show(w.drew.alloc (.view ⟨g,0,none⟩ 5)).heap[b]? = w.heap[b]? from Lib.alloc_old w.drew _ b hb];exact h
 have c3:(w.alloc (.view ⟨g,0,none⟩ 5)).drew.cell? ⟨b,1,none⟩=some (.slice (some ⟨g,0,none⟩) 0 0):=c2;have mixed:Tryz.prog.follows .mixedOrders=true:=by kernel_rfl
 go_enter Tryz.func66,Tryz.ntmps66
 go_wp2
 go_region_o
 all_goals (go_wp2;go_ret;exact⟨rfl,rfl⟩)
set_option maxHeartbeats 2000000 in
set_option maxRecDepth 100000 in
def X7(b g cap:Nat)(w:World)(vs:List Value)(l:aux)(h0:l≠[])(h:w.cell? ⟨b,1,none⟩=some (.slice (some ⟨g,0,none⟩) l.length cap))(hg:w.heap[g]? = some (.cells ⟨vs⟩ 5 (0,0)))
 (hn:l.length≤cap) (hcap:cap≤vs.length) (h63:l.length≤9223372036854775807) (hc:∀(j:Nat) (x:UInt8),l[j]? = some x→vs[j]? = some (Value.int .u8 x.toNat)):
 Calls Tryz.prog 66 #[.pointer (some ⟨b,0,none⟩)] w λe w'=>e = .returned (.string ⟨l.toArray⟩)∧w'=w.drew.freeze ⟨g,0,none⟩ l.length:=by
 have hl0:l.length≠0:=by simpa using h0
 have c1:w.drew.cell? ⟨b,1,none⟩=some (.slice (some ⟨g,0,none⟩) l.length cap):=h;have hg':w.drew.heap[g]? = some (.cells ⟨vs⟩ 5 (0,0)):=hg;have hSD:(Builtin.unsafeSliceData_ #[118] 191 #[.slice (some ⟨g,0,none⟩) l.length cap]).run Tryz.prog w.drew = .ok (.pointer (some ⟨g,0,none⟩)) w.drew:=Lib.run_unsafeSliceData_row _ _ _ _ _ _ (by omega)
 have hUS:(Builtin.unsafeString_ #[191,3] 9 #[.pointer (some ⟨g,0,none⟩),.int .i64 l.length]).run Tryz.prog w.drew = .ok (.string ⟨l.toArray⟩) (w.drew.freeze ⟨g,0,none⟩ l.length):=
  Lib.run_unsafeString_row w.drew 191 3 9 5 Tryz.underlying191 cellsByte g vs.length (by simp [World.shape?,hg']) l h0 (by omega) h63 (λj x hx=>by
   have:=hc j x hx
   rw [show(⟨g,0,none⟩:Addr).add j=⟨g,j,none⟩by unfold Addr.add;split<;>simp_all,Go.Ab.cell_of_heap hg',this])
 have mixed:Tryz.prog.follows .mixedOrders=true:=by kernel_rfl
 go_enter Tryz.func66,Tryz.ntmps66
 go_wp2
 go_region_o
 all_goals (go_wp2;go_ret;exact⟨rfl,rfl⟩)
open Go Go.Ab Go.Proofs
abbrev atb(x:Int):V:=.int .i32 x
abbrev ahS(x:Int):V:=.int .i64 x
abbrev atc(x:Int):V:=.int .u32 x
abbrev atd(x:Int):V:=.int .u64 x
abbrev cQ(x:Int):V:=.int .u8 x
def ate{α β dG:Type}{a:α}{f:α→dG}{g:β→dG}{r:dG}(h:ik.on (.inl a) f g=r):f a=r:=h
def atf{α β dG:Type}{b:β}{f:α→dG}{g:β→dG}{r:dG}(h:ik.on (.inr b) f g=r):g b=r:=h
abbrev atg(x:Bool):V:=.bool x
abbrev bF(x:aux):V:=.str x
structure bq where
 Kind:Int
 N:Int
 S:aux
instance:Inhabited bq:=⟨⟨0,0,([]:aux)⟩⟩
def d9(x:bq):V:=.agg [.int .i64 x.Kind,.int .i64 x.N,.str x.S]
structure Version where
 cl:Int
 br:bq
instance:Inhabited Version:=⟨⟨0,(⟨0,0,([]:aux)⟩:bq)⟩⟩
def hY(x:Version):V:=.agg [.int .i64 x.cl,.int .i64 x.br.Kind,.int .i64 x.br.N,.str x.br.S]
structure Row where
 Key:aux
 bj:List Version
instance:Inhabited Row:=⟨⟨([]:aux),([]:List Version)⟩⟩
def cH(x:Row):V:=.agg [.str x.Key,ag 4 hY x.bj]
structure az where
 cd:Int
 b2:Int
 Rows:List Row
instance:Inhabited az:=⟨⟨0,0,([]:List Row)⟩⟩
def ahT(x:az):V:=.agg [.int .i64 x.cd,.int .i64 x.b2,ag 2 cH x.Rows]
structure Param where
 Name:aux
 fi:Int
instance:Inhabited Param:=⟨⟨([]:aux),0⟩⟩
def ed(x:Param):V:=.agg [.str x.Name,.int .i64 x.fi]
structure Expr where
 Op:Int
 N:Int
 S:aux
 ar:List Expr
instance:Inhabited Expr:=⟨⟨0,0,([]:aux),([]:List Expr)⟩⟩
mutual
def b3:Expr→V
 |⟨Op,N,S,ar⟩=>.agg [.int .i64 Op,.int .i64 N,.str S,.bI 4 ar.length λi=>(Dg ar).getD i .eC]
def Dg:List Expr→List V
 |[]=>[]
 |x::l=>b3 x::Dg l
end
def X8:∀l:List Expr,Dg l=l.map b3
 |[]=>rfl
 |x::l=>by rw [Dg,X8 l];rfl
def X9(l:List Expr)(i:Nat)(h:i<l.length):(Dg l).getD i .eC=b3 (l.getD i default):=by
 rw [X8];simp [List.getD,List.getElem?_eq_getElem h]
def Ph(x:Expr):kE (b3 x).cells [.int .i64 x.Op,.int .i64 x.N,.str x.S,ag 4 b3 x.ar]:=by
 cases x;exact .cons (ib _) (.cons (ib _) (.cons (ib _) (.cons (re λi hi=>X9 _ i hi) (kE.nil))))
def Dh(x:Expr):kE [.int .i64 x.Op,.int .i64 x.N,.str x.S,ag 4 b3 x.ar] (b3 x).cells:=by
 cases x;exact .cons (ib _) (.cons (ib _) (.cons (ib _) (.cons (re λi hi=>(X9 _ i hi).symm) (kE.nil))))
def fR(x:Expr):hD (b3 x) (.agg [.int .i64 x.Op,.int .i64 x.N,.str x.S,ag 4 b3 x.ar]):=by
 have h:=Ph x;cases x;exact Xa h
structure Stmt where
 Op:Int
 Name:aux
 Max:Int
 A:Expr
 B:Expr
 Body:List Stmt
 bz:List Stmt
instance:Inhabited Stmt:=⟨⟨0,([]:aux),0,(⟨0,0,([]:aux),([]:List Expr)⟩:Expr),(⟨0,0,([]:aux),([]:List Expr)⟩:Expr),([]:List Stmt),([]:List Stmt)⟩⟩
mutual
def bT:Stmt→V
 |⟨Op,Name,Max,A,B,Body,bz⟩=>.agg [.int .i64 Op,.str Name,.int .i64 Max,.int .i64 A.Op,.int .i64 A.N,.str A.S,ag 4 b3 A.ar,.int .i64 B.Op,.int .i64 B.N,.str B.S,ag 4 b3 B.ar,.bI 13 Body.length λi=>(yX Body).getD i .eC,.bI 13 bz.length λi=>(yX bz).getD i .eC]
def yX:List Stmt→List V
 |[]=>[]
 |x::l=>bT x::yX l
end
def X':∀l:List Stmt,yX l=l.map bT
 |[]=>rfl
 |x::l=>by rw [yX,X' l];rfl
def HT(l:List Stmt)(i:Nat)(h:i<l.length):(yX l).getD i .eC=bT (l.getD i default):=by
 rw [X'];simp [List.getD,List.getElem?_eq_getElem h]
def ahU(x:Stmt):kE (bT x).cells [.int .i64 x.Op,.str x.Name,.int .i64 x.Max,.int .i64 x.A.Op,.int .i64 x.A.N,.str x.A.S,ag 4 b3 x.A.ar,.int .i64 x.B.Op,.int .i64 x.B.N,.str x.B.S,ag 4 b3 x.B.ar,ag 13 bT x.Body,ag 13 bT x.bz]:=by
 cases x;exact .cons (ib _) (.cons (ib _) (.cons (ib _) (.cons (ib _) (.cons (ib _) (.cons (ib _) (.cons (ib _) (.cons (ib _) (.cons (ib _) (.cons (ib _) (.cons (ib _) (.cons (re λi hi=>HT _ i hi) (.cons (re λi hi=>HT _ i hi) (kE.nil)))))))))))))
def X_(x:Stmt):kE [.int .i64 x.Op,.str x.Name,.int .i64 x.Max,.int .i64 x.A.Op,.int .i64 x.A.N,.str x.A.S,ag 4 b3 x.A.ar,.int .i64 x.B.Op,.int .i64 x.B.N,.str x.B.S,ag 4 b3 x.B.ar,ag 13 bT x.Body,ag 13 bT x.bz] (bT x).cells:=by
 cases x;exact .cons (ib _) (.cons (ib _) (.cons (ib _) (.cons (ib _) (.cons (ib _) (.cons (ib _) (.cons (ib _) (.cons (ib _) (.cons (ib _) (.cons (ib _) (.cons (ib _) (.cons (re λi hi=>(HT _ i hi).symm) (.cons (re λi hi=>(HT _ i hi).symm) (kE.nil)))))))))))))
def gT(x:Stmt):hD (bT x) (.agg [.int .i64 x.Op,.str x.Name,.int .i64 x.Max,.int .i64 x.A.Op,.int .i64 x.A.N,.str x.A.S,ag 4 b3 x.A.ar,.int .i64 x.B.Op,.int .i64 x.B.N,.str x.B.S,ag 4 b3 x.B.ar,ag 13 bT x.Body,ag 13 bT x.bz]):=by
 have h:=ahU x;cases x;exact Xa h
structure bb where
 Name:aux
 Params:List Param
 Body:List Stmt
instance:Inhabited bb:=⟨⟨([]:aux),([]:List Param),([]:List Stmt)⟩⟩
def d'(x:bb):V:=.agg [.str x.Name,ag 2 ed x.Params,ag 13 bT x.Body]
structure Outcome where
 Status:Int
 Code:Int
 Out:List bq
instance:Inhabited Outcome:=⟨⟨0,0,([]:List bq)⟩⟩
def ahV(x:Outcome):V:=.agg [.int .i64 x.Status,.int .i64 x.Code,ag 3 d9 x.Out]
structure eN where
 Client:Int
 Seq:Int
 Outcome:Outcome
instance:Inhabited eN:=⟨⟨0,0,(⟨0,0,([]:List bq)⟩:Outcome)⟩⟩
def im(x:eN):V:=.agg [.int .i64 x.Client,.int .i64 x.Seq,.int .i64 x.Outcome.Status,.int .i64 x.Outcome.Code,ag 3 d9 x.Outcome.Out]
structure bL where
 Client:Int
 Next:Int
 bJ:List eN
instance:Inhabited bL:=⟨⟨0,0,([]:List eN)⟩⟩
def dr(x:bL):V:=.agg [.int .i64 x.Client,.int .i64 x.Next,ag 5 im x.bJ]
structure Part where
 Id:Int
 dY:aux
 Node:Int
 ft:Int
 gI:aux
instance:Inhabited Part:=⟨⟨0,([]:aux),0,0,([]:aux)⟩⟩
def cX(x:Part):V:=.agg [.int .i64 x.Id,.str x.dY,.int .i64 x.Node,.int .i64 x.ft,.str x.gI]
structure b7 where
 Version:Int
 aD:List Part
instance:Inhabited b7:=⟨⟨0,([]:List Part)⟩⟩
def ahW(x:b7):V:=.agg [.int .i64 x.Version,ag 5 cX x.aD]
structure bh where
 Key:aux
 Count:Int
instance:Inhabited bh:=⟨⟨([]:aux),0⟩⟩
def dN(x:bh):V:=.agg [.str x.Key,.int .i64 x.Count]
structure fc where
 dH:Bool
 Reads:List aux
 cm:List aux
instance:Inhabited fc:=⟨⟨false,([]:List aux),([]:List aux)⟩⟩
def ahX(x:fc):V:=.agg [.bool x.dH,ag 1 bF x.Reads,ag 1 bF x.cm]
structure Request where
 Client:Int
 Seq:Int
 bb:aux
 ar:List bq
 ez:Bool
 bk:fc
instance:Inhabited Request:=⟨⟨0,0,([]:aux),([]:List bq),false,(⟨false,([]:List aux),([]:List aux)⟩:fc)⟩⟩
def eo(x:Request):V:=.agg [.int .i64 x.Client,.int .i64 x.Seq,.str x.bb,ag 3 d9 x.ar,.bool x.ez,.bool x.bk.dH,ag 1 bF x.bk.Reads,ag 1 bF x.bk.cm]
structure bU where
 Pos:Int
 az:az
 cc:List bb
 cJ:List bL
 Place:b7
 bh:List bh
 Queue:List Request
 de:Int
instance:Inhabited bU:=⟨⟨0,(⟨0,0,([]:List Row)⟩:az),([]:List bb),([]:List bL),(⟨0,([]:List Part)⟩:b7),([]:List bh),([]:List Request),0⟩⟩
def Pi(x:bU):V:=.agg [.int .i64 x.Pos,.int .i64 x.az.cd,.int .i64 x.az.b2,ag 2 cH x.az.Rows,ag 3 d' x.cc,ag 3 dr x.cJ,.int .i64 x.Place.Version,ag 5 cX x.Place.aD,ag 2 dN x.bh,ag 8 eo x.Queue,.int .u64 x.de]
structure bo where
 Key:aux
 br:bq
instance:Inhabited bo:=⟨⟨([]:aux),(⟨0,0,([]:aux)⟩:bq)⟩⟩
def es(x:bo):V:=.agg [.str x.Key,.int .i64 x.br.Kind,.int .i64 x.br.N,.str x.br.S]
structure fp where
 s:aux
 at_:Int
 e:Int
instance:Inhabited fp:=⟨⟨([]:aux),0,0⟩⟩
def ath(x:fp):V:=.agg [.str x.s,.int .i64 x.at_,.int .i64 x.e]
structure pg where
 gh:bU
 Pj:List bo
 sources:List aux
instance:Inhabited pg:=⟨⟨(⟨0,(⟨0,0,([]:List Row)⟩:az),([]:List bb),([]:List bL),(⟨0,([]:List Part)⟩:b7),([]:List bh),([]:List Request),0⟩:bU),([]:List bo),([]:List aux)⟩⟩
def ati(x:pg):V:=.agg [.int .i64 x.gh.Pos,.int .i64 x.gh.az.cd,.int .i64 x.gh.az.b2,ag 2 cH x.gh.az.Rows,ag 3 d' x.gh.cc,ag 3 dr x.gh.cJ,.int .i64 x.gh.Place.Version,ag 5 cX x.gh.Place.aD,ag 2 dN x.gh.bh,ag 8 eo x.gh.Queue,.int .u64 x.gh.de,ag 4 es x.Pj,ag 1 bF x.sources]
structure Token where
 Kind:Int
 Text:aux
 N:Int
 lE:Int
instance:Inhabited Token:=⟨⟨0,([]:aux),0,0⟩⟩
def cT(x:Token):V:=.agg [.int .i64 x.Kind,.str x.Text,.int .i64 x.N,.int .i64 x.lE]
structure Ya where
 ahY:Int
 seq:Int
instance:Inhabited Ya:=⟨⟨0,0⟩⟩
def atj(x:Ya):V:=.agg [.int .i64 x.ahY,.int .i64 x.seq]
structure ct where
 qf:Bool
 Stmt:Stmt
 Di:Int
 Expr:Expr
 ahZ:Bool
instance:Inhabited ct:=⟨⟨false,(⟨0,([]:aux),0,(⟨0,0,([]:aux),([]:List Expr)⟩:Expr),(⟨0,0,([]:aux),([]:List Expr)⟩:Expr),([]:List Stmt),([]:List Stmt)⟩:Stmt),0,(⟨0,0,([]:aux),([]:List Expr)⟩:Expr),false⟩⟩
def jp(x:ct):V:=.agg [.bool x.qf,.int .i64 x.Stmt.Op,.str x.Stmt.Name,.int .i64 x.Stmt.Max,.int .i64 x.Stmt.A.Op,.int .i64 x.Stmt.A.N,.str x.Stmt.A.S,ag 4 b3 x.Stmt.A.ar,.int .i64 x.Stmt.B.Op,.int .i64 x.Stmt.B.N,.str x.Stmt.B.S,ag 4 b3 x.Stmt.B.ar,ag 13 bT x.Stmt.Body,ag 13 bT x.Stmt.bz,.int .i64 x.Di,.int .i64 x.Expr.Op,.int .i64 x.Expr.N,.str x.Expr.S,ag 4 b3 x.Expr.ar,.bool x.ahZ]
structure aX where
 tokens:List Token
 at_:Int
instance:Inhabited aX:=⟨⟨([]:List Token),0⟩⟩
def atk(x:aX):V:=.agg [ag 4 cT x.tokens,.int .i64 x.at_]
structure Yb where
 line:Int
 code:Int
instance:Inhabited Yb:=⟨⟨0,0⟩⟩
def atl(x:Yb):V:=.agg [.int .i64 x.line,.int .i64 x.code]
structure k4 where
 s:aux
 at_:Int
 e:Int
instance:Inhabited k4:=⟨⟨([]:aux),0,0⟩⟩
def atm(x:k4):V:=.agg [.str x.s,.int .i64 x.at_,.int .i64 x.e]
structure ph where
 s:aux
 at_:Int
 e:Int
instance:Inhabited ph:=⟨⟨([]:aux),0,0⟩⟩
def atn(x:ph):V:=.agg [.str x.s,.int .i64 x.at_,.int .i64 x.e]
structure k5 where
 name:Bool
 a:Bool
 b:Bool
 max:Bool
 body:Bool
 other:Bool
instance:Inhabited k5:=⟨⟨false,false,false,false,false,false⟩⟩
def ato(x:k5):V:=.agg [.bool x.name,.bool x.a,.bool x.b,.bool x.max,.bool x.body,.bool x.other]
structure hZ where
 s:aux
 at_:Int
 e:Int
instance:Inhabited hZ:=⟨⟨([]:aux),0,0⟩⟩
def atp(x:hZ):V:=.agg [.str x.s,.int .i64 x.at_,.int .i64 x.e]
def tt:dI:=[
 (1,⟨.a',1,8,[.aV],[]⟩),
 (2,⟨.int .i64,1,8,[.int .i64 0],[]⟩),
 (3,⟨.int .i64,1,8,[.int .i64 0],[]⟩),
 (4,⟨.bool,1,1,[.bool false],[]⟩),
 (5,⟨.int .u8,1,1,[.int .u8 0],[]⟩),
 (6,⟨.int .u8,1,1,[.int .u8 0],[]⟩),
 (7,⟨.cb [(0,2,1),(1,3,1),(2,4,1),(3,6,1)],4,24,[.int .i64 0,.int .i64 0,.bool false,.int .u8 0],[]⟩),
 (8,⟨.cb [(0,2,1),(1,3,1),(2,4,1),(3,6,1)],4,24,[.int .i64 0,.int .i64 0,.bool false,.int .u8 0],[]⟩),
 (9,⟨.str,1,16,[.str ([]:aux)],[]⟩),
 (10,⟨.str,1,16,[.str ([]:aux)],[]⟩),
 (11,⟨.str,1,16,[.str ([]:aux)],[]⟩),
 (12,⟨.int .u64,1,8,[.int .u64 0],[]⟩),
 (13,⟨.cb [(0,9,1),(1,12,1)],2,24,[.str ([]:aux),.int .u64 0],[]⟩),
 (14,⟨.cb [(0,9,1),(1,12,1)],2,24,[.str ([]:aux),.int .u64 0],[]⟩),
 (15,⟨.ptr,1,8,[.eC],[]⟩),
 (16,⟨.ptr,1,8,[.eC],[]⟩),
 (17,⟨.ptr,1,8,[.eC],[]⟩),
 (18,⟨.cb [(0,17,1)],1,8,[.eC],[]⟩),
 (19,⟨.cb [(0,17,1)],1,8,[.eC],[]⟩),
 (20,⟨.o0,1,16,[.iw],[]⟩),
 (21,⟨.int .i32,1,4,[.int .i32 0],[]⟩),
 (22,⟨.bI 68,1,24,[ag 2 cH ([]:List Row)],[]⟩),
 (23,⟨.cb [(0,2,1),(1,2,1),(2,22,1)],3,40,[.int .i64 0,.int .i64 0,ag 2 cH ([]:List Row)],[]⟩),
 (24,⟨.cb [(0,2,1),(1,2,1),(2,22,1)],3,40,[.int .i64 0,.int .i64 0,ag 2 cH ([]:List Row)],[]⟩),
 (25,⟨.bI 52,1,24,[ag 3 d' ([]:List bb)],[]⟩),
 (26,⟨.bI 101,1,24,[ag 3 dr ([]:List bL)],[]⟩),
 (27,⟨.bI 61,1,24,[ag 5 cX ([]:List Part)],[]⟩),
 (28,⟨.cb [(0,2,1),(1,27,1)],2,32,[.int .i64 0,ag 5 cX ([]:List Part)],[]⟩),
 (29,⟨.cb [(0,2,1),(1,27,1)],2,32,[.int .i64 0,ag 5 cX ([]:List Part)],[]⟩),
 (30,⟨.bI 107,1,24,[ag 2 dN ([]:List bh)],[]⟩),
 (31,⟨.bI 59,1,24,[ag 8 eo ([]:List Request)],[]⟩),
 (32,⟨.int .u64,1,8,[.int .u64 0],[]⟩),
 (33,⟨.cb [(0,2,1),(1,24,3),(4,25,1),(5,26,1),(6,29,2),(8,30,1),(9,31,1),(10,32,1)],11,184,[.int .i64 0,.int .i64 0,.int .i64 0,ag 2 cH ([]:List Row),ag 3 d' ([]:List bb),ag 3 dr ([]:List bL),.int .i64 0,ag 5 cX ([]:List Part),ag 2 dN ([]:List bh),ag 8 eo ([]:List Request),.int .u64 0],[]⟩),
 (34,⟨.cb [(0,2,1),(1,24,3),(4,25,1),(5,26,1),(6,29,2),(8,30,1),(9,31,1),(10,32,1)],11,184,[.int .i64 0,.int .i64 0,.int .i64 0,ag 2 cH ([]:List Row),ag 3 d' ([]:List bb),ag 3 dr ([]:List bL),.int .i64 0,ag 5 cX ([]:List Part),ag 2 dN ([]:List bh),ag 8 eo ([]:List Request),.int .u64 0],[]⟩),
 (35,⟨.a',1,8,[.aV],[]⟩),
 (36,⟨.a',1,8,[.aV],[]⟩),
 (37,⟨.int .i64,1,8,[.int .i64 0],[]⟩),
 (39,⟨.a',1,8,[.aV],[]⟩),
 (41,⟨.a',1,8,[.aV],[]⟩),
 (42,⟨.a',1,8,[.aV],[]⟩),
 (43,⟨.a',1,8,[.aV],[]⟩),
 (44,⟨.a',1,8,[.aV],[]⟩),
 (45,⟨.a',1,8,[.aV],[]⟩),
 (46,⟨.a',1,8,[.aV],[]⟩),
 (47,⟨.a',1,8,[.aV],[]⟩),
 (48,⟨.a',1,8,[.aV],[]⟩),
 (49,⟨.bI 109,1,24,[ag 2 ed ([]:List Param)],[]⟩),
 (50,⟨.bI 167,1,24,[ag 13 bT ([]:List Stmt)],[]⟩),
 (51,⟨.cb [(0,9,1),(1,49,1),(2,50,1)],3,64,[.str ([]:aux),ag 2 ed ([]:List Param),ag 13 bT ([]:List Stmt)],[]⟩),
 (52,⟨.cb [(0,9,1),(1,49,1),(2,50,1)],3,64,[.str ([]:aux),ag 2 ed ([]:List Param),ag 13 bT ([]:List Stmt)],[]⟩),
 (53,⟨.a',1,8,[.aV],[]⟩),
 (54,⟨.bI 63,1,24,[ag 3 d9 ([]:List bq)],[]⟩),
 (55,⟨.bI 9,1,24,[ag 1 bF ([]:List aux)],[]⟩),
 (56,⟨.cb [(0,4,1),(1,55,1),(2,55,1)],3,56,[.bool false,ag 1 bF ([]:List aux),ag 1 bF ([]:List aux)],[]⟩),
 (57,⟨.cb [(0,4,1),(1,55,1),(2,55,1)],3,56,[.bool false,ag 1 bF ([]:List aux),ag 1 bF ([]:List aux)],[]⟩),
 (58,⟨.cb [(0,3,1),(1,2,1),(2,9,1),(3,54,1),(4,4,1),(5,57,3)],8,120,[.int .i64 0,.int .i64 0,.str ([]:aux),ag 3 d9 ([]:List bq),.bool false,.bool false,ag 1 bF ([]:List aux),ag 1 bF ([]:List aux)],[]⟩),
 (59,⟨.cb [(0,3,1),(1,2,1),(2,9,1),(3,54,1),(4,4,1),(5,57,3)],8,120,[.int .i64 0,.int .i64 0,.str ([]:aux),ag 3 d9 ([]:List bq),.bool false,.bool false,ag 1 bF ([]:List aux),ag 1 bF ([]:List aux)],[]⟩),
 (60,⟨.cb [(0,3,1),(1,9,1),(2,3,1),(3,3,1),(4,9,1)],5,56,[.int .i64 0,.str ([]:aux),.int .i64 0,.int .i64 0,.str ([]:aux)],[]⟩),
 (61,⟨.cb [(0,3,1),(1,9,1),(2,3,1),(3,3,1),(4,9,1)],5,56,[.int .i64 0,.str ([]:aux),.int .i64 0,.int .i64 0,.str ([]:aux)],[]⟩),
 (62,⟨.cb [(0,3,1),(1,2,1),(2,9,1)],3,32,[.int .i64 0,.int .i64 0,.str ([]:aux)],[]⟩),
 (63,⟨.cb [(0,3,1),(1,2,1),(2,9,1)],3,32,[.int .i64 0,.int .i64 0,.str ([]:aux)],[]⟩),
 (64,⟨.cb [(0,2,1),(1,63,3)],4,40,[.int .i64 0,.int .i64 0,.int .i64 0,.str ([]:aux)],[]⟩),
 (65,⟨.cb [(0,2,1),(1,63,3)],4,40,[.int .i64 0,.int .i64 0,.int .i64 0,.str ([]:aux)],[]⟩),
 (66,⟨.bI 65,1,24,[ag 4 hY ([]:List Version)],[]⟩),
 (67,⟨.cb [(0,9,1),(1,66,1)],2,40,[.str ([]:aux),ag 4 hY ([]:List Version)],[]⟩),
 (68,⟨.cb [(0,9,1),(1,66,1)],2,40,[.str ([]:aux),ag 4 hY ([]:List Version)],[]⟩),
 (69,⟨.a',1,8,[.aV],[]⟩),
 (71,⟨.a',1,8,[.aV],[]⟩),
 (72,⟨.bI 149,1,24,[ag 4 es ([]:List bo)],[]⟩),
 (74,⟨.a',1,8,[.aV],[]⟩),
 (76,⟨.a',1,8,[.aV],[]⟩),
 (78,⟨.a',1,8,[.aV],[]⟩),
 (80,⟨.a',1,8,[.aV],[]⟩),
 (82,⟨.a',1,8,[.aV],[]⟩),
 (84,⟨.a',1,8,[.aV],[]⟩),
 (86,⟨.a',1,8,[.aV],[]⟩),
 (88,⟨.a',1,8,[.aV],[]⟩),
 (90,⟨.a',1,8,[.aV],[]⟩),
 (91,⟨.a',1,8,[.aV],[]⟩),
 (92,⟨.a',1,8,[.aV],[]⟩),
 (93,⟨.a',1,8,[.aV],[]⟩),
 (94,⟨.a',1,8,[.aV],[]⟩),
 (95,⟨.a',1,8,[.aV],[]⟩),
 (96,⟨.a',1,8,[.aV],[]⟩),
 (98,⟨.a',1,8,[.aV],[]⟩),
 (99,⟨.bI 105,1,24,[ag 5 im ([]:List eN)],[]⟩),
 (100,⟨.cb [(0,3,1),(1,2,1),(2,99,1)],3,40,[.int .i64 0,.int .i64 0,ag 5 im ([]:List eN)],[]⟩),
 (101,⟨.cb [(0,3,1),(1,2,1),(2,99,1)],3,40,[.int .i64 0,.int .i64 0,ag 5 im ([]:List eN)],[]⟩),
 (102,⟨.cb [(0,3,1),(1,3,1),(2,54,1)],3,40,[.int .i64 0,.int .i64 0,ag 3 d9 ([]:List bq)],[]⟩),
 (103,⟨.cb [(0,3,1),(1,3,1),(2,54,1)],3,40,[.int .i64 0,.int .i64 0,ag 3 d9 ([]:List bq)],[]⟩),
 (104,⟨.cb [(0,3,1),(1,2,1),(2,103,3)],5,56,[.int .i64 0,.int .i64 0,.int .i64 0,.int .i64 0,ag 3 d9 ([]:List bq)],[]⟩),
 (105,⟨.cb [(0,3,1),(1,2,1),(2,103,3)],5,56,[.int .i64 0,.int .i64 0,.int .i64 0,.int .i64 0,ag 3 d9 ([]:List bq)],[]⟩),
 (106,⟨.cb [(0,9,1),(1,2,1)],2,24,[.str ([]:aux),.int .i64 0],[]⟩),
 (107,⟨.cb [(0,9,1),(1,2,1)],2,24,[.str ([]:aux),.int .i64 0],[]⟩),
 (108,⟨.cb [(0,9,1),(1,3,1)],2,24,[.str ([]:aux),.int .i64 0],[]⟩),
 (109,⟨.cb [(0,9,1),(1,3,1)],2,24,[.str ([]:aux),.int .i64 0],[]⟩),
 (110,⟨.a',1,8,[.aV],[]⟩),
 (111,⟨.a',1,8,[.aV],[]⟩),
 (112,⟨.a',1,8,[.aV],[]⟩),
 (113,⟨.a',1,8,[.aV],[]⟩),
 (114,⟨.a',1,8,[.aV],[]⟩),
 (115,⟨.a',1,8,[.aV],[]⟩),
 (116,⟨.a',1,8,[.aV],[]⟩),
 (117,⟨.ptr,1,8,[.eC],[]⟩),
 (118,⟨.bI 5,1,24,[ag 1 cQ ([]:List Int)],[]⟩),
 (119,⟨.cb [(0,117,1),(1,118,1)],2,32,[.eC,ag 1 cQ ([]:List Int)],[]⟩),
 (120,⟨.cb [(0,117,1),(1,118,1)],2,32,[.eC,ag 1 cQ ([]:List Int)],[(0,120)]⟩),
 (121,⟨.o0,1,16,[.iw],[]⟩),
 (122,⟨.o0,1,16,[.iw],[]⟩),
 (124,⟨.a',1,8,[.aV],[]⟩),
 (125,⟨.a',1,8,[.aV],[]⟩),
 (126,⟨.a',1,8,[.aV],[]⟩),
 (127,⟨.a',1,8,[.aV],[]⟩),
 (128,⟨.a',1,8,[.aV],[]⟩),
 (129,⟨.a',1,8,[.aV],[]⟩),
 (130,⟨.a',1,8,[.aV],[]⟩),
 (131,⟨.a',1,8,[.aV],[]⟩),
 (132,⟨.a',1,8,[.aV],[]⟩),
 (133,⟨.a',1,8,[.aV],[]⟩),
 (134,⟨.a',1,8,[.aV],[]⟩),
 (135,⟨.ptr,1,8,[.eC],[]⟩),
 (136,⟨.cb [(0,9,1),(1,3,1),(2,37,1)],3,32,[.str ([]:aux),.int .i64 0,.int .i64 0],[]⟩),
 (137,⟨.cb [(0,9,1),(1,3,1),(2,37,1)],3,32,[.str ([]:aux),.int .i64 0,.int .i64 0],[]⟩),
 (138,⟨.cb [(0,34,11),(11,72,1),(12,55,1)],13,232,[.int .i64 0,.int .i64 0,.int .i64 0,ag 2 cH ([]:List Row),ag 3 d' ([]:List bb),ag 3 dr ([]:List bL),.int .i64 0,ag 5 cX ([]:List Part),ag 2 dN ([]:List bh),ag 8 eo ([]:List Request),.int .u64 0,ag 4 es ([]:List bo),ag 1 bF ([]:List aux)],[]⟩),
 (139,⟨.cb [(0,34,11),(11,72,1),(12,55,1)],13,232,[.int .i64 0,.int .i64 0,.int .i64 0,ag 2 cH ([]:List Row),ag 3 d' ([]:List bb),ag 3 dr ([]:List bL),.int .i64 0,ag 5 cX ([]:List Part),ag 2 dN ([]:List bh),ag 8 eo ([]:List Request),.int .u64 0,ag 4 es ([]:List bo),ag 1 bF ([]:List aux)],[]⟩),
 (140,⟨.a',1,8,[.aV],[]⟩),
 (141,⟨.a',1,8,[.aV],[]⟩),
 (143,⟨.a',1,8,[.aV],[]⟩),
 (145,⟨.a',1,8,[.aV],[]⟩),
 (147,⟨.a',1,8,[.aV],[]⟩),
 (148,⟨.cb [(0,9,1),(1,63,3)],4,48,[.str ([]:aux),.int .i64 0,.int .i64 0,.str ([]:aux)],[]⟩),
 (149,⟨.cb [(0,9,1),(1,63,3)],4,48,[.str ([]:aux),.int .i64 0,.int .i64 0,.str ([]:aux)],[]⟩),
 (150,⟨.a',1,8,[.aV],[]⟩),
 (152,⟨.a',1,8,[.aV],[]⟩),
 (154,⟨.a',1,8,[.aV],[]⟩),
 (156,⟨.a',1,8,[.aV],[]⟩),
 (158,⟨.a',1,8,[.aV],[]⟩),
 (159,⟨.a',1,8,[.aV],[]⟩),
 (160,⟨.a',1,8,[.aV],[]⟩),
 (161,⟨.a',1,8,[.aV],[]⟩),
 (162,⟨.a',1,8,[.aV],[]⟩),
 (163,⟨.bI 165,1,24,[ag 4 b3 ([]:List Expr)],[]⟩),
 (164,⟨.cb [(0,3,1),(1,2,1),(2,9,1),(3,163,1)],4,56,[.int .i64 0,.int .i64 0,.str ([]:aux),ag 4 b3 ([]:List Expr)],[]⟩),
 (165,⟨.cb [(0,3,1),(1,2,1),(2,9,1),(3,163,1)],4,56,[.int .i64 0,.int .i64 0,.str ([]:aux),ag 4 b3 ([]:List Expr)],[]⟩),
 (166,⟨.cb [(0,3,1),(1,9,1),(2,3,1),(3,165,4),(7,165,4),(11,50,1),(12,50,1)],13,192,[.int .i64 0,.str ([]:aux),.int .i64 0,.int .i64 0,.int .i64 0,.str ([]:aux),ag 4 b3 ([]:List Expr),.int .i64 0,.int .i64 0,.str ([]:aux),ag 4 b3 ([]:List Expr),ag 13 bT ([]:List Stmt),ag 13 bT ([]:List Stmt)],[]⟩),
 (167,⟨.cb [(0,3,1),(1,9,1),(2,3,1),(3,165,4),(7,165,4),(11,50,1),(12,50,1)],13,192,[.int .i64 0,.str ([]:aux),.int .i64 0,.int .i64 0,.int .i64 0,.str ([]:aux),ag 4 b3 ([]:List Expr),.int .i64 0,.int .i64 0,.str ([]:aux),ag 4 b3 ([]:List Expr),ag 13 bT ([]:List Stmt),ag 13 bT ([]:List Stmt)],[]⟩),
 (168,⟨.a',1,8,[.aV],[]⟩),
 (169,⟨.a',1,8,[.aV],[]⟩),
 (170,⟨.a',1,8,[.aV],[]⟩),
 (171,⟨.a',1,8,[.aV],[]⟩),
 (172,⟨.a',1,8,[.aV],[]⟩),
 (173,⟨.a',1,8,[.aV],[]⟩),
 (174,⟨.a',1,8,[.aV],[]⟩),
 (175,⟨.a',1,8,[.aV],[]⟩),
 (176,⟨.a',1,8,[.aV],[]⟩),
 (177,⟨.a',1,8,[.aV],[]⟩),
 (178,⟨.a',1,8,[.aV],[]⟩),
 (179,⟨.int .u64,1,8,[.int .u64 0],[]⟩),
 (180,⟨.a',1,8,[.aV],[]⟩),
 (181,⟨.a',1,8,[.aV],[]⟩),
 (182,⟨.a',1,8,[.aV],[]⟩),
 (183,⟨.a',1,8,[.aV],[]⟩),
 (184,⟨.ptr,1,8,[.eC],[]⟩),
 (185,⟨.cb [(0,120,2),(2,3,1)],3,40,[.eC,ag 1 cQ ([]:List Int),.int .i64 0],[(0,120)]⟩),
 (186,⟨.cb [(0,120,2),(2,3,1)],3,40,[.eC,ag 1 cQ ([]:List Int),.int .i64 0],[(0,120)]⟩),
 (187,⟨.a',1,8,[.aV],[]⟩),
 (188,⟨.a',1,8,[.aV],[]⟩),
 (189,⟨.a',1,8,[.aV],[]⟩),
 (190,⟨.a',1,8,[.aV],[]⟩),
 (191,⟨.ptr,1,8,[.eC],[]⟩),
 (192,⟨.a',1,8,[.aV],[]⟩),
 (193,⟨.a',1,8,[.aV],[]⟩),
 (194,⟨.a',1,8,[.aV],[]⟩),
 (195,⟨.a',1,8,[.aV],[]⟩),
 (196,⟨.cb [(0,71,1)],1,8,[.aV],[]⟩),
 (197,⟨.cb [(0,71,1)],1,8,[.aV],[]⟩),
 (198,⟨.a',1,8,[.aV],[]⟩),
 (199,⟨.cb [(0,74,1)],1,8,[.aV],[]⟩),
 (200,⟨.cb [(0,74,1)],1,8,[.aV],[]⟩),
 (201,⟨.a',1,8,[.aV],[]⟩),
 (202,⟨.a',1,8,[.aV],[]⟩),
 (203,⟨.cb [(0,202,1)],1,8,[.aV],[]⟩),
 (204,⟨.cb [(0,202,1)],1,8,[.aV],[]⟩),
 (205,⟨.a',1,8,[.aV],[]⟩),
 (206,⟨.a',1,8,[.aV],[]⟩),
 (207,⟨.a',1,8,[.aV],[]⟩),
 (208,⟨.cb [(0,207,1)],1,8,[.aV],[]⟩),
 (209,⟨.cb [(0,207,1)],1,8,[.aV],[]⟩),
 (210,⟨.a',1,8,[.aV],[]⟩),
 (211,⟨.a',1,8,[.aV],[]⟩),
 (212,⟨.cb [(0,78,1)],1,8,[.aV],[]⟩),
 (213,⟨.cb [(0,78,1)],1,8,[.aV],[]⟩),
 (214,⟨.a',1,8,[.aV],[]⟩),
 (215,⟨.cb [(0,80,1)],1,8,[.aV],[]⟩),
 (216,⟨.cb [(0,80,1)],1,8,[.aV],[]⟩),
 (217,⟨.a',1,8,[.aV],[]⟩),
 (218,⟨.cb [(0,84,1)],1,8,[.aV],[]⟩),
 (219,⟨.cb [(0,84,1)],1,8,[.aV],[]⟩),
 (220,⟨.a',1,8,[.aV],[]⟩),
 (221,⟨.cb [(0,86,1)],1,8,[.aV],[]⟩),
 (222,⟨.cb [(0,86,1)],1,8,[.aV],[]⟩),
 (223,⟨.a',1,8,[.aV],[]⟩),
 (224,⟨.a',1,8,[.aV],[]⟩),
 (225,⟨.a',1,8,[.aV],[]⟩),
 (226,⟨.a',1,8,[.aV],[]⟩),
 (228,⟨.a',1,8,[.aV],[]⟩),
 (230,⟨.a',1,8,[.aV],[]⟩),
 (232,⟨.a',1,8,[.aV],[]⟩),
 (234,⟨.a',1,8,[.aV],[]⟩),
 (235,⟨.bI 292,1,24,[ag 4 cT ([]:List Token)],[]⟩),
 (237,⟨.a',1,8,[.aV],[]⟩),
 (238,⟨.a',1,8,[.aV],[]⟩),
 (239,⟨.a',1,8,[.aV],[]⟩),
 (240,⟨.a',1,8,[.aV],[]⟩),
 (241,⟨.a',1,8,[.aV],[]⟩),
 (242,⟨.a',1,8,[.aV],[]⟩),
 (243,⟨.a',1,8,[.aV],[]⟩),
 (244,⟨.a',1,8,[.aV],[]⟩),
 (245,⟨.a',1,8,[.aV],[]⟩),
 (246,⟨.a',1,8,[.aV],[]⟩),
 (247,⟨.a',1,8,[.aV],[]⟩),
 (248,⟨.a',1,8,[.aV],[]⟩),
 (249,⟨.a',1,8,[.aV],[]⟩),
 (250,⟨.cb [(0,3,1),(1,2,1)],2,16,[.int .i64 0,.int .i64 0],[]⟩),
 (251,⟨.cb [(0,3,1),(1,2,1)],2,16,[.int .i64 0,.int .i64 0],[]⟩),
 (252,⟨.a',1,8,[.aV],[]⟩),
 (253,⟨.a',1,8,[.aV],[]⟩),
 (254,⟨.a',1,8,[.aV],[]⟩),
 (255,⟨.a',1,8,[.aV],[]⟩),
 (257,⟨.a',1,8,[.aV],[]⟩),
 (258,⟨.a',1,8,[.aV],[]⟩),
 (259,⟨.a',1,8,[.aV],[]⟩),
 (260,⟨.a',1,8,[.aV],[]⟩),
 (261,⟨.a',1,8,[.aV],[]⟩),
 (262,⟨.a',1,8,[.aV],[]⟩),
 (263,⟨.a',1,8,[.aV],[]⟩),
 (264,⟨.a',1,8,[.aV],[]⟩),
 (265,⟨.a',1,8,[.aV],[]⟩),
 (266,⟨.a',1,8,[.aV],[]⟩),
 (267,⟨.a',1,8,[.aV],[]⟩),
 (268,⟨.a',1,8,[.aV],[]⟩),
 (269,⟨.bI 272,1,24,[ag 20 jp ([]:List ct)],[]⟩),
 (270,⟨.a',1,8,[.aV],[]⟩),
 (271,⟨.cb [(0,4,1),(1,167,13),(14,3,1),(15,165,4),(19,4,1)],20,272,[.bool false,.int .i64 0,.str ([]:aux),.int .i64 0,.int .i64 0,.int .i64 0,.str ([]:aux),ag 4 b3 ([]:List Expr),.int .i64 0,.int .i64 0,.str ([]:aux),ag 4 b3 ([]:List Expr),ag 13 bT ([]:List Stmt),ag 13 bT ([]:List Stmt),.int .i64 0,.int .i64 0,.int .i64 0,.str ([]:aux),ag 4 b3 ([]:List Expr),.bool false],[]⟩),
 (272,⟨.cb [(0,4,1),(1,167,13),(14,3,1),(15,165,4),(19,4,1)],20,272,[.bool false,.int .i64 0,.str ([]:aux),.int .i64 0,.int .i64 0,.int .i64 0,.str ([]:aux),ag 4 b3 ([]:List Expr),.int .i64 0,.int .i64 0,.str ([]:aux),ag 4 b3 ([]:List Expr),ag 13 bT ([]:List Stmt),ag 13 bT ([]:List Stmt),.int .i64 0,.int .i64 0,.int .i64 0,.str ([]:aux),ag 4 b3 ([]:List Expr),.bool false],[]⟩),
 (273,⟨.a',1,8,[.aV],[]⟩),
 (274,⟨.ptr,1,8,[.eC],[]⟩),
 (275,⟨.cb [(0,9,1),(1,3,1),(2,37,1)],3,32,[.str ([]:aux),.int .i64 0,.int .i64 0],[]⟩),
 (276,⟨.cb [(0,9,1),(1,3,1),(2,37,1)],3,32,[.str ([]:aux),.int .i64 0,.int .i64 0],[]⟩),
 (277,⟨.a',1,8,[.aV],[]⟩),
 (278,⟨.ptr,1,8,[.eC],[]⟩),
 (279,⟨.cb [(0,9,1),(1,3,1),(2,37,1)],3,32,[.str ([]:aux),.int .i64 0,.int .i64 0],[]⟩),
 (280,⟨.cb [(0,9,1),(1,3,1),(2,37,1)],3,32,[.str ([]:aux),.int .i64 0,.int .i64 0],[]⟩),
 (281,⟨.a',1,8,[.aV],[]⟩),
 (282,⟨.a',1,8,[.aV],[]⟩),
 (284,⟨.a',1,8,[.aV],[]⟩),
 (285,⟨.ptr,1,8,[.eC],[]⟩),
 (286,⟨.a',1,8,[.aV],[]⟩),
 (287,⟨.a',1,8,[.aV],[]⟩),
 (288,⟨.a',1,8,[.aV],[]⟩),
 (289,⟨.a',1,8,[.aV],[]⟩),
 (290,⟨.a',1,8,[.aV],[]⟩),
 (291,⟨.cb [(0,3,1),(1,9,1),(2,2,1),(3,3,1)],4,40,[.int .i64 0,.str ([]:aux),.int .i64 0,.int .i64 0],[]⟩),
 (292,⟨.cb [(0,3,1),(1,9,1),(2,2,1),(3,3,1)],4,40,[.int .i64 0,.str ([]:aux),.int .i64 0,.int .i64 0],[]⟩),
 (294,⟨.a',1,8,[.aV],[]⟩),
 (295,⟨.a',1,8,[.aV],[]⟩),
 (296,⟨.a',1,8,[.aV],[]⟩),
 (298,⟨.a',1,8,[.aV],[]⟩),
 (300,⟨.a',1,8,[.aV],[]⟩),
 (301,⟨.a',1,8,[.aV],[]⟩),
 (302,⟨.a',1,8,[.aV],[]⟩),
 (303,⟨.a',1,8,[.aV],[]⟩),
 (304,⟨.a',1,8,[.aV],[]⟩),
 (305,⟨.ptr,1,8,[.eC],[]⟩),
 (306,⟨.cb [(0,3,1),(1,261,1),(2,262,1)],3,24,[.int .i64 0,.aV,.aV],[]⟩),
 (307,⟨.cb [(0,3,1),(1,261,1),(2,262,1)],3,24,[.int .i64 0,.aV,.aV],[]⟩),
 (308,⟨.a',1,8,[.aV],[]⟩),
 (309,⟨.cb [(0,4,1),(1,4,1),(2,4,1),(3,4,1),(4,4,1),(5,4,1)],6,6,[.bool false,.bool false,.bool false,.bool false,.bool false,.bool false],[]⟩),
 (310,⟨.cb [(0,4,1),(1,4,1),(2,4,1),(3,4,1),(4,4,1),(5,4,1)],6,6,[.bool false,.bool false,.bool false,.bool false,.bool false,.bool false],[]⟩),
 (312,⟨.a',1,8,[.aV],[]⟩),
 (313,⟨.a',1,8,[.aV],[]⟩),
 (314,⟨.a',1,8,[.aV],[]⟩),
 (315,⟨.a',1,8,[.aV],[]⟩),
 (316,⟨.a',1,8,[.aV],[]⟩),
 (317,⟨.a',1,8,[.aV],[]⟩),
 (319,⟨.a',1,8,[.aV],[]⟩),
 (320,⟨.a',1,8,[.aV],[]⟩),
 (321,⟨.a',1,8,[.aV],[]⟩),
 (322,⟨.a',1,8,[.aV],[]⟩),
 (323,⟨.a',1,8,[.aV],[]⟩),
 (324,⟨.ptr,1,8,[.eC],[]⟩),
 (325,⟨.cb [(0,9,1),(1,3,1),(2,37,1)],3,32,[.str ([]:aux),.int .i64 0,.int .i64 0],[]⟩),
 (326,⟨.cb [(0,9,1),(1,3,1),(2,37,1)],3,32,[.str ([]:aux),.int .i64 0,.int .i64 0],[]⟩),
 (327,⟨.a',1,8,[.aV],[]⟩),
 (328,⟨.a',1,8,[.aV],[]⟩),
 (329,⟨.a',1,8,[.aV],[]⟩),
 (330,⟨.a',1,8,[.aV],[]⟩),
 (331,⟨.cb [(0,3,1),(1,37,1)],2,16,[.int .i64 0,.int .i64 0],[]⟩),
 (332,⟨.cb [(0,3,1),(1,37,1)],2,16,[.int .i64 0,.int .i64 0],[]⟩),
 (334,⟨.cb [(0,235,1),(1,3,1)],2,32,[ag 4 cT ([]:List Token),.int .i64 0],[]⟩),
 (335,⟨.cb [(0,235,1),(1,3,1)],2,32,[ag 4 cT ([]:List Token),.int .i64 0],[]⟩),
 (336,⟨.a',1,8,[.aV],[]⟩),
 (337,⟨.a',1,8,[.aV],[]⟩),
 (338,⟨.a',1,8,[.aV],[]⟩),
 (339,⟨.a',1,8,[.aV],[]⟩),
 (340,⟨.a',1,8,[.aV],[]⟩),
 (341,⟨.a',1,8,[.aV],[]⟩),
 (343,⟨.a',1,8,[.aV],[]⟩),
 (344,⟨.a',1,8,[.aV],[]⟩),
 (345,⟨.a',1,8,[.aV],[]⟩),
 (347,⟨.a',1,8,[.aV],[]⟩),
 (348,⟨.a',1,8,[.aV],[]⟩),
 (349,⟨.a',1,8,[.aV],[]⟩),
 (350,⟨.a',1,8,[.aV],[]⟩),
 (351,⟨.a',1,8,[.aV],[]⟩),
 (352,⟨.a',1,8,[.aV],[]⟩),
 (353,⟨.a',1,8,[.aV],[]⟩),
 (354,⟨.a',1,8,[.aV],[]⟩),
 (355,⟨.a',1,8,[.aV],[]⟩),
 (356,⟨.a',1,8,[.aV],[]⟩),
 (357,⟨.a',1,8,[.aV],[]⟩),
 (359,⟨.a',1,8,[.aV],[]⟩),
 (360,⟨.a',1,8,[.aV],[]⟩),
 (362,⟨.a',1,8,[.aV],[]⟩),
 (363,⟨.a',1,8,[.aV],[]⟩),
 (364,⟨.a',1,8,[.aV],[]⟩),
 (365,⟨.a',1,8,[.aV],[]⟩),
 (366,⟨.a',1,8,[.aV],[]⟩),
 (367,⟨.bI 3,1,24,[ag 1 ahS ([]:List Int)],[]⟩),
 (368,⟨.a',1,8,[.aV],[]⟩),
 (369,⟨.a',1,8,[.aV],[]⟩),
 (370,⟨.a',1,8,[.aV],[]⟩),
 (371,⟨.a',1,8,[.aV],[]⟩),
 (372,⟨.a',1,8,[.aV],[]⟩),
 (374,⟨.a',1,8,[.aV],[]⟩),
 (376,⟨.a',1,8,[.aV],[]⟩),
 (377,⟨.a',1,8,[.aV],[]⟩),
 (379,⟨.a',1,8,[.aV],[]⟩),
 (381,⟨.a',1,8,[.aV],[]⟩),
 (382,⟨.a',1,8,[.aV],[]⟩),
 (383,⟨.a',1,8,[.aV],[]⟩),
 (385,⟨.int .u32,1,4,[.int .u32 0],[]⟩),
 (387,⟨.a',1,8,[.aV],[]⟩),
 (388,⟨.a',1,8,[.aV],[]⟩),
 (389,⟨.a',1,8,[.aV],[]⟩),
 (390,⟨.int .i64,1,8,[.int .i64 0],[]⟩),
 (392,⟨.a',1,8,[.aV],[]⟩),
 (393,⟨.ptr,1,8,[.eC],[]⟩),
 (394,⟨.a',1,8,[.aV],[]⟩),
 (395,⟨.a',1,8,[.aV],[]⟩),
 (398,⟨.a',1,8,[.aV],[]⟩),
 (399,⟨.cb [(0,9,1),(1,9,1),(2,122,1)],3,48,[.str ([]:aux),.str ([]:aux),.iw],[]⟩),
 (400,⟨.cb [(0,9,1),(1,9,1),(2,122,1)],3,48,[.str ([]:aux),.str ([]:aux),.iw],[]⟩),
 (401,⟨.a',1,8,[.aV],[]⟩),
 (402,⟨.ptr,1,8,[.eC],[]⟩),
 (403,⟨.cb [(0,9,1)],1,16,[.str ([]:aux)],[]⟩),
 (404,⟨.cb [(0,9,1)],1,16,[.str ([]:aux)],[]⟩),
 (405,⟨.cb [(0,17,1),(1,17,1),(2,17,1),(3,9,1)],4,40,[.eC,.eC,.eC,.str ([]:aux)],[]⟩),
 (406,⟨.cb [(0,17,1),(1,17,1),(2,17,1),(3,9,1)],4,40,[.eC,.eC,.eC,.str ([]:aux)],[]⟩),
 (410,⟨.int .u8,1,1,[.int .u8 0],[]⟩),
 (411,⟨.int .u8,1,1,[.int .u8 0],[]⟩),
 (412,⟨.a',1,8,[.aV],[]⟩),
 (413,⟨.int .i32,1,4,[.int .i32 0],[]⟩),
 (414,⟨.int .i32,1,4,[.int .i32 0],[]⟩),
 (415,⟨.cb [(0,12,1),(1,12,1),(2,385,1),(3,410,1),(4,5,1),(5,5,1),(6,411,1),(7,412,1),(8,191,1),(9,413,1),(10,414,1)],11,48,[.int .u64 0,.int .u64 0,.int .u32 0,.int .u8 0,.int .u8 0,.int .u8 0,.int .u8 0,.aV,.eC,.int .i32 0,.int .i32 0],[]⟩),
 (416,⟨.cb [(0,12,1),(1,12,1),(2,385,1),(3,410,1),(4,5,1),(5,5,1),(6,411,1),(7,412,1),(8,191,1),(9,413,1),(10,414,1)],11,48,[.int .u64 0,.int .u64 0,.int .u32 0,.int .u8 0,.int .u8 0,.int .u8 0,.int .u8 0,.aV,.eC,.int .i32 0,.int .i32 0],[]⟩)]
def iA:fD Tryz.prog tt=true:=by kernel_rfl
def Dj:Tryz.prog.follows .mixedOrders=true:=by kernel_rfl
end Go.Ab.Y
namespace Go.Ab.Y.T
open Go Go.Ab Go.Proofs
structure aQ(f:FuncId)(args:List D)(er:List (Nat×TypeId))(H:List (List a7)){ρ:Type}(F:Option ρ)(out:ρ→Out)(cL:ρ→List (List a7)):Prop where
 of:∀{r:ρ},F=some r→gY Tryz.prog f args er H (out r) (cL r)
def wD(E:Nat)(rs:List ResultVar){ρ:Type}(out:ρ→Out)(cL:ρ→List (List a7))(r:ρ):cr→aM→Prop:=uh tt E rs λo bQ=>o=out r∧bQ=cL r
def hr(s st:aM):Option aM:=(vB (s.env.map (·.1)) (s.H.map (·.1)) s.aW st.env st.H st.aW).map (fit s)
noncomputable abbrev iB(N:Nat)(ops:Array Oper)(rs:List fv)(st:aM):=wx (jP Tryz.prog) tt N ops.toList rs st
noncomputable abbrev HU(N:Nat)(ops:Array Oper)(rs:List (Nat×List fv))(st:aM):=HC (jP Tryz.prog) tt N ops.toList (spread ops.toList.length 0 rs) st
noncomputable abbrev Yc(N:Nat)(ops:Array Oper)(gr:Nat)(rs:List (Nat×List fv))(st:aM):=C9 (jP Tryz.prog) tt N ops.toList gr (st.aW+ops.toList.length) (spread ops.toList.length 0 rs) st
abbrev af(x:Int):a7:=⟨.v (.int .i64 x),none⟩
abbrev dz(x:Bool):a7:=⟨.v (.bool x),none⟩
abbrev ba(x:aux):a7:=⟨.v (.str x),none⟩
abbrev aA{α:Type}[Inhabited α](k:Nat)(e:α→V)(l:List α):a7:=⟨.v (ag k e l),none⟩
abbrev be(r o:Nat):a7:=⟨.ptr r o,none⟩
abbrev ht(x:V):a7:=⟨.v x,none⟩
abbrev bi(x:Int):D:=.v (.int .i64 x)
abbrev bV(x:Bool):D:=.v (.bool x)
abbrev cK(x:aux):D:=.v (.str x)
abbrev du{α:Type}[Inhabited α](k:Nat)(e:α→V)(l:List α):D:=.v (ag k e l)
abbrev aP(d:D):Out:=.ret d none
def ah0(n:Nat):ho (n:Int) n=true:=afz ⟨Int.natCast_nonneg n,Int.le_refl _⟩
abbrev au:=all_nil
def ad{p:Prop}{l:List Prop}(h:p)(aa:k3 l):k3 (p::l):=⟨h,aa⟩
section
variable {N E:Nat} {st:aM} {Q:cr→aM→Prop} {next:aM→Prop} {x y:Code} {id i j:Nat} {ops:Array Oper}
def yY{x:V}(h:Q (.bf x) st):cr.then next Q (.bf x) st:=h
def bW(h:Q .normal st):cr.inBlock i Q (.exit i) st:=cr.agK h
def yZ(h:Q (.exit j) st)(di:Nat.beq j i=false:=by kernel_rfl):cr.inBlock i Q (.exit j) st:=cr.agL di h
def ah1{x:V}(h:Q (.bf x) st):cr.inBlock i Q (.bf x) st:=h
def aq(h:a_ Tryz.prog N E x (cr.then (a_ Tryz.prog N E y Q) Q) st):a_ Tryz.prog N E (.seq x y) Q st:=a_.seq h
def am(h:Q .normal st):a_ Tryz.prog N E .skip Q st:=a_.skip h
def Yd{r:Nat}(h:Q .ret (Dd r st)):Pa r Q .ret st:=h
def Ye(r:Nat)(h:a_ Tryz.prog N E x (Pa r Q) st):a_ Tryz.prog N E x Q st:=a_.o3 r h
def y0(oC:List Nat)(h:a_ Tryz.prog N E x Q {env:=forget oC st.env,H:=st.H,aW:=st.aW}):a_ Tryz.prog N E x Q st:=a_.forget oC h
def ah2{l:Nat}(h:Q .normal st):a_ Tryz.prog N E (.label l) Q st:=a_.label h
def bX(h:Q (.exit i) st):a_ Tryz.prog N E (.exit i) Q st:=a_.exit h
def Pk(h:Q .ret st):a_ Tryz.prog N E .ret Q st:=a_.ret h
def ah3(h:a_ Tryz.prog N E x Q st):a_ Tryz.prog N E (.scope x) Q st:=a_.scope h
def aJ(h:a_ Tryz.prog N E x (cr.inBlock i Q) st):a_ Tryz.prog N E (.block i x) Q st:=a_.block h
def fJ(rs:List fv){b8:List Prop}(cp:k3 b8)(ej:Q .normal (jU (iB N ops rs st)))(ai:mw (iB N ops rs st)=some b8:=by kernel_rfl):a_ Tryz.prog N E (.region id ops false) Q st:=a_.rg iA rs ai cp ej
def bD(ej:Q .normal (jU (iB N ops [] st)))(ai:mw (iB N ops [] st)=some []:=by kernel_rfl):a_ Tryz.prog N E (.region id ops false) Q st:=fJ [] au ej ai
def G(ej:a_ Tryz.prog N E y Q (jU (iB N ops [] st)))(ai:mw (iB N ops [] st)=some []:=by kernel_rfl):a_ Tryz.prog N E (.seq (.region id ops false) y) Q st:=aq (bD (Q:=cr.then (a_ Tryz.prog N E y Q) Q) ej ai)
def aU(rs:List fv){b8:List Prop}(cp:k3 b8)(ej:a_ Tryz.prog N E y Q (jU (iB N ops rs st)))(ai:mw (iB N ops rs st)=some b8:=by kernel_rfl):a_ Tryz.prog N E (.seq (.region id ops false) y) Q st:=aq (fJ (Q:=cr.then (a_ Tryz.prog N E y Q) Q) rs cp ej ai)
section
variable {f:FuncId} {args:List D} {er:List (Nat×TypeId)} {H cL:List (List a7)} {out:Out}
def lF(p:gY Tryz.prog f args er H out cL)(ej:Q .normal (jU (iB N ops [bd p []] st)))(ai:mw (iB N ops [bd p []] st)=some [gY Tryz.prog f args er H out cL]:=by kernel_rfl):a_ Tryz.prog N E (.region id ops false) Q st:=fJ [bd p []] (ad p au) ej ai
def kG(p:gY Tryz.prog f args er H out cL)(ej:Q .normal (jU (iB N ops [bG p []] st)))(ai:mw (iB N ops [bG p []] st)=some [gY Tryz.prog f args er H out cL]:=by kernel_rfl):a_ Tryz.prog N E (.region id ops false) Q st:=fJ [bG p []] (ad p au) ej ai
def bZ(p:gY Tryz.prog f args er H out cL)(ej:a_ Tryz.prog N E y Q (jU (iB N ops [bd p []] st)))(ai:mw (iB N ops [bd p []] st)=some [gY Tryz.prog f args er H out cL]:=by kernel_rfl):a_ Tryz.prog N E (.seq (.region id ops false) y) Q st:=aU [bd p []] (ad p au) ej ai
def dk(p:gY Tryz.prog f args er H out cL)(ej:a_ Tryz.prog N E y Q (jU (iB N ops [bG p []] st)))(ai:mw (iB N ops [bG p []] st)=some [gY Tryz.prog f args er H out cL]:=by kernel_rfl):a_ Tryz.prog N E (.seq (.region id ops false) y) Q st:=aU [bG p []] (ad p au) ej ai
end
def f6(rs:List (Nat×List fv)){b8:List Prop}(cp:k3 b8)(ej:Q .normal (jU (HU N ops rs st)))(ai:mw (HU N ops rs st)=some b8:=by kernel_rfl):a_ Tryz.prog N E (.region id ops true) Q st:=a_.HE iA Dj rs ai cp ej
def cB(rs:List (Nat×List fv)){b8:List Prop}(cp:k3 b8)(ej:a_ Tryz.prog N E y Q (jU (HU N ops rs st)))(ai:mw (HU N ops rs st)=some b8:=by kernel_rfl):a_ Tryz.prog N E (.seq (.region id ops true) y) Q st:=aq (f6 (Q:=cr.then (a_ Tryz.prog N E y Q) Q) rs cp ej ai)
def ee(x:V)(rs:List fv){b8:List Prop}(cp:k3 b8)(ej:Q (.bf x) (jU (iB N ops rs st)))(ai:OT (iB N ops rs st)=some (x,b8):=by kernel_rfl):a_ Tryz.prog N E (.region id ops false) Q st:=a_.OU iA rs ai cp ej
def sN(gr:Nat)(x:V)(rs:List (Nat×List fv)){b8:List Prop}(cp:k3 b8)(ej:∀n,Q (.bf x) {env:=[],H:=O5 (Yc N ops gr rs st),aW:=n})(ai:O4 (Yc N ops gr rs st)=some (x,b8):=by kernel_rfl):a_ Tryz.prog N E (.region id ops true) Q st:=a_.aho iA Dj gr rs ai cp ej
def C{α:Type}{b:Bool}{p q:Option α}{r:α}{c:Nat}(h:(bif b then p else q)=some r)(aF:p=some r→a_ Tryz.prog N E x Q st)(aY:q=some r→a_ Tryz.prog N E y Q st)(hc:(look st.env c).map (·.d)=some (.v (.bool b)):=by kernel_rfl):a_ Tryz.prog N E (.cond (.tmp c) x y) Q st:=a_.OW h hc aF aY
section
variable {ρ:Type} {a r:ρ} {out:ρ→Out} {cL:ρ→List (List a7)} {rs:List ResultVar}
def Hz(h:some a=some r)(aa:leave tt E rs st=some (out a,cL a):=by kernel_rfl):wD E rs out cL r .ret st:=by
 obtain rfl:=Option.some.inj h;exact agN aa
def bM{Q:cr→aM→Prop}(h:some a=some r)(ao:wD E rs out cL r .ret st=Q .ret st:=by rfl)(aa:leave tt E rs st=some (out a,cL a):=by kernel_rfl):a_ Tryz.prog N E .ret Q st:=Pk (ao ▸ Hz h aa)
def bl{Q:cr→aM→Prop}{id:Nat}{ops:Array Oper}(h:some a=some r)(ao:wD E rs out cL r .ret (jU (iB N ops [] st))=Q .ret (jU (iB N ops [] st)):=by rfl)(aa:leave tt E rs (jU (iB N ops [] st))=some (out a,cL a):=by kernel_rfl)(ai:mw (iB N ops [] st)=some []:=by kernel_rfl):a_ Tryz.prog N E (.seq (.region id ops false) .ret) Q st:=G (bM h ao aa) ai
def aB{Q:cr→aM→Prop}{id:Nat}{ops:Array Oper}{b:Bool}{q:Option ρ}{c:Nat}{y:Code}(h:(bif b then some a else q)=some r)(aY:q=some r→a_ Tryz.prog N E y Q st)(ao:wD E rs out cL r .ret (jU (iB N ops [] st))=Q .ret (jU (iB N ops [] st)):=by rfl)(aa:leave tt E rs (jU (iB N ops [] st))=some (out a,cL a):=by kernel_rfl)(ai:mw (iB N ops [] st)=some []:=by kernel_rfl)(hc:(look st.env c).map (·.d)=some (.v (.bool b)):=by kernel_rfl):a_ Tryz.prog N E (.cond (.tmp c) (.seq (.region id ops false) .ret) y) Q st:=C h (λh=>bl h ao aa ai) aY hc
def kH(h:some a=some r)(aa:leave tt E rs st=some (out a,cL a):=by kernel_rfl):wD E rs out cL r .normal st:=by
 obtain rfl:=Option.some.inj h;exact OG aa
def dB{x:V}(h:some a=some r)(aa:(He E st.H).map ov=some (cL a):=by kernel_rfl)(hx:out a = .bf x:=by kernel_rfl):wD E rs out cL r (.bf x) st:=by
 obtain rfl:=Option.some.inj h;show uh tt E rs _ _ _
 rw [hx];exact agO aa
end
def aR{f:FuncId}{fn:Func}{c:Code}{args:List D}{er:List (Nat×TypeId)}{H:List (List a7)}{ρ:Type}{F:Option ρ}{out:ρ→Out}{cL:ρ→List (List a7)}(aY:Tryz.prog.funcs[f]? = some fn)(hb:fn.body=some c)
 (h : ∀ {r : ρ}, F = some r → a_ Tryz.prog fn.ntmps H.length c (wD H.length fn.results.toList out cL r) { env := hX args er, H := cS 0 H, aW := H.length }) (jQ : decide (fn.name = "runtime.NumGoroutine") = false := by rfl) (ha : Nat.ble args.length fn.ntmps = true := by rfl) : aQ f args er H F out cL :=
 ⟨λh0=>agM iA aY hb jQ ha (h h0)⟩
end
section
variable {α β dG hI:Type} {p:Prop}
def c'{q:Prop}(a:p)(k:p→q):q:=k a
def uu{Yf:Type}{X:Option Yf}(c:α ⊕ β→Yf){x:α ⊕ β}{f:α→Option dG}{g:β→Option dG}{r:dG}(q:X=some (c x))(h:ik.on x f g=some r)(cC:∀a,X=some (c (.inl a))→f a=some r→p)(al:∀b,X=some (c (.inr b))→g b=some r→p):p:=
 match x,q,h with
 |.inl a,q,h=>cC a q h
 |.inr b,q,h=>al b q h
def iC{r:α}(h:none=some r):p:=by cases h
def ay{b:Bool}{x:Option α}{r:α}(h:ax b x=some r)(k:b=true→x=some r→p):p:=k (sJ h).1 (sJ h).2
def an{x:Option α}{f:α→Option β}{r:β}(h:Option.bind x f=some r)(k:∀a,x=some a→f a=some r→p):p:=let ⟨a,Z,ab⟩:=bind_some h;k a Z ab
def dR{x:Option (aE α β)}{f:α→β→Option dG}{g:V→β→Option dG}{r:dG}(h:Option.bind x (λz=>aE.on z f g)=some r)(cC:∀a b,x=some (.ret a b)→f a b=some r→p)(al:∀y b,x=some (.bf y b)→g y b=some r→p):p:=
 let ⟨z,Z,ab⟩:=bind_some h
 match z,Z,ab with
 |.ret a b,Z,ab=>cC a b Z ab
 |.bf y b,Z,ab=>al y b Z ab
end
section
variable {ρ:Type} {r:ρ} {N E:Nat} {st:aM} {Q:cr→aM→Prop} {x y:Code}
def ck{ch:aM}{f:Option ρ}(h:f=some r)(ai:hr (ch) st=some (ch):=by kernel_rfl):hr (ch) st=some (ch)∧f=some r:=⟨ai,h⟩
def cq(ch:aM)(f:Option ρ)(Z:a_ Tryz.prog N E x (cr.then (λb9=>hr (ch) b9=some (ch)∧f=some r) Q) st)(ab:f=some r→a_ Tryz.prog N E y Q (ch))(b1:Nat.ble E (ch).aW=true:=by intros;kernel_rfl):a_ Tryz.prog N E (.seq x y) Q st:=
 a_.cut _ Z λb9 ⟨ai,h⟩=>a_.rn _ _ _ _ ai (b1) (ab h)
end
section
variable {α:Type} {ρ:Type} {r:ρ} {N E:Nat} {st:aM} {Q:cr→aM→Prop} {x y:Code}
def a8{ch:α→aM}{f:α→Option ρ}{a0:_}(h:f a0=some r)(ai:hr (ch a0) st=some (ch a0):=by kernel_rfl):∃a0,hr (ch a0) st=some (ch a0)∧f a0=some r:=⟨a0,ai,h⟩
def dJ(ch:α→aM)(f:α→Option ρ)(Z:a_ Tryz.prog N E x (cr.then (λb9=>∃a0,hr (ch a0) b9=some (ch a0)∧f a0=some r) Q) st)(ab:∀a0,f a0=some r→a_ Tryz.prog N E y Q (ch a0))(b1:∀a0,Nat.ble E (ch a0).aW=true:=by intros;kernel_rfl):a_ Tryz.prog N E (.seq x y) Q st:=
 a_.cut _ Z λb9 ⟨a0,ai,h⟩=>a_.rn _ _ _ _ ai (b1 a0) (ab a0 h)
def dp(ch:α→aM)(F:Nat→α→Option ρ)(B:(α→Option ρ)→α→Option ρ){n:Nat}{a0:_}(h:F n a0=some r)(body:∀k a0,B k a0=some r→a_ Tryz.prog N E x (cr.then (λb9=>∃a0,hr (ch a0) b9=some (ch a0)∧k a0=some r) Q) (ch a0))(hi:hr (ch a0) st=some (ch a0):=by kernel_rfl)(b1:∀a0,Nat.ble E (ch a0).aW=true:=by intros;kernel_rfl)(h0:∀a0,F 0 a0=none:=by intros;rfl)(hs:∀m a0,F (m+1) a0=B (F m) a0:=by intros;rfl):a_ Tryz.prog N E (.loop x) Q st:=by
 refine a_.loop (σ:=α) (λm (s:α) st=>hr (ch s) st=some (ch s)∧F m s=some r) ?_ (n:=n) (s:=a0) ⟨hi,h⟩
 rintro m a0 b9 ⟨ai,h⟩
 cases m with
 |zero=>have ab:=(h0 a0).symm.trans h;cases ab
 |succ m=>
  refine⟨m,rfl,a_.rn _ _ _ _ ai (b1 a0) ((body (F m) a0 ((hs m a0).symm.trans h)).mono ?_)⟩
  intro fP HV ao;cases fP with
  |normal=>obtain⟨a0,g1,g2⟩:=ao;exact⟨a0,g1,g2⟩
  |exit i=>exact ao
  |ret=>exact ao
  |bf x=>exact ao
end
section
variable {α β:Type} {ρ:Type} {r:ρ} {N E:Nat} {st:aM} {Q:cr→aM→Prop} {x y:Code}
def eA{ch:α→β→aM}{f:α→β→Option ρ}{a0 aZ:_}(h:f a0 aZ=some r)(ai:hr (ch a0 aZ) st=some (ch a0 aZ):=by kernel_rfl):∃a0 aZ,hr (ch a0 aZ) st=some (ch a0 aZ)∧f a0 aZ=some r:=⟨a0,aZ,ai,h⟩
def oD(ch:α→β→aM)(f:α→β→Option ρ)(Z:a_ Tryz.prog N E x (cr.then (λb9=>∃a0 aZ,hr (ch a0 aZ) b9=some (ch a0 aZ)∧f a0 aZ=some r) Q) st)(ab:∀a0 aZ,f a0 aZ=some r→a_ Tryz.prog N E y Q (ch a0 aZ))(b1:∀a0 aZ,Nat.ble E (ch a0 aZ).aW=true:=by intros;kernel_rfl):a_ Tryz.prog N E (.seq x y) Q st:=
 a_.cut _ Z λb9 ⟨a0,aZ,ai,h⟩=>a_.rn _ _ _ _ ai (b1 a0 aZ) (ab a0 aZ h)
def gU(ch:α→β→aM)(F:Nat→α→β→Option ρ)(B:(α→β→Option ρ)→α→β→Option ρ){n:Nat}{a0 aZ:_}(h:F n a0 aZ=some r)(body:∀k a0 aZ,B k a0 aZ=some r→a_ Tryz.prog N E x (cr.then (λb9=>∃a0 aZ,hr (ch a0 aZ) b9=some (ch a0 aZ)∧k a0 aZ=some r) Q) (ch a0 aZ))(hi:hr (ch a0 aZ) st=some (ch a0 aZ):=by kernel_rfl)(b1:∀a0 aZ,Nat.ble E (ch a0 aZ).aW=true:=by intros;kernel_rfl)(h0:∀a0 aZ,F 0 a0 aZ=none:=by intros;rfl)(hs:∀m a0 aZ,F (m+1) a0 aZ=B (F m) a0 aZ:=by intros;rfl):a_ Tryz.prog N E (.loop x) Q st:=by
 refine a_.loop (σ:=α×β) (λm (s:α×β) st=>hr (ch s.1 s.2) st=some (ch s.1 s.2)∧F m s.1 s.2=some r) ?_ (n:=n) (s:=(a0,aZ)) ⟨hi,h⟩
 rintro m ⟨a0,aZ⟩ b9 ⟨ai,h⟩
 cases m with
 |zero=>have ab:=(h0 a0 aZ).symm.trans h;cases ab
 |succ m=>
  refine⟨m,rfl,a_.rn _ _ _ _ ai (b1 a0 aZ) ((body (F m) a0 aZ ((hs m a0 aZ).symm.trans h)).mono ?_)⟩
  intro fP HV ao;cases fP with
  |normal=>obtain⟨a0,aZ,g1,g2⟩:=ao;exact⟨(a0,aZ),g1,g2⟩
  |exit i=>exact ao
  |ret=>exact ao
  |bf x=>exact ao
end
section
variable {α β dG:Type} {ρ:Type} {r:ρ} {N E:Nat} {st:aM} {Q:cr→aM→Prop} {x y:Code}
def iD{ch:α→β→dG→aM}{f:α→β→dG→Option ρ}{a0 aZ a2:_}(h:f a0 aZ a2=some r)(ai:hr (ch a0 aZ a2) st=some (ch a0 aZ a2):=by kernel_rfl):∃a0 aZ a2,hr (ch a0 aZ a2) st=some (ch a0 aZ a2)∧f a0 aZ a2=some r:=⟨a0,aZ,a2,ai,h⟩
def ro(ch:α→β→dG→aM)(f:α→β→dG→Option ρ)(Z:a_ Tryz.prog N E x (cr.then (λb9=>∃a0 aZ a2,hr (ch a0 aZ a2) b9=some (ch a0 aZ a2)∧f a0 aZ a2=some r) Q) st)(ab:∀a0 aZ a2,f a0 aZ a2=some r→a_ Tryz.prog N E y Q (ch a0 aZ a2))(b1:∀a0 aZ a2,Nat.ble E (ch a0 aZ a2).aW=true:=by intros;kernel_rfl):a_ Tryz.prog N E (.seq x y) Q st:=
 a_.cut _ Z λb9 ⟨a0,aZ,a2,ai,h⟩=>a_.rn _ _ _ _ ai (b1 a0 aZ a2) (ab a0 aZ a2 h)
def Dk(ch:α→β→dG→aM)(F:Nat→α→β→dG→Option ρ)(B:(α→β→dG→Option ρ)→α→β→dG→Option ρ){n:Nat}{a0 aZ a2:_}(h:F n a0 aZ a2=some r)(body:∀k a0 aZ a2,B k a0 aZ a2=some r→a_ Tryz.prog N E x (cr.then (λb9=>∃a0 aZ a2,hr (ch a0 aZ a2) b9=some (ch a0 aZ a2)∧k a0 aZ a2=some r) Q) (ch a0 aZ a2))(hi:hr (ch a0 aZ a2) st=some (ch a0 aZ a2):=by kernel_rfl)(b1:∀a0 aZ a2,Nat.ble E (ch a0 aZ a2).aW=true:=by intros;kernel_rfl)(h0:∀a0 aZ a2,F 0 a0 aZ a2=none:=by intros;rfl)(hs:∀m a0 aZ a2,F (m+1) a0 aZ a2=B (F m) a0 aZ a2:=by intros;rfl):a_ Tryz.prog N E (.loop x) Q st:=by
 refine a_.loop (σ:=α×β×dG) (λm (s:α×β×dG) st=>hr (ch s.1 s.2.1 s.2.2) st=some (ch s.1 s.2.1 s.2.2)∧F m s.1 s.2.1 s.2.2=some r) ?_ (n:=n) (s:=(a0,aZ,a2)) ⟨hi,h⟩
 rintro m ⟨a0,aZ,a2⟩ b9 ⟨ai,h⟩
 cases m with
 |zero=>have ab:=(h0 a0 aZ a2).symm.trans h;cases ab
 |succ m=>
  refine⟨m,rfl,a_.rn _ _ _ _ ai (b1 a0 aZ a2) ((body (F m) a0 aZ a2 ((hs m a0 aZ a2).symm.trans h)).mono ?_)⟩
  intro fP HV ao;cases fP with
  |normal=>obtain⟨a0,aZ,a2,g1,g2⟩:=ao;exact⟨(a0,aZ,a2),g1,g2⟩
  |exit i=>exact ao
  |ret=>exact ao
  |bf x=>exact ao
end
section
variable {α β dG hI:Type} {ρ:Type} {r:ρ} {N E:Nat} {st:aM} {Q:cr→aM→Prop} {x y:Code}
def qg{ch:α→β→dG→hI→aM}{f:α→β→dG→hI→Option ρ}{a0 aZ a2 a3:_}(h:f a0 aZ a2 a3=some r)(ai:hr (ch a0 aZ a2 a3) st=some (ch a0 aZ a2 a3):=by kernel_rfl):∃a0 aZ a2 a3,hr (ch a0 aZ a2 a3) st=some (ch a0 aZ a2 a3)∧f a0 aZ a2 a3=some r:=⟨a0,aZ,a2,a3,ai,h⟩
def ah4(ch:α→β→dG→hI→aM)(f:α→β→dG→hI→Option ρ)(Z:a_ Tryz.prog N E x (cr.then (λb9=>∃a0 aZ a2 a3,hr (ch a0 aZ a2 a3) b9=some (ch a0 aZ a2 a3)∧f a0 aZ a2 a3=some r) Q) st)(ab:∀a0 aZ a2 a3,f a0 aZ a2 a3=some r→a_ Tryz.prog N E y Q (ch a0 aZ a2 a3))(b1:∀a0 aZ a2 a3,Nat.ble E (ch a0 aZ a2 a3).aW=true:=by intros;kernel_rfl):a_ Tryz.prog N E (.seq x y) Q st:=
 a_.cut _ Z λb9 ⟨a0,aZ,a2,a3,ai,h⟩=>a_.rn _ _ _ _ ai (b1 a0 aZ a2 a3) (ab a0 aZ a2 a3 h)
def sO(ch:α→β→dG→hI→aM)(F:Nat→α→β→dG→hI→Option ρ)(B:(α→β→dG→hI→Option ρ)→α→β→dG→hI→Option ρ){n:Nat}{a0 aZ a2 a3:_}(h:F n a0 aZ a2 a3=some r)(body:∀k a0 aZ a2 a3,B k a0 aZ a2 a3=some r→a_ Tryz.prog N E x (cr.then (λb9=>∃a0 aZ a2 a3,hr (ch a0 aZ a2 a3) b9=some (ch a0 aZ a2 a3)∧k a0 aZ a2 a3=some r) Q) (ch a0 aZ a2 a3))(hi:hr (ch a0 aZ a2 a3) st=some (ch a0 aZ a2 a3):=by kernel_rfl)(b1:∀a0 aZ a2 a3,Nat.ble E (ch a0 aZ a2 a3).aW=true:=by intros;kernel_rfl)(h0:∀a0 aZ a2 a3,F 0 a0 aZ a2 a3=none:=by intros;rfl)(hs:∀m a0 aZ a2 a3,F (m+1) a0 aZ a2 a3=B (F m) a0 aZ a2 a3:=by intros;rfl):a_ Tryz.prog N E (.loop x) Q st:=by
 refine a_.loop (σ:=α×β×dG×hI) (λm (s:α×β×dG×hI) st=>hr (ch s.1 s.2.1 s.2.2.1 s.2.2.2) st=some (ch s.1 s.2.1 s.2.2.1 s.2.2.2)∧F m s.1 s.2.1 s.2.2.1 s.2.2.2=some r) ?_ (n:=n) (s:=(a0,aZ,a2,a3)) ⟨hi,h⟩
 rintro m ⟨a0,aZ,a2,a3⟩ b9 ⟨ai,h⟩
 cases m with
 |zero=>have ab:=(h0 a0 aZ a2 a3).symm.trans h;cases ab
 |succ m=>
  refine⟨m,rfl,a_.rn _ _ _ _ ai (b1 a0 aZ a2 a3) ((body (F m) a0 aZ a2 a3 ((hs m a0 aZ a2 a3).symm.trans h)).mono ?_)⟩
  intro fP HV ao;cases fP with
  |normal=>obtain⟨a0,aZ,a2,a3,g1,g2⟩:=ao;exact⟨(a0,aZ,a2,a3),g1,g2⟩
  |exit i=>exact ao
  |ret=>exact ao
  |bf x=>exact ao
end
section
variable {α β dG hI sP:Type} {ρ:Type} {r:ρ} {N E:Nat} {st:aM} {Q:cr→aM→Prop} {x y:Code}
def ah5{ch:α→β→dG→hI→sP→aM}{f:α→β→dG→hI→sP→Option ρ}{a0 aZ a2 a3 a4:_}(h:f a0 aZ a2 a3 a4=some r)(ai:hr (ch a0 aZ a2 a3 a4) st=some (ch a0 aZ a2 a3 a4):=by kernel_rfl):∃a0 aZ a2 a3 a4,hr (ch a0 aZ a2 a3 a4) st=some (ch a0 aZ a2 a3 a4)∧f a0 aZ a2 a3 a4=some r:=⟨a0,aZ,a2,a3,a4,ai,h⟩
def ah6(ch:α→β→dG→hI→sP→aM)(F:Nat→α→β→dG→hI→sP→Option ρ)(B:(α→β→dG→hI→sP→Option ρ)→α→β→dG→hI→sP→Option ρ){n:Nat}{a0 aZ a2 a3 a4:_}(h:F n a0 aZ a2 a3 a4=some r)(body:∀k a0 aZ a2 a3 a4,B k a0 aZ a2 a3 a4=some r→a_ Tryz.prog N E x (cr.then (λb9=>∃a0 aZ a2 a3 a4,hr (ch a0 aZ a2 a3 a4) b9=some (ch a0 aZ a2 a3 a4)∧k a0 aZ a2 a3 a4=some r) Q) (ch a0 aZ a2 a3 a4))(hi:hr (ch a0 aZ a2 a3 a4) st=some (ch a0 aZ a2 a3 a4):=by kernel_rfl)(b1:∀a0 aZ a2 a3 a4,Nat.ble E (ch a0 aZ a2 a3 a4).aW=true:=by intros;kernel_rfl)(h0:∀a0 aZ a2 a3 a4,F 0 a0 aZ a2 a3 a4=none:=by intros;rfl)(hs:∀m a0 aZ a2 a3 a4,F (m+1) a0 aZ a2 a3 a4=B (F m) a0 aZ a2 a3 a4:=by intros;rfl):a_ Tryz.prog N E (.loop x) Q st:=by
 refine a_.loop (σ:=α×β×dG×hI×sP) (λm (s:α×β×dG×hI×sP) st=>hr (ch s.1 s.2.1 s.2.2.1 s.2.2.2.1 s.2.2.2.2) st=some (ch s.1 s.2.1 s.2.2.1 s.2.2.2.1 s.2.2.2.2)∧F m s.1 s.2.1 s.2.2.1 s.2.2.2.1 s.2.2.2.2=some r) ?_ (n:=n) (s:=(a0,aZ,a2,a3,a4)) ⟨hi,h⟩
 rintro m ⟨a0,aZ,a2,a3,a4⟩ b9 ⟨ai,h⟩
 cases m with
 |zero=>have ab:=(h0 a0 aZ a2 a3 a4).symm.trans h;cases ab
 |succ m=>
  refine⟨m,rfl,a_.rn _ _ _ _ ai (b1 a0 aZ a2 a3 a4) ((body (F m) a0 aZ a2 a3 a4 ((hs m a0 aZ a2 a3 a4).symm.trans h)).mono ?_)⟩
  intro fP HV ao;cases fP with
  |normal=>obtain⟨a0,aZ,a2,a3,a4,g1,g2⟩:=ao;exact⟨(a0,aZ,a2,a3,a4),g1,g2⟩
  |exit i=>exact ao
  |ret=>exact ao
  |bf x=>exact ao
end
section
variable {α β dG hI sP atq:Type} {ρ:Type} {r:ρ} {N E:Nat} {st:aM} {Q:cr→aM→Prop} {x y:Code}
end
end Go.Ab.Y.T
namespace Go.Ab.Y
open Go Go.Ab Go.Proofs
def HW(n:Nat)(s:aux):Option aux:=ax (decide (s.length≤281474976710656))<|some s
def HX(n:Nat)(s:aux)(c:Int):Option Int:=some (Lib.indexByte s c.toNat.toUInt8)
def y1(n:Nat)(s:aux):Option Int:=ax (decide (s.length≤140737488351232))<|some (hH s)
def Dl(s:aux):Int ⊕ Int:=
 match Lib.parseIntB 64 s with
 |.ok v=>.inl v
 |.range=>.inr (Lib.intSat 64 s)
 |_=>.inr 0
def y2(n:Nat)(s:aux)(base:Int)(HY:Int):Option (Int ⊕ Int):=
 ax (decide (base=10∧HY=64∧s.length≤281474976710656))<|some (Dl s)
def HZ(n:Nat)(i:Int)(base:Int):Option aux:=ax (decide (base=10 ∧ -9223372036854775808≤i∧i≤9223372036854775807))<|some (Lib.itoa i)
def H0(n:Nat)(elems:List aux)(sep:aux):Option aux:=ax (decide (elems.length≤140737488355328∧(Lib.join elems sep).length≤140737488355328))<|some (Lib.join elems sep)
open Go Go.Ab Go.Proofs
def ah7{n:Nat}{s:aux}{r:aux}(h:HW n s=some r):gY Tryz.prog 326 [.v (.str s)] [] [] (.ret (.v (.str r)) none) []:=by
 unfold HW at h;obtain⟨g,h⟩:=sJ h;obtain rfl:=Option.some.inj h;refine ww (fd:=Tryz.f326) Tryz.func326 rfl rfl (vsOf:=λvs=>vs=[.string ⟨⟨s⟩⟩]) (λM β vs aa ai=>?_) (λvs w av hg=>?_)
 ·match vs,aa with
  |[v],_=>
   have:=mZ (ai 0 v _ rfl rfl)
   rw [this]
 ·subst av;refine(Tryz.stringslite_Clone ⟨⟨s⟩⟩ w (show s.length≤281474976710656 from of_decide_eq_true g)).mono ?_
  rintro e w' ⟨rfl,hb⟩
  refine⟨_,rfl,λM β=>.v _ _ (.str _),λb a6 h=>?_,by rw [hb.os,hb.output]⟩
  rw [hb.block b (Array.getElem?_eq_some_iff.1 h).1];exact h
def ah8{n:Nat}{s:aux}{c:Int}{r:Int}(h:HX n s c=some r):gY Tryz.prog 352 [.v (.str s),.v (.int .u8 c)] [] [] (.ret (.v (.int .i64 r)) none) []:=by
 unfold HX at h;obtain rfl:=Option.some.inj h;refine ww (fd:=Tryz.f352) Tryz.func352 rfl rfl (vsOf:=λvs=>vs=[.string ⟨⟨s⟩⟩,.int .u8 c]) (λM β vs aa ai=>?_) (λvs w av hg=>?_)
 ·match vs,aa with
  |[v,u],_=>
   have Z:=mZ (ai 0 v _ rfl rfl);have ab:=mm (ai 1 u _ rfl rfl);rw [Z,ab]
 ·subst av;refine(Tryz.stringslite_IndexByte ⟨⟨s⟩⟩ c w).mono ?_
  rintro e w' ⟨rfl,rfl⟩
  exact⟨_,rfl,λM β=>.v _ _ (.int _ _),λb a6 h=>h,rfl⟩
def Yg{n:Nat}{s:aux}{r:Int}(h:y1 n s=some r):gY Tryz.prog 174 [.v (.str s)] [] [] (.ret (.v (.int .i64 r)) none) []:=by
 unfold y1 at h;obtain⟨g,h⟩:=sJ h;obtain rfl:=Option.some.inj h;refine ww (fd:=Tryz.f174) Tryz.func174 rfl rfl (vsOf:=λvs=>vs=[.string ⟨⟨s⟩⟩]) (λM β vs aa ai=>?_) (λvs w av hg=>?_)
 ·match vs,aa with
  |[v],_=>
   have:=mZ (ai 0 v _ rfl rfl)
   rw [this]
 ·subst av;refine(ahR ⟨⟨s⟩⟩ w (show s.length≤140737488351232 from of_decide_eq_true g)).mono ?_
  rintro e w' ⟨rfl,pos,rfl⟩
  refine⟨_,rfl,λM β=>.v _ _ (.int _ _),λb a6 h=>?_,rfl⟩
  rw [World.iter,Go.RowKit.Below.heap_alloc w _ b (Array.getElem?_eq_some_iff.1 h).1];exact h
def ah9(w:World)(e:TypeId)(t:ByteArray):((Lib.bytesWorld w e t).os,(Lib.bytesWorld w e t).output)=(w.os,w.output):=by
 rw [(Lib.bytesWorld_below w e t).os,(Lib.bytesWorld_below w e t).output]
def Pl:Nk Tryz.prog=[4,5]:=by kernel_rfl
def Yh{n:Nat}{s:aux}{base:Int}{HY:Int}{r:(Int ⊕ Int)}(h:y2 n s base HY=some r):gY Tryz.prog 351 [.v (.str s),.v (.int .i64 base),.v (.int .i64 HY)] [] [] (ik.on r (λYi=>.ret (.cA [.v (.int .i64 Yi),.v (.iw)]) none) (λYj=>.ret (.cA [.v (.int .i64 Yj),.v ((.iface 393 .any))]) none)) []:=by
 unfold y2 at h;obtain⟨g,h⟩:=sJ h;obtain rfl:=Option.some.inj h;obtain⟨rfl,rfl,aa⟩:=of_decide_eq_true g
 have e8:∀(M:Mem) (β:Nat→Option Nat) (vs:List Value),vs.length=3→(∀(i:Nat) v a,vs[i]? = some v→[D.v (.str s),.v (.int .i64 10),.v (.int .i64 64)][i]? = some a→cy M β v a)→vs=[.string ⟨⟨s⟩⟩,.int .i64 10,.int .i64 64]:=by
  intro M β vs aa ai
  match vs,aa with
  |[v,u,t],_=>
   have Z:=mZ (ai 0 v _ rfl rfl);have ab:=mm (ai 1 u _ rfl rfl);have aj:=mm (ai 2 t _ rfl rfl);rw [Z,ab,aj]
 unfold Dl;rcases hp:Lib.parseIntB 64 s with v|_|_
 ·
   refine ww (fd:=Tryz.f351) Tryz.func351 rfl rfl (vsOf:=λvs=>vs=[.string ⟨⟨s⟩⟩,.int .i64 10,.int .i64 64]) (λM β vs aa ai=>e8 M β vs aa ai) (λvs w av hg=>?_)
   subst av;refine(Tryz.strconv_ParseInt_10_at64_ok ⟨⟨s⟩⟩ (show s.length≤9223372036854775806 by omega) v hp w).mono ?_
   rintro e w' ⟨rfl,hw⟩
   refine⟨_,rfl,λM β=>.cA [_,_] _ rfl λi v c hi hc=>?_,λb a6 h=>?_,by rcases hw with rfl|⟨t,rfl⟩;rfl;exact ah9 _ _ _⟩
   ·match i with
    | 0=>cases hi;cases hc;exact .v _ _ (.int _ _)
    | 1=>cases hi;cases hc;exact .v _ _ .iw
    |i+2=>simp at hi
   ·rcases hw with rfl|⟨t,rfl⟩
    ·exact h
    ·rw [Lib.bytesWorld_at_old _ _ _ _ (Array.getElem?_eq_some_iff.1 h).1];exact h
 ·
   refine ww (fd:=Tryz.f351) Tryz.func351 rfl rfl (vsOf:=λvs=>vs=[.string ⟨⟨s⟩⟩,.int .i64 10,.int .i64 64]) (λM β vs aa ai=>e8 M β vs aa ai) (λvs w av hg=>?_)
   subst av;obtain⟨fN,Z,ab⟩:=hg.1 4 (by rw [Pl];simp)
   refine(Tryz.strconv_ParseInt_10_at64_syntax ⟨⟨s⟩⟩ aa (by constructor;intro v;rw [show Lib.parseIntB 64 (⟨⟨s⟩⟩:ByteArray).data.toList=_ from hp];intro e;cases e;rw [show Lib.parseIntB 64 (⟨⟨s⟩⟩:ByteArray).data.toList=_ from hp];intro e;cases e) fN w Z ab).mono ?_
   rintro e w' ⟨N,rfl,aI,ij,hb⟩
   refine⟨_,rfl,λM β=>.cA [_,_] _ rfl λi v c hi hc=>?_,λb a6 h=>?_,by rw [hb.os,hb.output]⟩
   ·match i with
    | 0=>cases hi;cases hc;exact .v _ _ (.int _ _)
    | 1=>cases hi;cases hc;exact .v _ _ (.iface _ _ _ (.any _ rfl))
    |i+2=>simp at hi
   ·rw [hb.block b (Array.getElem?_eq_some_iff.1 h).1];exact h
 ·
   refine ww (fd:=Tryz.f351) Tryz.func351 rfl rfl (vsOf:=λvs=>vs=[.string ⟨⟨s⟩⟩,.int .i64 10,.int .i64 64]) (λM β vs aa ai=>e8 M β vs aa ai) (λvs w av hg=>?_)
   subst av;obtain⟨fN,Z,ab⟩:=hg.1 5 (by rw [Pl];simp)
   refine(Tryz.strconv_ParseInt_10_at64_range ⟨⟨s⟩⟩ aa hp fN w Z ab).mono ?_
   rintro e w' ⟨N,rfl,aI,ij,hb⟩
   refine⟨_,rfl,λM β=>.cA [_,_] _ rfl λi v c hi hc=>?_,λb a6 h=>?_,by rw [hb.os,hb.output]⟩
   ·match i with
    | 0=>cases hi;cases hc;exact .v _ _ (.int _ _)
    | 1=>cases hi;cases hc;exact .v _ _ (.iface _ _ _ (.any _ rfl))
    |i+2=>simp at hi
   ·rw [hb.block b (Array.getElem?_eq_some_iff.1 h).1];exact h
def H2 : Tryz.prog.globalNamed "internal/strconv.uint64pow10" = some 1 := by kernel_rfl
def Yk:(Lib.pow10Tab.map λz=>Value.int .u64 z).toArray=Nl:=by kernel_rfl
def ah' {w : World} (h : HA Tryz.prog w) : Lib.TabIs Tryz.prog w "internal/strconv.uint64pow10" .u64 Lib.pow10Tab := by
 obtain⟨t,kW,Z⟩:=h.2 1 H2;unfold Lib.TabIs World.var?;rw [H2,Option.bind_some,Z,Yk]
def ah_{n:Nat}{i:Int}{base:Int}{r:aux}(h:HZ n i base=some r):gY Tryz.prog 320 [.v (.int .i64 i),.v (.int .i64 base)] [] [] (.ret (.v (.str r)) none) []:=by
 unfold HZ at h;obtain⟨g,h⟩:=sJ h;obtain rfl:=Option.some.inj h;obtain⟨rfl,h0,Z⟩:=of_decide_eq_true g;refine ww (fd:=Tryz.f320) Tryz.func320 rfl rfl (vsOf:=λvs=>vs=[.int .i64 i,.int .i64 10]) (λM β vs aa ai=>?_) (λvs w av hg=>?_)
 ·match vs,aa with
  |[v,u],_=>
   have g1:=mm (ai 0 v _ rfl rfl);have g2:=mm (ai 1 u _ rfl rfl);rw [g1,g2]
 ·subst av;refine(Tryz.strconv_FormatInt_10 i h0 Z w (ah' hg)).mono ?_
  rintro e w' ⟨rfl,k,os,rfl⟩
  exact⟨_,rfl,λM β=>.v _ _ (.str _),λb a6 h=>(Lib.heap_grow_old w k os b (Array.getElem?_eq_some_iff.1 h).1).trans h,rfl⟩
def Yl{b:List Int}(g:(nB b&&decide (b.length≤9223372036854775807))=true):b.length=(jV b).length∧∀i,i<(jV b).length→(λi=>cQ (b.getD i default)) i = .int .u8 (((jV b).getD i 0).toNat:Int):=by
 simp only [Bool.and_eq_true]at g;obtain⟨Z,ab⟩:=C5 g.1;exact⟨Z.symm,λi hi=>ab i (by omega)⟩
def Ym{b:List Int}(g:(nB b&&decide (b.length≤9223372036854775807))=true):(jV b).length≤9223372036854775807:=by
 simp only [Bool.and_eq_true,decide_eq_true_eq]at g;rw [(C5 g.1).1];exact g.2
def Pm:Go.Proofs.Builder.Extra Tryz.prog Tryz.X0 where
 sizeBuilder:=by kernel_rfl
 liesBuilder:=by kernel_rfl
 t5:=Tryz.underlying5
 a5:=Tryz.isAgg5
 z5:=Tryz.sizeOf5
 v5:=Tryz.zeroValue5
 infoByte:=by kernel_rfl
 cellsByte:=by kernel_rfl
 sizeByte:=by kernel_rfl
 neB5:=by decide
def Yn{n:Nat}{elems:List aux}{sep:aux}{r:aux}(h:H0 n elems sep=some r):gY Tryz.prog 119 [.v (ag 1 bF elems),.v (.str sep)] [] [] (.ret (.v (.str r)) none) []:=by
 unfold H0 at h;obtain⟨g,h⟩:=sJ h;obtain rfl:=Option.some.inj h;obtain⟨aI,c8⟩:=of_decide_eq_true g
 have Yo:(elems.map λs=>(⟨⟨s⟩⟩:ByteArray)).map (·.data.toList)=elems:=by
  rw [List.map_map];conv=>rhs;rw [←List.map_id elems]
  rfl
 refine Xw (fd:=Tryz.f119) Tryz.func119 rfl rfl (vsOf:=λw vs=>(∃a,vs=[.slice a 0 0,.string ⟨⟨sep⟩⟩]∧elems=[])∨∃y3 o c,vs=[.slice (some ⟨y3,o,none⟩) elems.length c,.string ⟨⟨sep⟩⟩]∧elems.length≤c∧∀(j:Nat) x,elems[j]? = some x→w.cell? ⟨y3,o+j,none⟩=some (.string ⟨⟨x⟩⟩)) (λw M β vs hm aa ai=>?_) (λvs w av hg=>?_)
 ·match vs,aa with
  |[v,u],_=>
   have g2:=mZ (ai 1 u _ rfl rfl);have g1:=ai 0 v _ rfl rfl;rw [g2];rcases tT (k:=1) (n:=elems.length) (get:=λi=>bF (elems.getD i default)) g1 with⟨Z,ab⟩|⟨b,off,cap,val,Z,hc,hk,cV,ji,gM⟩
   ·rcases Z with Z|⟨a,Z⟩
    ·exact .inl ⟨none,by rw [Z],List.eq_nil_of_length_eq_zero ab⟩
    ·exact .inl ⟨some a,by rw [Z],List.eq_nil_of_length_eq_zero ab⟩
   ·refine .inr ⟨b,off,cap,by rw [Z],hc,λj x hx=>?_⟩
    have hj:j<elems.length:=(List.getElem?_eq_some_iff.1 hx).1;have e1:=hm _ _ _ (cV j 0 hj (by omega))
    have e2:=gM j 0 (.str x) hj (by
     have:elems.getD j default=x:=by simp [List.getD,hx]
     rw [this];rfl)
    rw [show off+j*1+0=off+j by omega]at e1
    rw [e1];generalize val j 0=y at e2 ⊢
    cases e2;rfl
 ·rcases av with⟨a,rfl,rfl⟩|⟨y3,o,c,rfl,hc,p2⟩
  ·refine(Any.strings_Join_none Tryz.Pc Pm a 0 ⟨⟨sep⟩⟩ w).mono ?_
   rintro e w' ⟨rfl,rfl⟩
   exact⟨_,rfl,λM β=>.v _ _ (.str _),λb a6 h=>h,rfl⟩
  ·cases elems with
   |nil=>
    refine(Any.strings_Join_none Tryz.Pc Pm (some ⟨y3,o,none⟩) c ⟨⟨sep⟩⟩ w).mono ?_
    rintro e w' ⟨rfl,rfl⟩
    exact⟨_,rfl,λM β=>.v _ _ (.str _),λb a6 h=>h,rfl⟩
   |cons fI aia=>
    have aib:y3<w.heap.size:=lt_of_cell (p2 0 fI rfl)
    have hj:=Any.strings_Join Tryz.Pc Pm y3 o c ((fI::aia).map λs=>(⟨⟨s⟩⟩:ByteArray)) ⟨⟨sep⟩⟩ w (λj x hx=>by
     rw [List.getElem?_map,Option.map_eq_some_iff]at hx;obtain⟨y,cg,rfl⟩:=hx;exact p2 j y cg) aib (by simpa using aI) (by simpa using hc) (by rw [Yo];exact c8)
    rw [List.length_map]at hj;refine hj.mono ?_
    rintro e w' ⟨rfl,hb⟩
    refine⟨_,rfl,λM β=>?_,λb a6 h=>?_,by rw [hb.os,hb.output]⟩
    ·rw [Yo];exact .v _ _ (.str _)
    ·rw [hb.block b (Array.getElem?_eq_some_iff.1 h).1];exact h
end Go.Ab.Y
namespace Go.Ab.Y
open Go Go.Ab Go.Proofs T
abbrev auE{ρ:Type}(i:FuncId)(a:List D)(F:Option ρ)(o:ρ→Out):Prop:=aQ i a [] [] F o λ_=>[]
abbrev auF(i:FuncId)(a:List D)(F:Option Bool):Prop:=auE i a F λr=>aP (bV r)
abbrev auG(i:FuncId)(a:List D)(F:Option Int):Prop:=auE i a F λr=>aP (bi r)
end Go.Ab.Y

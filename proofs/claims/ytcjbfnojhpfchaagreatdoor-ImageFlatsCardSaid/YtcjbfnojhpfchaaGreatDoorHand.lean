/- The types of this claim, and the contracts that were written by hand. -/
import Derived.Test.YtcjbfnojhpfchaaGreatDoorProg
import Derived.WalkKit
import Derived.Lib.Builder
import Derived.Lib.UnsafeStr
import Derived.Laws.Externs
import Derived.Shelf.RegionOpenPlain
import Derived.Lib.Join
import Derived.Lib.Bytealg
import Derived.Lib.ItoaNum
import Derived.Lib.ParseIntBCases
import Derived.Lib.AppendIntMem
import Derived.Lib.AtoiErrMem
import Derived.Test.YtcjbfnojhpfchaaGreatDoorShelf
set_option linter.all false
namespace Go.Ab
abbrev atY(x:Int):Int:=IntKind.i64.wrap x
abbrev atZ{α:Type}[Inhabited α](l:List α)(i:Int):α:=l.getD i.toNat default
abbrev at0:=Option Bool
abbrev at1:=Option Int
abbrev V.at2(x:Int):V:=.int .i64 x
end Go.Ab
namespace Go.Ab.Y
open Go Go.Proofs
def fP(c:UInt8):Bool:=decide ((97≤c.toNat∧c.toNat≤122)∨(48≤c.toNat∧c.toNat≤57)∨c.toNat=95)
def hE(s:atW):Nat:=(s.takeWhile fP).length
def OJ{s:atW}{k:Nat}(hk:k≤s.length)(h:∀(j:Nat) c,j<k→s[j]? = some c→fP c=true)(he:∀c,s[k]? = some c→fP c=false):hE s=k:=by
 unfold hE;induction s generalizing k with
 |nil=>simp at hk ⊢;omega
 |cons c s aH=>
  cases k with
  |zero=>
   have:=he c rfl
   simp [List.takeWhile,this]
  |succ k=>
   have h0:=h 0 c (by omega) rfl
   simp only [List.takeWhile,h0,List.length_cons];rw [aH (by simpa using hk) (λj c hj hc=>h (j+1) c (by omega) (by simpa using hc)) (λc hc=>he c (by simpa using hc))]
def OK(s:ByteArray)(k:Nat)(h:k<s.size):s.data.toList[k]? = some (s[k]'h):=by
 have:k<s.data.toList.length:=by simpa using h
 rw [List.getElem?_eq_getElem this];rfl
def Hi(s:ByteArray)(k:Nat):Prop:=∀(j:Nat) c,j<k→s.data.toList[j]? = some c→fP c=true
def Hi.succ{s:ByteArray}{k:Nat}(h:Hi s k)(hk:k<s.size)(hc:fP (s[k]'hk)=true):Hi s (k+1):=by
 intro j c hj ka;by_cases e:j=k
 ·subst e;rw [OK s j hk]at ka;cases ka;exact hc
 ·exact h j c (by omega) ka
set_option maxRecDepth 100000 in
def ahs(s:ByteArray)(w:World)(hs:s.size≤140737488351232):
 Calls Tryz.prog 174 #[.string s] w λe w'=>e = .returned (.int .i64 (hE s.data.toList))∧∃pos,w'=w.iter s pos:=by
 go_enter Tryz.func174,Tryz.ntmps174
 go_wp2
 go_loopw [] (λw'=>∃k:Nat,w'=w.iter s k∧k≤s.size∧Hi s k) (λw'=>s.size-w'.iterPos w.heap.size)
 case atStart=>exact⟨0,rfl,by omega,λj c hj=>by omega⟩
 case round=>
  obtain⟨k,rfl,hk,hin⟩:=hrel;by_cases hp:k<s.size
  ·by_cases ha:(s[k]'hp).toNat<128
   ·have hnx:∀ty,(Instr.next (.pointer (some ⟨w.heap.size,0,none⟩)) true ty).run Tryz.prog (w.iter s k)=_:=λty=>run_next_ascii w s k ty hp ha
    cases hw:fP (s[k]'hp)
    ·have hlen:=OJ (s:=s.data.toList) (k:=k) (by simpa using hk) hin (λc hc=>by rw [OK s k hp]at hc;cases hc;exact hw)
     have hc:=of_decide_eq_false hw;clear hw
     go_wp2
     all_goals first
      |(exfalso;simp at *;omega)
      |(go_ret;exact⟨by first |rfl |(rw [hlen];rfl),_,rfl⟩)
    ·have hc:=of_decide_eq_true hw;have hin2:=hin.succ hp hw;clear hw hin
     go_wp2
     all_goals first
      |(exfalso;simp at *;omega)
      |(
       go_roundw
       case rel=>exact⟨k+1,rfl,hp,hin2⟩
       case measure=>simp;omega)
   ·have hnx:∀ty,(Instr.next (.pointer (some ⟨w.heap.size,0,none⟩)) true ty).run Tryz.prog (w.iter s k)=_:=λty=>run_next_any w s k ty hp
    have hd:=(decode_high s k hp (by omega)).1
    have hle:=decode_le s k
    have hlen:=OJ (s:=s.data.toList) (k:=k) (by simpa using hk) hin (λc hc=>by
     rw [OK s k hp]at hc;cases hc;exact decide_eq_false (by omega))
    generalize Utf8.decode s k=d at hnx hd hle
    go_wp2
    all_goals first
     |(exfalso;simp at *;omega)
     |(go_ret;exact⟨by first |rfl |(rw [hlen];rfl),_,rfl⟩)
  ·have hnx:∀ty,(Instr.next (.pointer (some ⟨w.heap.size,0,none⟩)) true ty).run Tryz.prog (w.iter s k)=_:=λty=>run_next_end w s k ty hp
   have hlen:=OJ (s:=s.data.toList) (k:=k) (by simpa using hk) hin (λc hc=>by
    have:=(List.getElem?_eq_some_iff.1 hc).1
    simp at this;omega)
   obtain rfl:k=s.size:=by omega
   go_wp2
   go_ret
   exact⟨by first|rfl|(rw [hlen];rfl),_,rfl⟩
open Go Go.Proofs Go.RowKit
def XL:(Tryz.prog.info? 120).map (·.size)=some 2:=by kernel_rfl
set_option maxHeartbeats 1000000 in
set_option maxRecDepth 100000 in
def XM(b:Nat)(w:World)(h0:w.cell? ⟨b,0,none⟩=some (.pointer (some ⟨b,0,none⟩))):
 Calls Tryz.prog 113 #[.pointer (some ⟨b,0,none⟩)] w λe w'=>e = .returned (.tuple #[])∧w'=w:=by
 obtain⟨j,hj,_⟩:=Option.map_eq_some_iff.1 XL
 go_enter Tryz.func113,Tryz.ntmps113
 go_wp2
 rw [Lib.run_neq_ptr_same w _ Tryz.underlying117 hj]
 go_wp2
 go_end0
 exact⟨rfl,rfl⟩
set_option maxHeartbeats 1000000 in
set_option maxRecDepth 100000 in
def XN(b:Nat)(w:World)(T:TypeId)(k:Nat)(h0:w.cell? ⟨b,0,none⟩=some (.pointer none))(hsh:w.shape? b=some (T,k))(hk:0<k)(hlies:liesAt Tryz.prog Tryz.prog.depth T (k / Tryz.prog.cellsOf T) 0 120 1=true)(hfz:w.frozen? ⟨b,0,none⟩=false):
 Calls Tryz.prog 113 #[.pointer (some ⟨b,0,none⟩)] w λe w'=>e = .returned (.tuple #[])∧w'=w.setCell ⟨b,0,none⟩ (.pointer (some ⟨b,0,none⟩)):=by
 obtain⟨j,hj,hjs⟩:=Option.map_eq_some_iff.1 XL
 go_enter Tryz.func113,Tryz.ntmps113
 go_wp2
 rw [Lib.run_to_unsafe w ⟨b,0,none⟩ Tryz.underlying117 Tryz.underlying256 hj (by rw [hjs];decide) hsh hk]
 simp only [Result.andThen];rw [Oper.upon_value]
 go_wp2
 rw [run_callFunc_extern Tryz.func184 (by kernel_rfl) (by kernel_rfl) (by kernel_rfl) (e:=Extern.AbiNoEscape.same) (by kernel_rfl)]
 rw [Lib.run_noEscape];simp only [Result.andThen];rw [Oper.upon_value]
 go_wp2
 rw [Lib.run_from_unsafe w ⟨b,0,none⟩ Tryz.underlying256 Tryz.underlying117 hj hsh hlies];simp only [Result.andThen];rw [Oper.upon_value]
 go_wp2
 go_end0
 exact⟨rfl,rfl⟩
def cellsByte:Tryz.prog.cellsOf 5=1:=by kernel_rfl
set_option maxHeartbeats 2000000 in
set_option maxRecDepth 100000 in
def XO(b:Nat)(w:World)(h:w.cell? ⟨b,1,none⟩=some (.slice none 0 0)):
 Calls Tryz.prog 66 #[.pointer (some ⟨b,0,none⟩)] w λe w'=>e = .returned (.string ⟨#[]⟩)∧w'=w.drew:=by
 have hUS:(Builtin.unsafeString_ #[191,3] 9 #[.pointer none,.int .i64 0]).run Tryz.prog w.drew = .ok (.string .empty) w.drew:=Lib.run_unsafeString_none w.drew _ _ _ none;have c1:w.drew.cell? ⟨b,1,none⟩=some (.slice none 0 0):=h;have hSD:(Builtin.unsafeSliceData_ #[118] 191 #[.slice none 0 0]).run Tryz.prog w.drew = .ok (.pointer none) w.drew:=rfl;have mixed:Tryz.prog.follows .mixedOrders=true:=by kernel_rfl
 go_enter Tryz.func66,Tryz.ntmps66
 go_wp2
 go_region_o
 all_goals (go_wp2;go_ret;exact⟨rfl,rfl⟩)
set_option maxHeartbeats 2000000 in
set_option maxRecDepth 100000 in
def XP(b g cap:Nat)(w:World)(hc0:cap≠0)(h:w.cell? ⟨b,1,none⟩=some (.slice (some ⟨g,0,none⟩) 0 cap)):
 Calls Tryz.prog 66 #[.pointer (some ⟨b,0,none⟩)] w λe w'=>e = .returned (.string ⟨#[]⟩)∧w'=w.drew:=by
 have hUS:(Builtin.unsafeString_ #[191,3] 9 #[.pointer (some ⟨g,0,none⟩),.int .i64 0]).run Tryz.prog w.drew = .ok (.string .empty) w.drew:=Lib.run_unsafeString_none w.drew _ _ _ _;have c1:w.drew.cell? ⟨b,1,none⟩=some (.slice (some ⟨g,0,none⟩) 0 cap):=h;have hSD:(Builtin.unsafeSliceData_ #[118] 191 #[.slice (some ⟨g,0,none⟩) 0 cap]).run Tryz.prog w.drew = .ok (.pointer (some ⟨g,0,none⟩)) w.drew:=Lib.run_unsafeSliceData_row _ _ _ _ _ _ hc0;clear hc0;have mixed:Tryz.prog.follows .mixedOrders=true:=by kernel_rfl
 go_enter Tryz.func66,Tryz.ntmps66
 go_wp2
 go_region_o
 all_goals (go_wp2;go_ret;exact⟨rfl,rfl⟩)
set_option maxHeartbeats 2000000 in
set_option maxRecDepth 100000 in
def XQ(b g:Nat)(w:World)(vs:List Value)(h:w.cell? ⟨b,1,none⟩=some (.slice (some ⟨g,0,none⟩) 0 0))(hb:b<w.heap.size)(hg:w.heap[g]? = some (.cells ⟨vs⟩ 5 (0,0))):
 Calls Tryz.prog 66 #[.pointer (some ⟨b,0,none⟩)] w λe w'=>e = .returned (.string ⟨#[]⟩)∧w'=(w.drew.alloc (.view ⟨g,0,none⟩ 5)):=by
 have hUS:∀(q:Option Addr) (W:World),(Builtin.unsafeString_ #[191,3] 9 #[.pointer q,.int .i64 0]).run Tryz.prog W = .ok (.string .empty) W:=λq W=>Lib.run_unsafeString_none W _ _ _ q
 have c1:w.drew.cell? ⟨b,1,none⟩=some (.slice (some ⟨g,0,none⟩) 0 0):=h
 have hSD:(Builtin.unsafeSliceData_ #[118] 191 #[.slice (some ⟨g,0,none⟩) 0 0]).run Tryz.prog w.drew = .ok (.pointer (some ⟨w.drew.heap.size,0,none⟩)) (w.drew.alloc (.view ⟨g,0,none⟩ 5)):=
  Lib.run_unsafeSliceData_zero w.drew _ _ 5 Tryz.underlying191 ⟨g,0,none⟩ 0 (5,vs.length) (by have hg':w.drew.heap[g]? = some (.cells ⟨vs⟩ 5 (0,0)):=hg;simp [World.shape?,hg'])
 have c2:(w.drew.alloc (.view ⟨g,0,none⟩ 5)).cell? ⟨b,1,none⟩=some (.slice (some ⟨g,0,none⟩) 0 0):=by
  unfold World.cell? at h ⊢;rw [show(w.drew.alloc (.view ⟨g,0,none⟩ 5)).heap[b]? = w.heap[b]? from Lib.alloc_old w.drew _ b hb];exact h
 have c3:(w.alloc (.view ⟨g,0,none⟩ 5)).drew.cell? ⟨b,1,none⟩=some (.slice (some ⟨g,0,none⟩) 0 0):=c2;have mixed:Tryz.prog.follows .mixedOrders=true:=by kernel_rfl
 go_enter Tryz.func66,Tryz.ntmps66
 go_wp2
 go_region_o
 all_goals (go_wp2;go_ret;exact⟨rfl,rfl⟩)
set_option maxHeartbeats 2000000 in
set_option maxRecDepth 100000 in
def XR(b g cap:Nat)(w:World)(vs:List Value)(l:atW)(h0:l≠[])(h:w.cell? ⟨b,1,none⟩=some (.slice (some ⟨g,0,none⟩) l.length cap))(hg:w.heap[g]? = some (.cells ⟨vs⟩ 5 (0,0)))
 (hn:l.length≤cap) (hcap:cap≤vs.length) (h63:l.length≤9223372036854775807) (hc:∀(j:Nat) (x:UInt8),l[j]? = some x→vs[j]? = some (Value.int .u8 x.toNat)):
 Calls Tryz.prog 66 #[.pointer (some ⟨b,0,none⟩)] w λe w'=>e = .returned (.string ⟨l.toArray⟩)∧w'=w.drew.freeze ⟨g,0,none⟩ l.length:=by
 have hl0:l.length≠0:=by simpa using h0
 have c1:w.drew.cell? ⟨b,1,none⟩=some (.slice (some ⟨g,0,none⟩) l.length cap):=h;have hg':w.drew.heap[g]? = some (.cells ⟨vs⟩ 5 (0,0)):=hg;have hSD:(Builtin.unsafeSliceData_ #[118] 191 #[.slice (some ⟨g,0,none⟩) l.length cap]).run Tryz.prog w.drew = .ok (.pointer (some ⟨g,0,none⟩)) w.drew:=Lib.run_unsafeSliceData_row _ _ _ _ _ _ (by omega)
 have hUS:(Builtin.unsafeString_ #[191,3] 9 #[.pointer (some ⟨g,0,none⟩),.int .i64 l.length]).run Tryz.prog w.drew = .ok (.string ⟨l.toArray⟩) (w.drew.freeze ⟨g,0,none⟩ l.length):=
  Lib.run_unsafeString_row w.drew 191 3 9 5 Tryz.underlying191 cellsByte g vs.length (by simp [World.shape?,hg']) l h0 (by omega) h63 (λj x hx=>by
   have:=hc j x hx
   rw [show(⟨g,0,none⟩:Addr).add j=⟨g,j,none⟩by unfold Addr.add;split<;>simp_all,Go.Ab.cell_of_heap hg',this])
 have mixed:Tryz.prog.follows .mixedOrders=true:=by kernel_rfl
 go_enter Tryz.func66,Tryz.ntmps66
 go_wp2
 go_region_o
 all_goals (go_wp2;go_ret;exact⟨rfl,rfl⟩)
open Go Go.Ab Go.Proofs
abbrev asB(x:Int):V:=.int .i32 x
abbrev aht(x:Int):V:=.int .i64 x
abbrev asC(x:Int):V:=.int .u32 x
abbrev asD(x:Int):V:=.int .u64 x
abbrev cO(x:Int):V:=.int .u8 x
def asE{α β dH:Type}{a:α}{f:α→dH}{g:β→dH}{r:dH}(h:ii.on (.inl a) f g=r):f a=r:=h
def asF{α β dH:Type}{b:β}{f:α→dH}{g:β→dH}{r:dH}(h:ii.on (.inr b) f g=r):g b=r:=h
abbrev asG(x:Bool):V:=.bool x
abbrev bE(x:atW):V:=.str x
structure bp where
 Kind:Int
 N:Int
 S:atW
instance:Inhabited bp:=⟨⟨0,0,([]:atW)⟩⟩
def dY(x:bp):V:=.agg [.int .i64 x.Kind,.int .i64 x.N,.str x.S]
structure Version where
 ck:Int
 bA:bp
instance:Inhabited Version:=⟨⟨0,(⟨0,0,([]:atW)⟩:bp)⟩⟩
def hW(x:Version):V:=.agg [.int .i64 x.ck,.int .i64 x.bA.Kind,.int .i64 x.bA.N,.str x.bA.S]
structure Row where
 Key:atW
 bl:List Version
instance:Inhabited Row:=⟨⟨([]:atW),([]:List Version)⟩⟩
def cH(x:Row):V:=.agg [.str x.Key,ah 4 hW x.bl]
structure aB where
 cl:Int
 b9:Int
 Rows:List Row
instance:Inhabited aB:=⟨⟨0,0,([]:List Row)⟩⟩
def ahu(x:aB):V:=.agg [.int .i64 x.cl,.int .i64 x.b9,ah 2 cH x.Rows]
structure Param where
 Name:atW
 fs:Int
instance:Inhabited Param:=⟨⟨([]:atW),0⟩⟩
def ea(x:Param):V:=.agg [.str x.Name,.int .i64 x.fs]
structure Expr where
 Op:Int
 N:Int
 S:atW
 ar:List Expr
instance:Inhabited Expr:=⟨⟨0,0,([]:atW),([]:List Expr)⟩⟩
mutual
def b2:Expr→V
 |⟨Op,N,S,ar⟩=>.agg [.int .i64 Op,.int .i64 N,.str S,.bH 4 ar.length λi=>(CA ar).getD i .eA]
def CA:List Expr→List V
 |[]=>[]
 |x::l=>b2 x::CA l
end
def XS:∀l:List Expr,CA l=l.map b2
 |[]=>rfl
 |x::l=>by rw [CA,XS l];rfl
def XT(l:List Expr)(i:Nat)(h:i<l.length):(CA l).getD i .eA=b2 (l.getD i default):=by
 rw [XS];simp [List.getD,List.getElem?_eq_getElem h]
def OL(x:Expr):kB (b2 x).cells [.int .i64 x.Op,.int .i64 x.N,.str x.S,ah 4 b2 x.ar]:=by
 cases x;exact .cons (ia _) (.cons (ia _) (.cons (ia _) (.cons (qZ λi hi=>XT _ i hi) (kB.nil))))
def CB(x:Expr):kB [.int .i64 x.Op,.int .i64 x.N,.str x.S,ah 4 b2 x.ar] (b2 x).cells:=by
 cases x;exact .cons (ia _) (.cons (ia _) (.cons (ia _) (.cons (qZ λi hi=>(XT _ i hi).symm) (kB.nil))))
def fQ(x:Expr):hA (b2 x) (.agg [.int .i64 x.Op,.int .i64 x.N,.str x.S,ah 4 b2 x.ar]):=by
 have h:=OL x;cases x;exact WW h
structure Stmt where
 Op:Int
 Name:atW
 Max:Int
 A:Expr
 B:Expr
 Body:List Stmt
 bx:List Stmt
instance:Inhabited Stmt:=⟨⟨0,([]:atW),0,(⟨0,0,([]:atW),([]:List Expr)⟩:Expr),(⟨0,0,([]:atW),([]:List Expr)⟩:Expr),([]:List Stmt),([]:List Stmt)⟩⟩
mutual
def bT:Stmt→V
 |⟨Op,Name,Max,A,B,Body,bx⟩=>.agg [.int .i64 Op,.str Name,.int .i64 Max,.int .i64 A.Op,.int .i64 A.N,.str A.S,ah 4 b2 A.ar,.int .i64 B.Op,.int .i64 B.N,.str B.S,ah 4 b2 B.ar,.bH 13 Body.length λi=>(yo Body).getD i .eA,.bH 13 bx.length λi=>(yo bx).getD i .eA]
def yo:List Stmt→List V
 |[]=>[]
 |x::l=>bT x::yo l
end
def XU:∀l:List Stmt,yo l=l.map bT
 |[]=>rfl
 |x::l=>by rw [yo,XU l];rfl
def Hj(l:List Stmt)(i:Nat)(h:i<l.length):(yo l).getD i .eA=bT (l.getD i default):=by
 rw [XU];simp [List.getD,List.getElem?_eq_getElem h]
def ahv(x:Stmt):kB (bT x).cells [.int .i64 x.Op,.str x.Name,.int .i64 x.Max,.int .i64 x.A.Op,.int .i64 x.A.N,.str x.A.S,ah 4 b2 x.A.ar,.int .i64 x.B.Op,.int .i64 x.B.N,.str x.B.S,ah 4 b2 x.B.ar,ah 13 bT x.Body,ah 13 bT x.bx]:=by
 cases x;exact .cons (ia _) (.cons (ia _) (.cons (ia _) (.cons (ia _) (.cons (ia _) (.cons (ia _) (.cons (ia _) (.cons (ia _) (.cons (ia _) (.cons (ia _) (.cons (ia _) (.cons (qZ λi hi=>Hj _ i hi) (.cons (qZ λi hi=>Hj _ i hi) (kB.nil)))))))))))))
def XV(x:Stmt):kB [.int .i64 x.Op,.str x.Name,.int .i64 x.Max,.int .i64 x.A.Op,.int .i64 x.A.N,.str x.A.S,ah 4 b2 x.A.ar,.int .i64 x.B.Op,.int .i64 x.B.N,.str x.B.S,ah 4 b2 x.B.ar,ah 13 bT x.Body,ah 13 bT x.bx] (bT x).cells:=by
 cases x;exact .cons (ia _) (.cons (ia _) (.cons (ia _) (.cons (ia _) (.cons (ia _) (.cons (ia _) (.cons (ia _) (.cons (ia _) (.cons (ia _) (.cons (ia _) (.cons (ia _) (.cons (qZ λi hi=>(Hj _ i hi).symm) (.cons (qZ λi hi=>(Hj _ i hi).symm) (kB.nil)))))))))))))
def gP(x:Stmt):hA (bT x) (.agg [.int .i64 x.Op,.str x.Name,.int .i64 x.Max,.int .i64 x.A.Op,.int .i64 x.A.N,.str x.A.S,ah 4 b2 x.A.ar,.int .i64 x.B.Op,.int .i64 x.B.N,.str x.B.S,ah 4 b2 x.B.ar,ah 13 bT x.Body,ah 13 bT x.bx]):=by
 have h:=ahv x;cases x;exact WW h
structure bc where
 Name:atW
 Params:List Param
 Body:List Stmt
instance:Inhabited bc:=⟨⟨([]:atW),([]:List Param),([]:List Stmt)⟩⟩
def eb(x:bc):V:=.agg [.str x.Name,ah 2 ea x.Params,ah 13 bT x.Body]
structure Outcome where
 Status:Int
 Code:Int
 Out:List bp
instance:Inhabited Outcome:=⟨⟨0,0,([]:List bp)⟩⟩
def ahw(x:Outcome):V:=.agg [.int .i64 x.Status,.int .i64 x.Code,ah 3 dY x.Out]
structure eS where
 Client:Int
 Seq:Int
 Outcome:Outcome
instance:Inhabited eS:=⟨⟨0,0,(⟨0,0,([]:List bp)⟩:Outcome)⟩⟩
def ik(x:eS):V:=.agg [.int .i64 x.Client,.int .i64 x.Seq,.int .i64 x.Outcome.Status,.int .i64 x.Outcome.Code,ah 3 dY x.Outcome.Out]
structure bM where
 Client:Int
 Next:Int
 bK:List eS
instance:Inhabited bM:=⟨⟨0,0,([]:List eS)⟩⟩
def dq(x:bM):V:=.agg [.int .i64 x.Client,.int .i64 x.Next,ah 5 ik x.bK]
structure Part where
 Id:Int
 ec:atW
 Node:Int
 fC:Int
 gQ:atW
instance:Inhabited Part:=⟨⟨0,([]:atW),0,0,([]:atW)⟩⟩
def cV(x:Part):V:=.agg [.int .i64 x.Id,.str x.ec,.int .i64 x.Node,.int .i64 x.fC,.str x.gQ]
structure cb where
 Version:Int
 aE:List Part
instance:Inhabited cb:=⟨⟨0,([]:List Part)⟩⟩
def ahx(x:cb):V:=.agg [.int .i64 x.Version,ah 5 cV x.aE]
structure bi where
 Key:atW
 Count:Int
instance:Inhabited bi:=⟨⟨([]:atW),0⟩⟩
def dP(x:bi):V:=.agg [.str x.Key,.int .i64 x.Count]
structure fg where
 ee:Bool
 Reads:List atW
 cA:List atW
instance:Inhabited fg:=⟨⟨false,([]:List atW),([]:List atW)⟩⟩
def ahy(x:fg):V:=.agg [.bool x.ee,ah 1 bE x.Reads,ah 1 bE x.cA]
structure Request where
 Client:Int
 Seq:Int
 bc:atW
 ar:List bp
 eN:Bool
 br:fg
instance:Inhabited Request:=⟨⟨0,0,([]:atW),([]:List bp),false,(⟨false,([]:List atW),([]:List atW)⟩:fg)⟩⟩
def ep(x:Request):V:=.agg [.int .i64 x.Client,.int .i64 x.Seq,.str x.bc,ah 3 dY x.ar,.bool x.eN,.bool x.br.ee,ah 1 bE x.br.Reads,ah 1 bE x.br.cA]
structure b7 where
 Pos:Int
 aB:aB
 cq:List bc
 c6:List bM
 Place:cb
 bi:List bi
 Queue:List Request
 dA:Int
instance:Inhabited b7:=⟨⟨0,(⟨0,0,([]:List Row)⟩:aB),([]:List bc),([]:List bM),(⟨0,([]:List Part)⟩:cb),([]:List bi),([]:List Request),0⟩⟩
def XW(x:b7):V:=.agg [.int .i64 x.Pos,.int .i64 x.aB.cl,.int .i64 x.aB.b9,ah 2 cH x.aB.Rows,ah 3 eb x.cq,ah 3 dq x.c6,.int .i64 x.Place.Version,ah 5 cV x.Place.aE,ah 2 dP x.bi,ah 8 ep x.Queue,.int .u64 x.dA]
structure bn where
 Key:atW
 bA:bp
instance:Inhabited bn:=⟨⟨([]:atW),(⟨0,0,([]:atW)⟩:bp)⟩⟩
def er(x:bn):V:=.agg [.str x.Key,.int .i64 x.bA.Kind,.int .i64 x.bA.N,.str x.bA.S]
structure fm where
 s:atW
 at_:Int
 e:Int
instance:Inhabited fm:=⟨⟨([]:atW),0,0⟩⟩
def asH(x:fm):V:=.agg [.str x.s,.int .i64 x.at_,.int .i64 x.e]
structure o4 where
 gh:b7
 OM:List bn
 sources:List atW
instance:Inhabited o4:=⟨⟨(⟨0,(⟨0,0,([]:List Row)⟩:aB),([]:List bc),([]:List bM),(⟨0,([]:List Part)⟩:cb),([]:List bi),([]:List Request),0⟩:b7),([]:List bn),([]:List atW)⟩⟩
def asI(x:o4):V:=.agg [.int .i64 x.gh.Pos,.int .i64 x.gh.aB.cl,.int .i64 x.gh.aB.b9,ah 2 cH x.gh.aB.Rows,ah 3 eb x.gh.cq,ah 3 dq x.gh.c6,.int .i64 x.gh.Place.Version,ah 5 cV x.gh.Place.aE,ah 2 dP x.gh.bi,ah 8 ep x.gh.Queue,.int .u64 x.gh.dA,ah 4 er x.OM,ah 1 bE x.sources]
structure Token where
 Kind:Int
 Text:atW
 N:Int
 lC:Int
instance:Inhabited Token:=⟨⟨0,([]:atW),0,0⟩⟩
def cR(x:Token):V:=.agg [.int .i64 x.Kind,.str x.Text,.int .i64 x.N,.int .i64 x.lC]
structure XX where
 ahz:Int
 seq:Int
instance:Inhabited XX:=⟨⟨0,0⟩⟩
def asJ(x:XX):V:=.agg [.int .i64 x.ahz,.int .i64 x.seq]
structure cr where
 p2:Bool
 Stmt:Stmt
 CC:Int
 Expr:Expr
 ahA:Bool
instance:Inhabited cr:=⟨⟨false,(⟨0,([]:atW),0,(⟨0,0,([]:atW),([]:List Expr)⟩:Expr),(⟨0,0,([]:atW),([]:List Expr)⟩:Expr),([]:List Stmt),([]:List Stmt)⟩:Stmt),0,(⟨0,0,([]:atW),([]:List Expr)⟩:Expr),false⟩⟩
def jn(x:cr):V:=.agg [.bool x.p2,.int .i64 x.Stmt.Op,.str x.Stmt.Name,.int .i64 x.Stmt.Max,.int .i64 x.Stmt.A.Op,.int .i64 x.Stmt.A.N,.str x.Stmt.A.S,ah 4 b2 x.Stmt.A.ar,.int .i64 x.Stmt.B.Op,.int .i64 x.Stmt.B.N,.str x.Stmt.B.S,ah 4 b2 x.Stmt.B.ar,ah 13 bT x.Stmt.Body,ah 13 bT x.Stmt.bx,.int .i64 x.CC,.int .i64 x.Expr.Op,.int .i64 x.Expr.N,.str x.Expr.S,ah 4 b2 x.Expr.ar,.bool x.ahA]
structure aY where
 tokens:List Token
 at_:Int
instance:Inhabited aY:=⟨⟨([]:List Token),0⟩⟩
def asK(x:aY):V:=.agg [ah 4 cR x.tokens,.int .i64 x.at_]
structure XY where
 line:Int
 code:Int
instance:Inhabited XY:=⟨⟨0,0⟩⟩
def asL(x:XY):V:=.agg [.int .i64 x.line,.int .i64 x.code]
structure k1 where
 s:atW
 at_:Int
 e:Int
instance:Inhabited k1:=⟨⟨([]:atW),0,0⟩⟩
def asM(x:k1):V:=.agg [.str x.s,.int .i64 x.at_,.int .i64 x.e]
structure o5 where
 s:atW
 at_:Int
 e:Int
instance:Inhabited o5:=⟨⟨([]:atW),0,0⟩⟩
def asN(x:o5):V:=.agg [.str x.s,.int .i64 x.at_,.int .i64 x.e]
structure k2 where
 name:Bool
 a:Bool
 b:Bool
 max:Bool
 body:Bool
 other:Bool
instance:Inhabited k2:=⟨⟨false,false,false,false,false,false⟩⟩
def asO(x:k2):V:=.agg [.bool x.name,.bool x.a,.bool x.b,.bool x.max,.bool x.body,.bool x.other]
structure hX where
 s:atW
 at_:Int
 e:Int
instance:Inhabited hX:=⟨⟨([]:atW),0,0⟩⟩
def asP(x:hX):V:=.agg [.str x.s,.int .i64 x.at_,.int .i64 x.e]
def tt:dI:=[
 (1,⟨.a',1,8,[.aV],[]⟩),
 (2,⟨.int .i64,1,8,[.int .i64 0],[]⟩),
 (3,⟨.int .i64,1,8,[.int .i64 0],[]⟩),
 (4,⟨.bool,1,1,[.bool false],[]⟩),
 (5,⟨.int .u8,1,1,[.int .u8 0],[]⟩),
 (6,⟨.int .u8,1,1,[.int .u8 0],[]⟩),
 (7,⟨.ca [(0,2,1),(1,3,1),(2,4,1),(3,6,1)],4,24,[.int .i64 0,.int .i64 0,.bool false,.int .u8 0],[]⟩),
 (8,⟨.ca [(0,2,1),(1,3,1),(2,4,1),(3,6,1)],4,24,[.int .i64 0,.int .i64 0,.bool false,.int .u8 0],[]⟩),
 (9,⟨.str,1,16,[.str ([]:atW)],[]⟩),
 (10,⟨.str,1,16,[.str ([]:atW)],[]⟩),
 (11,⟨.str,1,16,[.str ([]:atW)],[]⟩),
 (12,⟨.int .u64,1,8,[.int .u64 0],[]⟩),
 (13,⟨.ca [(0,9,1),(1,12,1)],2,24,[.str ([]:atW),.int .u64 0],[]⟩),
 (14,⟨.ca [(0,9,1),(1,12,1)],2,24,[.str ([]:atW),.int .u64 0],[]⟩),
 (15,⟨.ptr,1,8,[.eA],[]⟩),
 (16,⟨.ptr,1,8,[.eA],[]⟩),
 (17,⟨.ptr,1,8,[.eA],[]⟩),
 (18,⟨.ca [(0,17,1)],1,8,[.eA],[]⟩),
 (19,⟨.ca [(0,17,1)],1,8,[.eA],[]⟩),
 (20,⟨.oO,1,16,[.ir],[]⟩),
 (21,⟨.int .i32,1,4,[.int .i32 0],[]⟩),
 (22,⟨.bH 68,1,24,[ah 2 cH ([]:List Row)],[]⟩),
 (23,⟨.ca [(0,2,1),(1,2,1),(2,22,1)],3,40,[.int .i64 0,.int .i64 0,ah 2 cH ([]:List Row)],[]⟩),
 (24,⟨.ca [(0,2,1),(1,2,1),(2,22,1)],3,40,[.int .i64 0,.int .i64 0,ah 2 cH ([]:List Row)],[]⟩),
 (25,⟨.bH 52,1,24,[ah 3 eb ([]:List bc)],[]⟩),
 (26,⟨.bH 101,1,24,[ah 3 dq ([]:List bM)],[]⟩),
 (27,⟨.bH 61,1,24,[ah 5 cV ([]:List Part)],[]⟩),
 (28,⟨.ca [(0,2,1),(1,27,1)],2,32,[.int .i64 0,ah 5 cV ([]:List Part)],[]⟩),
 (29,⟨.ca [(0,2,1),(1,27,1)],2,32,[.int .i64 0,ah 5 cV ([]:List Part)],[]⟩),
 (30,⟨.bH 107,1,24,[ah 2 dP ([]:List bi)],[]⟩),
 (31,⟨.bH 59,1,24,[ah 8 ep ([]:List Request)],[]⟩),
 (32,⟨.int .u64,1,8,[.int .u64 0],[]⟩),
 (33,⟨.ca [(0,2,1),(1,24,3),(4,25,1),(5,26,1),(6,29,2),(8,30,1),(9,31,1),(10,32,1)],11,184,[.int .i64 0,.int .i64 0,.int .i64 0,ah 2 cH ([]:List Row),ah 3 eb ([]:List bc),ah 3 dq ([]:List bM),.int .i64 0,ah 5 cV ([]:List Part),ah 2 dP ([]:List bi),ah 8 ep ([]:List Request),.int .u64 0],[]⟩),
 (34,⟨.ca [(0,2,1),(1,24,3),(4,25,1),(5,26,1),(6,29,2),(8,30,1),(9,31,1),(10,32,1)],11,184,[.int .i64 0,.int .i64 0,.int .i64 0,ah 2 cH ([]:List Row),ah 3 eb ([]:List bc),ah 3 dq ([]:List bM),.int .i64 0,ah 5 cV ([]:List Part),ah 2 dP ([]:List bi),ah 8 ep ([]:List Request),.int .u64 0],[]⟩),
 (35,⟨.a',1,8,[.aV],[]⟩),
 (36,⟨.a',1,8,[.aV],[]⟩),
 (37,⟨.int .i64,1,8,[.int .i64 0],[]⟩),
 (39,⟨.a',1,8,[.aV],[]⟩),
 (41,⟨.a',1,8,[.aV],[]⟩),
 (42,⟨.a',1,8,[.aV],[]⟩),
 (43,⟨.a',1,8,[.aV],[]⟩),
 (44,⟨.a',1,8,[.aV],[]⟩),
 (45,⟨.a',1,8,[.aV],[]⟩),
 (46,⟨.a',1,8,[.aV],[]⟩),
 (47,⟨.a',1,8,[.aV],[]⟩),
 (48,⟨.a',1,8,[.aV],[]⟩),
 (49,⟨.bH 109,1,24,[ah 2 ea ([]:List Param)],[]⟩),
 (50,⟨.bH 167,1,24,[ah 13 bT ([]:List Stmt)],[]⟩),
 (51,⟨.ca [(0,9,1),(1,49,1),(2,50,1)],3,64,[.str ([]:atW),ah 2 ea ([]:List Param),ah 13 bT ([]:List Stmt)],[]⟩),
 (52,⟨.ca [(0,9,1),(1,49,1),(2,50,1)],3,64,[.str ([]:atW),ah 2 ea ([]:List Param),ah 13 bT ([]:List Stmt)],[]⟩),
 (53,⟨.a',1,8,[.aV],[]⟩),
 (54,⟨.bH 63,1,24,[ah 3 dY ([]:List bp)],[]⟩),
 (55,⟨.bH 9,1,24,[ah 1 bE ([]:List atW)],[]⟩),
 (56,⟨.ca [(0,4,1),(1,55,1),(2,55,1)],3,56,[.bool false,ah 1 bE ([]:List atW),ah 1 bE ([]:List atW)],[]⟩),
 (57,⟨.ca [(0,4,1),(1,55,1),(2,55,1)],3,56,[.bool false,ah 1 bE ([]:List atW),ah 1 bE ([]:List atW)],[]⟩),
 (58,⟨.ca [(0,3,1),(1,2,1),(2,9,1),(3,54,1),(4,4,1),(5,57,3)],8,120,[.int .i64 0,.int .i64 0,.str ([]:atW),ah 3 dY ([]:List bp),.bool false,.bool false,ah 1 bE ([]:List atW),ah 1 bE ([]:List atW)],[]⟩),
 (59,⟨.ca [(0,3,1),(1,2,1),(2,9,1),(3,54,1),(4,4,1),(5,57,3)],8,120,[.int .i64 0,.int .i64 0,.str ([]:atW),ah 3 dY ([]:List bp),.bool false,.bool false,ah 1 bE ([]:List atW),ah 1 bE ([]:List atW)],[]⟩),
 (60,⟨.ca [(0,3,1),(1,9,1),(2,3,1),(3,3,1),(4,9,1)],5,56,[.int .i64 0,.str ([]:atW),.int .i64 0,.int .i64 0,.str ([]:atW)],[]⟩),
 (61,⟨.ca [(0,3,1),(1,9,1),(2,3,1),(3,3,1),(4,9,1)],5,56,[.int .i64 0,.str ([]:atW),.int .i64 0,.int .i64 0,.str ([]:atW)],[]⟩),
 (62,⟨.ca [(0,3,1),(1,2,1),(2,9,1)],3,32,[.int .i64 0,.int .i64 0,.str ([]:atW)],[]⟩),
 (63,⟨.ca [(0,3,1),(1,2,1),(2,9,1)],3,32,[.int .i64 0,.int .i64 0,.str ([]:atW)],[]⟩),
 (64,⟨.ca [(0,2,1),(1,63,3)],4,40,[.int .i64 0,.int .i64 0,.int .i64 0,.str ([]:atW)],[]⟩),
 (65,⟨.ca [(0,2,1),(1,63,3)],4,40,[.int .i64 0,.int .i64 0,.int .i64 0,.str ([]:atW)],[]⟩),
 (66,⟨.bH 65,1,24,[ah 4 hW ([]:List Version)],[]⟩),
 (67,⟨.ca [(0,9,1),(1,66,1)],2,40,[.str ([]:atW),ah 4 hW ([]:List Version)],[]⟩),
 (68,⟨.ca [(0,9,1),(1,66,1)],2,40,[.str ([]:atW),ah 4 hW ([]:List Version)],[]⟩),
 (69,⟨.a',1,8,[.aV],[]⟩),
 (71,⟨.a',1,8,[.aV],[]⟩),
 (72,⟨.bH 149,1,24,[ah 4 er ([]:List bn)],[]⟩),
 (74,⟨.a',1,8,[.aV],[]⟩),
 (76,⟨.a',1,8,[.aV],[]⟩),
 (78,⟨.a',1,8,[.aV],[]⟩),
 (80,⟨.a',1,8,[.aV],[]⟩),
 (82,⟨.a',1,8,[.aV],[]⟩),
 (84,⟨.a',1,8,[.aV],[]⟩),
 (86,⟨.a',1,8,[.aV],[]⟩),
 (88,⟨.a',1,8,[.aV],[]⟩),
 (90,⟨.a',1,8,[.aV],[]⟩),
 (91,⟨.a',1,8,[.aV],[]⟩),
 (92,⟨.a',1,8,[.aV],[]⟩),
 (93,⟨.a',1,8,[.aV],[]⟩),
 (94,⟨.a',1,8,[.aV],[]⟩),
 (95,⟨.a',1,8,[.aV],[]⟩),
 (96,⟨.a',1,8,[.aV],[]⟩),
 (98,⟨.a',1,8,[.aV],[]⟩),
 (99,⟨.bH 105,1,24,[ah 5 ik ([]:List eS)],[]⟩),
 (100,⟨.ca [(0,3,1),(1,2,1),(2,99,1)],3,40,[.int .i64 0,.int .i64 0,ah 5 ik ([]:List eS)],[]⟩),
 (101,⟨.ca [(0,3,1),(1,2,1),(2,99,1)],3,40,[.int .i64 0,.int .i64 0,ah 5 ik ([]:List eS)],[]⟩),
 (102,⟨.ca [(0,3,1),(1,3,1),(2,54,1)],3,40,[.int .i64 0,.int .i64 0,ah 3 dY ([]:List bp)],[]⟩),
 (103,⟨.ca [(0,3,1),(1,3,1),(2,54,1)],3,40,[.int .i64 0,.int .i64 0,ah 3 dY ([]:List bp)],[]⟩),
 (104,⟨.ca [(0,3,1),(1,2,1),(2,103,3)],5,56,[.int .i64 0,.int .i64 0,.int .i64 0,.int .i64 0,ah 3 dY ([]:List bp)],[]⟩),
 (105,⟨.ca [(0,3,1),(1,2,1),(2,103,3)],5,56,[.int .i64 0,.int .i64 0,.int .i64 0,.int .i64 0,ah 3 dY ([]:List bp)],[]⟩),
 (106,⟨.ca [(0,9,1),(1,2,1)],2,24,[.str ([]:atW),.int .i64 0],[]⟩),
 (107,⟨.ca [(0,9,1),(1,2,1)],2,24,[.str ([]:atW),.int .i64 0],[]⟩),
 (108,⟨.ca [(0,9,1),(1,3,1)],2,24,[.str ([]:atW),.int .i64 0],[]⟩),
 (109,⟨.ca [(0,9,1),(1,3,1)],2,24,[.str ([]:atW),.int .i64 0],[]⟩),
 (110,⟨.a',1,8,[.aV],[]⟩),
 (111,⟨.a',1,8,[.aV],[]⟩),
 (112,⟨.a',1,8,[.aV],[]⟩),
 (113,⟨.a',1,8,[.aV],[]⟩),
 (114,⟨.a',1,8,[.aV],[]⟩),
 (115,⟨.a',1,8,[.aV],[]⟩),
 (116,⟨.a',1,8,[.aV],[]⟩),
 (117,⟨.ptr,1,8,[.eA],[]⟩),
 (118,⟨.bH 5,1,24,[ah 1 cO ([]:List Int)],[]⟩),
 (119,⟨.ca [(0,117,1),(1,118,1)],2,32,[.eA,ah 1 cO ([]:List Int)],[]⟩),
 (120,⟨.ca [(0,117,1),(1,118,1)],2,32,[.eA,ah 1 cO ([]:List Int)],[(0,120)]⟩),
 (121,⟨.oO,1,16,[.ir],[]⟩),
 (122,⟨.oO,1,16,[.ir],[]⟩),
 (124,⟨.a',1,8,[.aV],[]⟩),
 (125,⟨.a',1,8,[.aV],[]⟩),
 (126,⟨.a',1,8,[.aV],[]⟩),
 (127,⟨.a',1,8,[.aV],[]⟩),
 (128,⟨.a',1,8,[.aV],[]⟩),
 (129,⟨.a',1,8,[.aV],[]⟩),
 (130,⟨.a',1,8,[.aV],[]⟩),
 (131,⟨.a',1,8,[.aV],[]⟩),
 (132,⟨.a',1,8,[.aV],[]⟩),
 (133,⟨.a',1,8,[.aV],[]⟩),
 (134,⟨.a',1,8,[.aV],[]⟩),
 (135,⟨.ptr,1,8,[.eA],[]⟩),
 (136,⟨.ca [(0,9,1),(1,3,1),(2,37,1)],3,32,[.str ([]:atW),.int .i64 0,.int .i64 0],[]⟩),
 (137,⟨.ca [(0,9,1),(1,3,1),(2,37,1)],3,32,[.str ([]:atW),.int .i64 0,.int .i64 0],[]⟩),
 (138,⟨.ca [(0,34,11),(11,72,1),(12,55,1)],13,232,[.int .i64 0,.int .i64 0,.int .i64 0,ah 2 cH ([]:List Row),ah 3 eb ([]:List bc),ah 3 dq ([]:List bM),.int .i64 0,ah 5 cV ([]:List Part),ah 2 dP ([]:List bi),ah 8 ep ([]:List Request),.int .u64 0,ah 4 er ([]:List bn),ah 1 bE ([]:List atW)],[]⟩),
 (139,⟨.ca [(0,34,11),(11,72,1),(12,55,1)],13,232,[.int .i64 0,.int .i64 0,.int .i64 0,ah 2 cH ([]:List Row),ah 3 eb ([]:List bc),ah 3 dq ([]:List bM),.int .i64 0,ah 5 cV ([]:List Part),ah 2 dP ([]:List bi),ah 8 ep ([]:List Request),.int .u64 0,ah 4 er ([]:List bn),ah 1 bE ([]:List atW)],[]⟩),
 (140,⟨.a',1,8,[.aV],[]⟩),
 (141,⟨.a',1,8,[.aV],[]⟩),
 (143,⟨.a',1,8,[.aV],[]⟩),
 (145,⟨.a',1,8,[.aV],[]⟩),
 (147,⟨.a',1,8,[.aV],[]⟩),
 (148,⟨.ca [(0,9,1),(1,63,3)],4,48,[.str ([]:atW),.int .i64 0,.int .i64 0,.str ([]:atW)],[]⟩),
 (149,⟨.ca [(0,9,1),(1,63,3)],4,48,[.str ([]:atW),.int .i64 0,.int .i64 0,.str ([]:atW)],[]⟩),
 (150,⟨.a',1,8,[.aV],[]⟩),
 (152,⟨.a',1,8,[.aV],[]⟩),
 (154,⟨.a',1,8,[.aV],[]⟩),
 (156,⟨.a',1,8,[.aV],[]⟩),
 (158,⟨.a',1,8,[.aV],[]⟩),
 (159,⟨.a',1,8,[.aV],[]⟩),
 (160,⟨.a',1,8,[.aV],[]⟩),
 (161,⟨.a',1,8,[.aV],[]⟩),
 (162,⟨.a',1,8,[.aV],[]⟩),
 (163,⟨.bH 165,1,24,[ah 4 b2 ([]:List Expr)],[]⟩),
 (164,⟨.ca [(0,3,1),(1,2,1),(2,9,1),(3,163,1)],4,56,[.int .i64 0,.int .i64 0,.str ([]:atW),ah 4 b2 ([]:List Expr)],[]⟩),
 (165,⟨.ca [(0,3,1),(1,2,1),(2,9,1),(3,163,1)],4,56,[.int .i64 0,.int .i64 0,.str ([]:atW),ah 4 b2 ([]:List Expr)],[]⟩),
 (166,⟨.ca [(0,3,1),(1,9,1),(2,3,1),(3,165,4),(7,165,4),(11,50,1),(12,50,1)],13,192,[.int .i64 0,.str ([]:atW),.int .i64 0,.int .i64 0,.int .i64 0,.str ([]:atW),ah 4 b2 ([]:List Expr),.int .i64 0,.int .i64 0,.str ([]:atW),ah 4 b2 ([]:List Expr),ah 13 bT ([]:List Stmt),ah 13 bT ([]:List Stmt)],[]⟩),
 (167,⟨.ca [(0,3,1),(1,9,1),(2,3,1),(3,165,4),(7,165,4),(11,50,1),(12,50,1)],13,192,[.int .i64 0,.str ([]:atW),.int .i64 0,.int .i64 0,.int .i64 0,.str ([]:atW),ah 4 b2 ([]:List Expr),.int .i64 0,.int .i64 0,.str ([]:atW),ah 4 b2 ([]:List Expr),ah 13 bT ([]:List Stmt),ah 13 bT ([]:List Stmt)],[]⟩),
 (168,⟨.a',1,8,[.aV],[]⟩),
 (169,⟨.a',1,8,[.aV],[]⟩),
 (170,⟨.a',1,8,[.aV],[]⟩),
 (171,⟨.a',1,8,[.aV],[]⟩),
 (172,⟨.a',1,8,[.aV],[]⟩),
 (173,⟨.a',1,8,[.aV],[]⟩),
 (174,⟨.a',1,8,[.aV],[]⟩),
 (175,⟨.a',1,8,[.aV],[]⟩),
 (176,⟨.a',1,8,[.aV],[]⟩),
 (177,⟨.a',1,8,[.aV],[]⟩),
 (178,⟨.a',1,8,[.aV],[]⟩),
 (179,⟨.int .u64,1,8,[.int .u64 0],[]⟩),
 (180,⟨.a',1,8,[.aV],[]⟩),
 (181,⟨.a',1,8,[.aV],[]⟩),
 (182,⟨.a',1,8,[.aV],[]⟩),
 (183,⟨.a',1,8,[.aV],[]⟩),
 (184,⟨.ptr,1,8,[.eA],[]⟩),
 (185,⟨.ca [(0,120,2),(2,3,1)],3,40,[.eA,ah 1 cO ([]:List Int),.int .i64 0],[(0,120)]⟩),
 (186,⟨.ca [(0,120,2),(2,3,1)],3,40,[.eA,ah 1 cO ([]:List Int),.int .i64 0],[(0,120)]⟩),
 (187,⟨.a',1,8,[.aV],[]⟩),
 (188,⟨.a',1,8,[.aV],[]⟩),
 (189,⟨.a',1,8,[.aV],[]⟩),
 (190,⟨.a',1,8,[.aV],[]⟩),
 (191,⟨.ptr,1,8,[.eA],[]⟩),
 (192,⟨.a',1,8,[.aV],[]⟩),
 (193,⟨.a',1,8,[.aV],[]⟩),
 (194,⟨.a',1,8,[.aV],[]⟩),
 (195,⟨.a',1,8,[.aV],[]⟩),
 (196,⟨.ca [(0,71,1)],1,8,[.aV],[]⟩),
 (197,⟨.ca [(0,71,1)],1,8,[.aV],[]⟩),
 (198,⟨.a',1,8,[.aV],[]⟩),
 (199,⟨.ca [(0,74,1)],1,8,[.aV],[]⟩),
 (200,⟨.ca [(0,74,1)],1,8,[.aV],[]⟩),
 (201,⟨.a',1,8,[.aV],[]⟩),
 (202,⟨.a',1,8,[.aV],[]⟩),
 (203,⟨.ca [(0,202,1)],1,8,[.aV],[]⟩),
 (204,⟨.ca [(0,202,1)],1,8,[.aV],[]⟩),
 (205,⟨.a',1,8,[.aV],[]⟩),
 (206,⟨.a',1,8,[.aV],[]⟩),
 (207,⟨.a',1,8,[.aV],[]⟩),
 (208,⟨.ca [(0,207,1)],1,8,[.aV],[]⟩),
 (209,⟨.ca [(0,207,1)],1,8,[.aV],[]⟩),
 (210,⟨.a',1,8,[.aV],[]⟩),
 (211,⟨.a',1,8,[.aV],[]⟩),
 (212,⟨.ca [(0,78,1)],1,8,[.aV],[]⟩),
 (213,⟨.ca [(0,78,1)],1,8,[.aV],[]⟩),
 (214,⟨.a',1,8,[.aV],[]⟩),
 (215,⟨.ca [(0,80,1)],1,8,[.aV],[]⟩),
 (216,⟨.ca [(0,80,1)],1,8,[.aV],[]⟩),
 (217,⟨.a',1,8,[.aV],[]⟩),
 (218,⟨.ca [(0,84,1)],1,8,[.aV],[]⟩),
 (219,⟨.ca [(0,84,1)],1,8,[.aV],[]⟩),
 (220,⟨.a',1,8,[.aV],[]⟩),
 (221,⟨.ca [(0,86,1)],1,8,[.aV],[]⟩),
 (222,⟨.ca [(0,86,1)],1,8,[.aV],[]⟩),
 (223,⟨.a',1,8,[.aV],[]⟩),
 (224,⟨.a',1,8,[.aV],[]⟩),
 (225,⟨.a',1,8,[.aV],[]⟩),
 (226,⟨.a',1,8,[.aV],[]⟩),
 (228,⟨.a',1,8,[.aV],[]⟩),
 (230,⟨.a',1,8,[.aV],[]⟩),
 (232,⟨.a',1,8,[.aV],[]⟩),
 (234,⟨.a',1,8,[.aV],[]⟩),
 (235,⟨.bH 292,1,24,[ah 4 cR ([]:List Token)],[]⟩),
 (237,⟨.a',1,8,[.aV],[]⟩),
 (238,⟨.a',1,8,[.aV],[]⟩),
 (239,⟨.a',1,8,[.aV],[]⟩),
 (240,⟨.a',1,8,[.aV],[]⟩),
 (241,⟨.a',1,8,[.aV],[]⟩),
 (242,⟨.a',1,8,[.aV],[]⟩),
 (243,⟨.a',1,8,[.aV],[]⟩),
 (244,⟨.a',1,8,[.aV],[]⟩),
 (245,⟨.a',1,8,[.aV],[]⟩),
 (246,⟨.a',1,8,[.aV],[]⟩),
 (247,⟨.a',1,8,[.aV],[]⟩),
 (248,⟨.a',1,8,[.aV],[]⟩),
 (249,⟨.a',1,8,[.aV],[]⟩),
 (250,⟨.ca [(0,3,1),(1,2,1)],2,16,[.int .i64 0,.int .i64 0],[]⟩),
 (251,⟨.ca [(0,3,1),(1,2,1)],2,16,[.int .i64 0,.int .i64 0],[]⟩),
 (252,⟨.a',1,8,[.aV],[]⟩),
 (253,⟨.a',1,8,[.aV],[]⟩),
 (254,⟨.a',1,8,[.aV],[]⟩),
 (255,⟨.a',1,8,[.aV],[]⟩),
 (257,⟨.a',1,8,[.aV],[]⟩),
 (258,⟨.a',1,8,[.aV],[]⟩),
 (259,⟨.a',1,8,[.aV],[]⟩),
 (260,⟨.a',1,8,[.aV],[]⟩),
 (261,⟨.a',1,8,[.aV],[]⟩),
 (262,⟨.a',1,8,[.aV],[]⟩),
 (263,⟨.a',1,8,[.aV],[]⟩),
 (264,⟨.a',1,8,[.aV],[]⟩),
 (265,⟨.a',1,8,[.aV],[]⟩),
 (266,⟨.a',1,8,[.aV],[]⟩),
 (267,⟨.a',1,8,[.aV],[]⟩),
 (268,⟨.a',1,8,[.aV],[]⟩),
 (269,⟨.bH 272,1,24,[ah 20 jn ([]:List cr)],[]⟩),
 (270,⟨.a',1,8,[.aV],[]⟩),
 (271,⟨.ca [(0,4,1),(1,167,13),(14,3,1),(15,165,4),(19,4,1)],20,272,[.bool false,.int .i64 0,.str ([]:atW),.int .i64 0,.int .i64 0,.int .i64 0,.str ([]:atW),ah 4 b2 ([]:List Expr),.int .i64 0,.int .i64 0,.str ([]:atW),ah 4 b2 ([]:List Expr),ah 13 bT ([]:List Stmt),ah 13 bT ([]:List Stmt),.int .i64 0,.int .i64 0,.int .i64 0,.str ([]:atW),ah 4 b2 ([]:List Expr),.bool false],[]⟩),
 (272,⟨.ca [(0,4,1),(1,167,13),(14,3,1),(15,165,4),(19,4,1)],20,272,[.bool false,.int .i64 0,.str ([]:atW),.int .i64 0,.int .i64 0,.int .i64 0,.str ([]:atW),ah 4 b2 ([]:List Expr),.int .i64 0,.int .i64 0,.str ([]:atW),ah 4 b2 ([]:List Expr),ah 13 bT ([]:List Stmt),ah 13 bT ([]:List Stmt),.int .i64 0,.int .i64 0,.int .i64 0,.str ([]:atW),ah 4 b2 ([]:List Expr),.bool false],[]⟩),
 (273,⟨.a',1,8,[.aV],[]⟩),
 (274,⟨.ptr,1,8,[.eA],[]⟩),
 (275,⟨.ca [(0,9,1),(1,3,1),(2,37,1)],3,32,[.str ([]:atW),.int .i64 0,.int .i64 0],[]⟩),
 (276,⟨.ca [(0,9,1),(1,3,1),(2,37,1)],3,32,[.str ([]:atW),.int .i64 0,.int .i64 0],[]⟩),
 (277,⟨.a',1,8,[.aV],[]⟩),
 (278,⟨.ptr,1,8,[.eA],[]⟩),
 (279,⟨.ca [(0,9,1),(1,3,1),(2,37,1)],3,32,[.str ([]:atW),.int .i64 0,.int .i64 0],[]⟩),
 (280,⟨.ca [(0,9,1),(1,3,1),(2,37,1)],3,32,[.str ([]:atW),.int .i64 0,.int .i64 0],[]⟩),
 (281,⟨.a',1,8,[.aV],[]⟩),
 (282,⟨.a',1,8,[.aV],[]⟩),
 (284,⟨.a',1,8,[.aV],[]⟩),
 (285,⟨.ptr,1,8,[.eA],[]⟩),
 (286,⟨.a',1,8,[.aV],[]⟩),
 (287,⟨.a',1,8,[.aV],[]⟩),
 (288,⟨.a',1,8,[.aV],[]⟩),
 (289,⟨.a',1,8,[.aV],[]⟩),
 (290,⟨.a',1,8,[.aV],[]⟩),
 (291,⟨.ca [(0,3,1),(1,9,1),(2,2,1),(3,3,1)],4,40,[.int .i64 0,.str ([]:atW),.int .i64 0,.int .i64 0],[]⟩),
 (292,⟨.ca [(0,3,1),(1,9,1),(2,2,1),(3,3,1)],4,40,[.int .i64 0,.str ([]:atW),.int .i64 0,.int .i64 0],[]⟩),
 (294,⟨.a',1,8,[.aV],[]⟩),
 (295,⟨.a',1,8,[.aV],[]⟩),
 (296,⟨.a',1,8,[.aV],[]⟩),
 (298,⟨.a',1,8,[.aV],[]⟩),
 (300,⟨.a',1,8,[.aV],[]⟩),
 (301,⟨.a',1,8,[.aV],[]⟩),
 (302,⟨.a',1,8,[.aV],[]⟩),
 (303,⟨.a',1,8,[.aV],[]⟩),
 (304,⟨.a',1,8,[.aV],[]⟩),
 (305,⟨.ptr,1,8,[.eA],[]⟩),
 (306,⟨.ca [(0,3,1),(1,261,1),(2,262,1)],3,24,[.int .i64 0,.aV,.aV],[]⟩),
 (307,⟨.ca [(0,3,1),(1,261,1),(2,262,1)],3,24,[.int .i64 0,.aV,.aV],[]⟩),
 (308,⟨.a',1,8,[.aV],[]⟩),
 (309,⟨.ca [(0,4,1),(1,4,1),(2,4,1),(3,4,1),(4,4,1),(5,4,1)],6,6,[.bool false,.bool false,.bool false,.bool false,.bool false,.bool false],[]⟩),
 (310,⟨.ca [(0,4,1),(1,4,1),(2,4,1),(3,4,1),(4,4,1),(5,4,1)],6,6,[.bool false,.bool false,.bool false,.bool false,.bool false,.bool false],[]⟩),
 (312,⟨.a',1,8,[.aV],[]⟩),
 (313,⟨.a',1,8,[.aV],[]⟩),
 (314,⟨.a',1,8,[.aV],[]⟩),
 (315,⟨.a',1,8,[.aV],[]⟩),
 (316,⟨.a',1,8,[.aV],[]⟩),
 (317,⟨.a',1,8,[.aV],[]⟩),
 (319,⟨.a',1,8,[.aV],[]⟩),
 (320,⟨.a',1,8,[.aV],[]⟩),
 (321,⟨.a',1,8,[.aV],[]⟩),
 (322,⟨.a',1,8,[.aV],[]⟩),
 (323,⟨.a',1,8,[.aV],[]⟩),
 (324,⟨.ptr,1,8,[.eA],[]⟩),
 (325,⟨.ca [(0,9,1),(1,3,1),(2,37,1)],3,32,[.str ([]:atW),.int .i64 0,.int .i64 0],[]⟩),
 (326,⟨.ca [(0,9,1),(1,3,1),(2,37,1)],3,32,[.str ([]:atW),.int .i64 0,.int .i64 0],[]⟩),
 (327,⟨.a',1,8,[.aV],[]⟩),
 (328,⟨.a',1,8,[.aV],[]⟩),
 (329,⟨.a',1,8,[.aV],[]⟩),
 (330,⟨.a',1,8,[.aV],[]⟩),
 (331,⟨.ca [(0,3,1),(1,37,1)],2,16,[.int .i64 0,.int .i64 0],[]⟩),
 (332,⟨.ca [(0,3,1),(1,37,1)],2,16,[.int .i64 0,.int .i64 0],[]⟩),
 (334,⟨.ca [(0,235,1),(1,3,1)],2,32,[ah 4 cR ([]:List Token),.int .i64 0],[]⟩),
 (335,⟨.ca [(0,235,1),(1,3,1)],2,32,[ah 4 cR ([]:List Token),.int .i64 0],[]⟩),
 (336,⟨.a',1,8,[.aV],[]⟩),
 (337,⟨.a',1,8,[.aV],[]⟩),
 (338,⟨.a',1,8,[.aV],[]⟩),
 (339,⟨.a',1,8,[.aV],[]⟩),
 (340,⟨.a',1,8,[.aV],[]⟩),
 (341,⟨.a',1,8,[.aV],[]⟩),
 (343,⟨.a',1,8,[.aV],[]⟩),
 (344,⟨.a',1,8,[.aV],[]⟩),
 (345,⟨.a',1,8,[.aV],[]⟩),
 (347,⟨.a',1,8,[.aV],[]⟩),
 (348,⟨.a',1,8,[.aV],[]⟩),
 (349,⟨.a',1,8,[.aV],[]⟩),
 (350,⟨.a',1,8,[.aV],[]⟩),
 (351,⟨.a',1,8,[.aV],[]⟩),
 (352,⟨.a',1,8,[.aV],[]⟩),
 (353,⟨.a',1,8,[.aV],[]⟩),
 (354,⟨.a',1,8,[.aV],[]⟩),
 (355,⟨.a',1,8,[.aV],[]⟩),
 (356,⟨.a',1,8,[.aV],[]⟩),
 (357,⟨.a',1,8,[.aV],[]⟩),
 (359,⟨.a',1,8,[.aV],[]⟩),
 (360,⟨.a',1,8,[.aV],[]⟩),
 (362,⟨.a',1,8,[.aV],[]⟩),
 (363,⟨.a',1,8,[.aV],[]⟩),
 (364,⟨.a',1,8,[.aV],[]⟩),
 (365,⟨.a',1,8,[.aV],[]⟩),
 (366,⟨.a',1,8,[.aV],[]⟩),
 (367,⟨.bH 3,1,24,[ah 1 aht ([]:List Int)],[]⟩),
 (368,⟨.a',1,8,[.aV],[]⟩),
 (369,⟨.a',1,8,[.aV],[]⟩),
 (370,⟨.a',1,8,[.aV],[]⟩),
 (371,⟨.a',1,8,[.aV],[]⟩),
 (372,⟨.a',1,8,[.aV],[]⟩),
 (374,⟨.a',1,8,[.aV],[]⟩),
 (376,⟨.a',1,8,[.aV],[]⟩),
 (377,⟨.a',1,8,[.aV],[]⟩),
 (379,⟨.a',1,8,[.aV],[]⟩),
 (381,⟨.a',1,8,[.aV],[]⟩),
 (382,⟨.a',1,8,[.aV],[]⟩),
 (383,⟨.a',1,8,[.aV],[]⟩),
 (385,⟨.int .u32,1,4,[.int .u32 0],[]⟩),
 (387,⟨.a',1,8,[.aV],[]⟩),
 (388,⟨.a',1,8,[.aV],[]⟩),
 (389,⟨.a',1,8,[.aV],[]⟩),
 (390,⟨.int .i64,1,8,[.int .i64 0],[]⟩),
 (392,⟨.a',1,8,[.aV],[]⟩),
 (393,⟨.ptr,1,8,[.eA],[]⟩),
 (394,⟨.a',1,8,[.aV],[]⟩),
 (395,⟨.a',1,8,[.aV],[]⟩),
 (398,⟨.a',1,8,[.aV],[]⟩),
 (399,⟨.ca [(0,9,1),(1,9,1),(2,122,1)],3,48,[.str ([]:atW),.str ([]:atW),.ir],[]⟩),
 (400,⟨.ca [(0,9,1),(1,9,1),(2,122,1)],3,48,[.str ([]:atW),.str ([]:atW),.ir],[]⟩),
 (401,⟨.a',1,8,[.aV],[]⟩),
 (402,⟨.ptr,1,8,[.eA],[]⟩),
 (403,⟨.ca [(0,9,1)],1,16,[.str ([]:atW)],[]⟩),
 (404,⟨.ca [(0,9,1)],1,16,[.str ([]:atW)],[]⟩),
 (405,⟨.ca [(0,17,1),(1,17,1),(2,17,1),(3,9,1)],4,40,[.eA,.eA,.eA,.str ([]:atW)],[]⟩),
 (406,⟨.ca [(0,17,1),(1,17,1),(2,17,1),(3,9,1)],4,40,[.eA,.eA,.eA,.str ([]:atW)],[]⟩),
 (410,⟨.int .u8,1,1,[.int .u8 0],[]⟩),
 (411,⟨.int .u8,1,1,[.int .u8 0],[]⟩),
 (412,⟨.a',1,8,[.aV],[]⟩),
 (413,⟨.int .i32,1,4,[.int .i32 0],[]⟩),
 (414,⟨.int .i32,1,4,[.int .i32 0],[]⟩),
 (415,⟨.ca [(0,12,1),(1,12,1),(2,385,1),(3,410,1),(4,5,1),(5,5,1),(6,411,1),(7,412,1),(8,191,1),(9,413,1),(10,414,1)],11,48,[.int .u64 0,.int .u64 0,.int .u32 0,.int .u8 0,.int .u8 0,.int .u8 0,.int .u8 0,.aV,.eA,.int .i32 0,.int .i32 0],[]⟩),
 (416,⟨.ca [(0,12,1),(1,12,1),(2,385,1),(3,410,1),(4,5,1),(5,5,1),(6,411,1),(7,412,1),(8,191,1),(9,413,1),(10,414,1)],11,48,[.int .u64 0,.int .u64 0,.int .u32 0,.int .u8 0,.int .u8 0,.int .u8 0,.int .u8 0,.aV,.eA,.int .i32 0,.int .i32 0],[]⟩)]
def ix:fB Tryz.prog tt=true:=by kernel_rfl
def CD:Tryz.prog.follows .mixedOrders=true:=by kernel_rfl
end Go.Ab.Y
namespace Go.Ab.Y.T
open Go Go.Ab Go.Proofs
structure aP(f:FuncId)(args:List D)(eo:List (Nat×TypeId))(H:List (List a7)){ρ:Type}(F:Option ρ)(out:ρ→Out)(cJ:ρ→List (List a7)):Prop where
 of:∀{r:ρ},F=some r→gW Tryz.prog f args eo H (out r) (cJ r)
def vX(E:Nat)(rs:List ResultVar){ρ:Type}(out:ρ→Out)(cJ:ρ→List (List a7))(r:ρ):cp→aK→Prop:=tN tt E rs λo bP=>o=out r∧bP=cJ r
def ho(s st:aK):Option aK:=(u6 (s.env.map (·.1)) (s.H.map (·.1)) s.aX st.env st.H st.aX).map (fit s)
noncomputable abbrev iy(N:Nat)(ops:Array Oper)(rs:List fu)(st:aK):=vR (jL Tryz.prog) tt N ops.toList rs st
noncomputable abbrev Hk(N:Nat)(ops:Array Oper)(rs:List (Nat×List fu))(st:aK):=G4 (jL Tryz.prog) tt N ops.toList (spread ops.toList.length 0 rs) st
noncomputable abbrev XZ(N:Nat)(ops:Array Oper)(gr:Nat)(rs:List (Nat×List fu))(st:aK):=Cr (jL Tryz.prog) tt N ops.toList gr (st.aX+ops.toList.length) (spread ops.toList.length 0 rs) st
abbrev af(x:Int):a7:=⟨.v (.int .i64 x),none⟩
abbrev dy(x:Bool):a7:=⟨.v (.bool x),none⟩
abbrev ba(x:atW):a7:=⟨.v (.str x),none⟩
abbrev az{α:Type}[Inhabited α](k:Nat)(e:α→V)(l:List α):a7:=⟨.v (ah k e l),none⟩
abbrev be(r o:Nat):a7:=⟨.ptr r o,none⟩
abbrev hq(x:V):a7:=⟨.v x,none⟩
abbrev bh(x:Int):D:=.v (.int .i64 x)
abbrev bU(x:Bool):D:=.v (.bool x)
abbrev cI(x:atW):D:=.v (.str x)
abbrev dr{α:Type}[Inhabited α](k:Nat)(e:α→V)(l:List α):D:=.v (ah k e l)
abbrev aO(d:D):Out:=.ret d none
def ahB(n:Nat):hh (n:Int) n=true:=afa ⟨Int.natCast_nonneg n,Int.le_refl _⟩
abbrev au:=all_nil
def ad{p:Prop}{l:List Prop}(h:p)(ab:k0 l):k0 (p::l):=⟨h,ab⟩
section
variable {N E:Nat} {st:aK} {Q:cp→aK→Prop} {next:aK→Prop} {x y:Code} {id i j:Nat} {ops:Array Oper}
def yp{x:V}(h:Q (.bf x) st):cp.then next Q (.bf x) st:=h
def bV(h:Q .normal st):cp.inBlock i Q (.exit i) st:=cp.agl h
def yq(h:Q (.exit j) st)(dh:Nat.beq j i=false:=by kernel_rfl):cp.inBlock i Q (.exit j) st:=cp.agm dh h
def ahC{x:V}(h:Q (.bf x) st):cp.inBlock i Q (.bf x) st:=h
def aq(h:a_ Tryz.prog N E x (cp.then (a_ Tryz.prog N E y Q) Q) st):a_ Tryz.prog N E (.seq x y) Q st:=a_.seq h
def am(h:Q .normal st):a_ Tryz.prog N E .skip Q st:=a_.skip h
def X0{r:Nat}(h:Q .ret (Cx r st)):OE r Q .ret st:=h
def X1(r:Nat)(h:a_ Tryz.prog N E x (OE r Q) st):a_ Tryz.prog N E x Q st:=a_.oR r h
def yr(oo:List Nat)(h:a_ Tryz.prog N E x Q {env:=forget oo st.env,H:=st.H,aX:=st.aX}):a_ Tryz.prog N E x Q st:=a_.forget oo h
def ahD{l:Nat}(h:Q .normal st):a_ Tryz.prog N E (.label l) Q st:=a_.label h
def bW(h:Q (.exit i) st):a_ Tryz.prog N E (.exit i) Q st:=a_.exit h
def ON(h:Q .ret st):a_ Tryz.prog N E .ret Q st:=a_.ret h
def ahE(h:a_ Tryz.prog N E x Q st):a_ Tryz.prog N E (.scope x) Q st:=a_.scope h
def aI(h:a_ Tryz.prog N E x (cp.inBlock i Q) st):a_ Tryz.prog N E (.block i x) Q st:=a_.block h
def fH(rs:List fu){b6:List Prop}(cn:k0 b6)(ei:Q .normal (jQ (iy N ops rs st)))(ai:mr (iy N ops rs st)=some b6:=by kernel_rfl):a_ Tryz.prog N E (.region id ops false) Q st:=a_.rg ix rs ai cn ei
def bC(ei:Q .normal (jQ (iy N ops [] st)))(ai:mr (iy N ops [] st)=some []:=by kernel_rfl):a_ Tryz.prog N E (.region id ops false) Q st:=fH [] au ei ai
def G(ei:a_ Tryz.prog N E y Q (jQ (iy N ops [] st)))(ai:mr (iy N ops [] st)=some []:=by kernel_rfl):a_ Tryz.prog N E (.seq (.region id ops false) y) Q st:=aq (bC (Q:=cp.then (a_ Tryz.prog N E y Q) Q) ei ai)
def aU(rs:List fu){b6:List Prop}(cn:k0 b6)(ei:a_ Tryz.prog N E y Q (jQ (iy N ops rs st)))(ai:mr (iy N ops rs st)=some b6:=by kernel_rfl):a_ Tryz.prog N E (.seq (.region id ops false) y) Q st:=aq (fH (Q:=cp.then (a_ Tryz.prog N E y Q) Q) rs cn ei ai)
section
variable {f:FuncId} {args:List D} {eo:List (Nat×TypeId)} {H cJ:List (List a7)} {out:Out}
def lD(p:gW Tryz.prog f args eo H out cJ)(ei:Q .normal (jQ (iy N ops [bd p []] st)))(ai:mr (iy N ops [bd p []] st)=some [gW Tryz.prog f args eo H out cJ]:=by kernel_rfl):a_ Tryz.prog N E (.region id ops false) Q st:=fH [bd p []] (ad p au) ei ai
def kD(p:gW Tryz.prog f args eo H out cJ)(ei:Q .normal (jQ (iy N ops [bF p []] st)))(ai:mr (iy N ops [bF p []] st)=some [gW Tryz.prog f args eo H out cJ]:=by kernel_rfl):a_ Tryz.prog N E (.region id ops false) Q st:=fH [bF p []] (ad p au) ei ai
def bX(p:gW Tryz.prog f args eo H out cJ)(ei:a_ Tryz.prog N E y Q (jQ (iy N ops [bd p []] st)))(ai:mr (iy N ops [bd p []] st)=some [gW Tryz.prog f args eo H out cJ]:=by kernel_rfl):a_ Tryz.prog N E (.seq (.region id ops false) y) Q st:=aU [bd p []] (ad p au) ei ai
def dj(p:gW Tryz.prog f args eo H out cJ)(ei:a_ Tryz.prog N E y Q (jQ (iy N ops [bF p []] st)))(ai:mr (iy N ops [bF p []] st)=some [gW Tryz.prog f args eo H out cJ]:=by kernel_rfl):a_ Tryz.prog N E (.seq (.region id ops false) y) Q st:=aU [bF p []] (ad p au) ei ai
end
def fZ(rs:List (Nat×List fu)){b6:List Prop}(cn:k0 b6)(ei:Q .normal (jQ (Hk N ops rs st)))(ai:mr (Hk N ops rs st)=some b6:=by kernel_rfl):a_ Tryz.prog N E (.region id ops true) Q st:=a_.G6 ix CD rs ai cn ei
def cB(rs:List (Nat×List fu)){b6:List Prop}(cn:k0 b6)(ei:a_ Tryz.prog N E y Q (jQ (Hk N ops rs st)))(ai:mr (Hk N ops rs st)=some b6:=by kernel_rfl):a_ Tryz.prog N E (.seq (.region id ops true) y) Q st:=aq (fZ (Q:=cp.then (a_ Tryz.prog N E y Q) Q) rs cn ei ai)
def ed(x:V)(rs:List fu){b6:List Prop}(cn:k0 b6)(ei:Q (.bf x) (jQ (iy N ops rs st)))(ai:Oi (iy N ops rs st)=some (x,b6):=by kernel_rfl):a_ Tryz.prog N E (.region id ops false) Q st:=a_.Oj ix rs ai cn ei
def sx(gr:Nat)(x:V)(rs:List (Nat×List fu)){b6:List Prop}(cn:k0 b6)(ei:∀n,Q (.bf x) {env:=[],H:=Ox (XZ N ops gr rs st),aX:=n})(ai:Ow (XZ N ops gr rs st)=some (x,b6):=by kernel_rfl):a_ Tryz.prog N E (.region id ops true) Q st:=a_.ag1 ix CD gr rs ai cn ei
def C{α:Type}{b:Bool}{p q:Option α}{r:α}{c:Nat}(h:(bif b then p else q)=some r)(aF:p=some r→a_ Tryz.prog N E x Q st)(aW:q=some r→a_ Tryz.prog N E y Q st)(hc:(look st.env c).map (·.d)=some (.v (.bool b)):=by kernel_rfl):a_ Tryz.prog N E (.cond (.tmp c) x y) Q st:=a_.Ol h hc aF aW
section
variable {ρ:Type} {a r:ρ} {out:ρ→Out} {cJ:ρ→List (List a7)} {rs:List ResultVar}
def G1(h:some a=some r)(ab:leave tt E rs st=some (out a,cJ a):=by kernel_rfl):vX E rs out cJ r .ret st:=by
 obtain rfl:=Option.some.inj h;exact ago ab
def bL{Q:cp→aK→Prop}(h:some a=some r)(ao:vX E rs out cJ r .ret st=Q .ret st:=by rfl)(ab:leave tt E rs st=some (out a,cJ a):=by kernel_rfl):a_ Tryz.prog N E .ret Q st:=ON (ao ▸ G1 h ab)
def bk{Q:cp→aK→Prop}{id:Nat}{ops:Array Oper}(h:some a=some r)(ao:vX E rs out cJ r .ret (jQ (iy N ops [] st))=Q .ret (jQ (iy N ops [] st)):=by rfl)(ab:leave tt E rs (jQ (iy N ops [] st))=some (out a,cJ a):=by kernel_rfl)(ai:mr (iy N ops [] st)=some []:=by kernel_rfl):a_ Tryz.prog N E (.seq (.region id ops false) .ret) Q st:=G (bL h ao ab) ai
def aA{Q:cp→aK→Prop}{id:Nat}{ops:Array Oper}{b:Bool}{q:Option ρ}{c:Nat}{y:Code}(h:(bif b then some a else q)=some r)(aW:q=some r→a_ Tryz.prog N E y Q st)(ao:vX E rs out cJ r .ret (jQ (iy N ops [] st))=Q .ret (jQ (iy N ops [] st)):=by rfl)(ab:leave tt E rs (jQ (iy N ops [] st))=some (out a,cJ a):=by kernel_rfl)(ai:mr (iy N ops [] st)=some []:=by kernel_rfl)(hc:(look st.env c).map (·.d)=some (.v (.bool b)):=by kernel_rfl):a_ Tryz.prog N E (.cond (.tmp c) (.seq (.region id ops false) .ret) y) Q st:=C h (λh=>bk h ao ab ai) aW hc
def kE(h:some a=some r)(ab:leave tt E rs st=some (out a,cJ a):=by kernel_rfl):vX E rs out cJ r .normal st:=by
 obtain rfl:=Option.some.inj h;exact N7 ab
def dB{x:V}(h:some a=some r)(ab:(GG E st.H).map oe=some (cJ a):=by kernel_rfl)(hx:out a = .bf x:=by kernel_rfl):vX E rs out cJ r (.bf x) st:=by
 obtain rfl:=Option.some.inj h;show tN tt E rs _ _ _
 rw [hx];exact agp ab
end
def aQ{f:FuncId}{fn:Func}{c:Code}{args:List D}{eo:List (Nat×TypeId)}{H:List (List a7)}{ρ:Type}{F:Option ρ}{out:ρ→Out}{cJ:ρ→List (List a7)}(aW:Tryz.prog.funcs[f]? = some fn)(hb:fn.body=some c)
 (h : ∀ {r : ρ}, F = some r → a_ Tryz.prog fn.ntmps H.length c (vX H.length fn.results.toList out cJ r) { env := hV args eo, H := cQ 0 H, aX := H.length }) (jM : decide (fn.name = "runtime.NumGoroutine") = false := by rfl) (ha : Nat.ble args.length fn.ntmps = true := by rfl) : aP f args eo H F out cJ :=
 ⟨λh0=>agn ix aW hb jM ha (h h0)⟩
end
section
variable {α β dH hF:Type} {p:Prop}
def dc{q:Prop}(a:p)(k:p→q):q:=k a
def tY{X2:Type}{X:Option X2}(c:α ⊕ β→X2){x:α ⊕ β}{f:α→Option dH}{g:β→Option dH}{r:dH}(q:X=some (c x))(h:ii.on x f g=some r)(c_:∀a,X=some (c (.inl a))→f a=some r→p)(ak:∀b,X=some (c (.inr b))→g b=some r→p):p:=
 match x,q,h with
 |.inl a,q,h=>c_ a q h
 |.inr b,q,h=>ak b q h
def iz{r:α}(h:none=some r):p:=by cases h
def ay{b:Bool}{x:Option α}{r:α}(h:ax b x=some r)(k:b=true→x=some r→p):p:=k (ss h).1 (ss h).2
def an{x:Option α}{f:α→Option β}{r:β}(h:Option.bind x f=some r)(k:∀a,x=some a→f a=some r→p):p:=let ⟨a,Z,aa⟩:=bind_some h;k a Z aa
def dQ{x:Option (aD α β)}{f:α→β→Option dH}{g:V→β→Option dH}{r:dH}(h:Option.bind x (λz=>aD.on z f g)=some r)(c_:∀a b,x=some (.ret a b)→f a b=some r→p)(ak:∀y b,x=some (.bf y b)→g y b=some r→p):p:=
 let ⟨z,Z,aa⟩:=bind_some h
 match z,Z,aa with
 |.ret a b,Z,aa=>c_ a b Z aa
 |.bf y b,Z,aa=>ak y b Z aa
end
section
variable {ρ:Type} {r:ρ} {N E:Nat} {st:aK} {Q:cp→aK→Prop} {x y:Code}
def cg{ch:aK}{f:Option ρ}(h:f=some r)(ai:ho (ch) st=some (ch):=by kernel_rfl):ho (ch) st=some (ch)∧f=some r:=⟨ai,h⟩
def co(ch:aK)(f:Option ρ)(Z:a_ Tryz.prog N E x (cp.then (λb8=>ho (ch) b8=some (ch)∧f=some r) Q) st)(aa:f=some r→a_ Tryz.prog N E y Q (ch))(b1:Nat.ble E (ch).aX=true:=by intros;kernel_rfl):a_ Tryz.prog N E (.seq x y) Q st:=
 a_.cut _ Z λb8 ⟨ai,h⟩=>a_.q7 _ _ _ _ ai (b1) (aa h)
end
section
variable {α:Type} {ρ:Type} {r:ρ} {N E:Nat} {st:aK} {Q:cp→aK→Prop} {x y:Code}
def a8{ch:α→aK}{f:α→Option ρ}{a0:_}(h:f a0=some r)(ai:ho (ch a0) st=some (ch a0):=by kernel_rfl):∃a0,ho (ch a0) st=some (ch a0)∧f a0=some r:=⟨a0,ai,h⟩
def dJ(ch:α→aK)(f:α→Option ρ)(Z:a_ Tryz.prog N E x (cp.then (λb8=>∃a0,ho (ch a0) b8=some (ch a0)∧f a0=some r) Q) st)(aa:∀a0,f a0=some r→a_ Tryz.prog N E y Q (ch a0))(b1:∀a0,Nat.ble E (ch a0).aX=true:=by intros;kernel_rfl):a_ Tryz.prog N E (.seq x y) Q st:=
 a_.cut _ Z λb8 ⟨a0,ai,h⟩=>a_.q7 _ _ _ _ ai (b1 a0) (aa a0 h)
def dm(ch:α→aK)(F:Nat→α→Option ρ)(B:(α→Option ρ)→α→Option ρ){n:Nat}{a0:_}(h:F n a0=some r)(body:∀k a0,B k a0=some r→a_ Tryz.prog N E x (cp.then (λb8=>∃a0,ho (ch a0) b8=some (ch a0)∧k a0=some r) Q) (ch a0))(hi:ho (ch a0) st=some (ch a0):=by kernel_rfl)(b1:∀a0,Nat.ble E (ch a0).aX=true:=by intros;kernel_rfl)(h0:∀a0,F 0 a0=none:=by intros;rfl)(hs:∀m a0,F (m+1) a0=B (F m) a0:=by intros;rfl):a_ Tryz.prog N E (.loop x) Q st:=by
 refine a_.loop (σ:=α) (λm (s:α) st=>ho (ch s) st=some (ch s)∧F m s=some r) ?_ (n:=n) (s:=a0) ⟨hi,h⟩
 rintro m a0 b8 ⟨ai,h⟩
 cases m with
 |zero=>have aa:=(h0 a0).symm.trans h;cases aa
 |succ m=>
  refine⟨m,rfl,a_.q7 _ _ _ _ ai (b1 a0) ((body (F m) a0 ((hs m a0).symm.trans h)).mono ?_)⟩
  intro fO Hl ao;cases fO with
  |normal=>obtain⟨a0,g1,g2⟩:=ao;exact⟨a0,g1,g2⟩
  |exit i=>exact ao
  |ret=>exact ao
  |bf x=>exact ao
end
section
variable {α β:Type} {ρ:Type} {r:ρ} {N E:Nat} {st:aK} {Q:cp→aK→Prop} {x y:Code}
def ey{ch:α→β→aK}{f:α→β→Option ρ}{a0 aZ:_}(h:f a0 aZ=some r)(ai:ho (ch a0 aZ) st=some (ch a0 aZ):=by kernel_rfl):∃a0 aZ,ho (ch a0 aZ) st=some (ch a0 aZ)∧f a0 aZ=some r:=⟨a0,aZ,ai,h⟩
def oq(ch:α→β→aK)(f:α→β→Option ρ)(Z:a_ Tryz.prog N E x (cp.then (λb8=>∃a0 aZ,ho (ch a0 aZ) b8=some (ch a0 aZ)∧f a0 aZ=some r) Q) st)(aa:∀a0 aZ,f a0 aZ=some r→a_ Tryz.prog N E y Q (ch a0 aZ))(b1:∀a0 aZ,Nat.ble E (ch a0 aZ).aX=true:=by intros;kernel_rfl):a_ Tryz.prog N E (.seq x y) Q st:=
 a_.cut _ Z λb8 ⟨a0,aZ,ai,h⟩=>a_.q7 _ _ _ _ ai (b1 a0 aZ) (aa a0 aZ h)
def gR(ch:α→β→aK)(F:Nat→α→β→Option ρ)(B:(α→β→Option ρ)→α→β→Option ρ){n:Nat}{a0 aZ:_}(h:F n a0 aZ=some r)(body:∀k a0 aZ,B k a0 aZ=some r→a_ Tryz.prog N E x (cp.then (λb8=>∃a0 aZ,ho (ch a0 aZ) b8=some (ch a0 aZ)∧k a0 aZ=some r) Q) (ch a0 aZ))(hi:ho (ch a0 aZ) st=some (ch a0 aZ):=by kernel_rfl)(b1:∀a0 aZ,Nat.ble E (ch a0 aZ).aX=true:=by intros;kernel_rfl)(h0:∀a0 aZ,F 0 a0 aZ=none:=by intros;rfl)(hs:∀m a0 aZ,F (m+1) a0 aZ=B (F m) a0 aZ:=by intros;rfl):a_ Tryz.prog N E (.loop x) Q st:=by
 refine a_.loop (σ:=α×β) (λm (s:α×β) st=>ho (ch s.1 s.2) st=some (ch s.1 s.2)∧F m s.1 s.2=some r) ?_ (n:=n) (s:=(a0,aZ)) ⟨hi,h⟩
 rintro m ⟨a0,aZ⟩ b8 ⟨ai,h⟩
 cases m with
 |zero=>have aa:=(h0 a0 aZ).symm.trans h;cases aa
 |succ m=>
  refine⟨m,rfl,a_.q7 _ _ _ _ ai (b1 a0 aZ) ((body (F m) a0 aZ ((hs m a0 aZ).symm.trans h)).mono ?_)⟩
  intro fO Hl ao;cases fO with
  |normal=>obtain⟨a0,aZ,g1,g2⟩:=ao;exact⟨(a0,aZ),g1,g2⟩
  |exit i=>exact ao
  |ret=>exact ao
  |bf x=>exact ao
end
section
variable {α β dH:Type} {ρ:Type} {r:ρ} {N E:Nat} {st:aK} {Q:cp→aK→Prop} {x y:Code}
def iA{ch:α→β→dH→aK}{f:α→β→dH→Option ρ}{a0 aZ a2:_}(h:f a0 aZ a2=some r)(ai:ho (ch a0 aZ a2) st=some (ch a0 aZ a2):=by kernel_rfl):∃a0 aZ a2,ho (ch a0 aZ a2) st=some (ch a0 aZ a2)∧f a0 aZ a2=some r:=⟨a0,aZ,a2,ai,h⟩
def q8(ch:α→β→dH→aK)(f:α→β→dH→Option ρ)(Z:a_ Tryz.prog N E x (cp.then (λb8=>∃a0 aZ a2,ho (ch a0 aZ a2) b8=some (ch a0 aZ a2)∧f a0 aZ a2=some r) Q) st)(aa:∀a0 aZ a2,f a0 aZ a2=some r→a_ Tryz.prog N E y Q (ch a0 aZ a2))(b1:∀a0 aZ a2,Nat.ble E (ch a0 aZ a2).aX=true:=by intros;kernel_rfl):a_ Tryz.prog N E (.seq x y) Q st:=
 a_.cut _ Z λb8 ⟨a0,aZ,a2,ai,h⟩=>a_.q7 _ _ _ _ ai (b1 a0 aZ a2) (aa a0 aZ a2 h)
def CE(ch:α→β→dH→aK)(F:Nat→α→β→dH→Option ρ)(B:(α→β→dH→Option ρ)→α→β→dH→Option ρ){n:Nat}{a0 aZ a2:_}(h:F n a0 aZ a2=some r)(body:∀k a0 aZ a2,B k a0 aZ a2=some r→a_ Tryz.prog N E x (cp.then (λb8=>∃a0 aZ a2,ho (ch a0 aZ a2) b8=some (ch a0 aZ a2)∧k a0 aZ a2=some r) Q) (ch a0 aZ a2))(hi:ho (ch a0 aZ a2) st=some (ch a0 aZ a2):=by kernel_rfl)(b1:∀a0 aZ a2,Nat.ble E (ch a0 aZ a2).aX=true:=by intros;kernel_rfl)(h0:∀a0 aZ a2,F 0 a0 aZ a2=none:=by intros;rfl)(hs:∀m a0 aZ a2,F (m+1) a0 aZ a2=B (F m) a0 aZ a2:=by intros;rfl):a_ Tryz.prog N E (.loop x) Q st:=by
 refine a_.loop (σ:=α×β×dH) (λm (s:α×β×dH) st=>ho (ch s.1 s.2.1 s.2.2) st=some (ch s.1 s.2.1 s.2.2)∧F m s.1 s.2.1 s.2.2=some r) ?_ (n:=n) (s:=(a0,aZ,a2)) ⟨hi,h⟩
 rintro m ⟨a0,aZ,a2⟩ b8 ⟨ai,h⟩
 cases m with
 |zero=>have aa:=(h0 a0 aZ a2).symm.trans h;cases aa
 |succ m=>
  refine⟨m,rfl,a_.q7 _ _ _ _ ai (b1 a0 aZ a2) ((body (F m) a0 aZ a2 ((hs m a0 aZ a2).symm.trans h)).mono ?_)⟩
  intro fO Hl ao;cases fO with
  |normal=>obtain⟨a0,aZ,a2,g1,g2⟩:=ao;exact⟨(a0,aZ,a2),g1,g2⟩
  |exit i=>exact ao
  |ret=>exact ao
  |bf x=>exact ao
end
section
variable {α β dH hF:Type} {ρ:Type} {r:ρ} {N E:Nat} {st:aK} {Q:cp→aK→Prop} {x y:Code}
def p3{ch:α→β→dH→hF→aK}{f:α→β→dH→hF→Option ρ}{a0 aZ a2 a3:_}(h:f a0 aZ a2 a3=some r)(ai:ho (ch a0 aZ a2 a3) st=some (ch a0 aZ a2 a3):=by kernel_rfl):∃a0 aZ a2 a3,ho (ch a0 aZ a2 a3) st=some (ch a0 aZ a2 a3)∧f a0 aZ a2 a3=some r:=⟨a0,aZ,a2,a3,ai,h⟩
def ahF(ch:α→β→dH→hF→aK)(f:α→β→dH→hF→Option ρ)(Z:a_ Tryz.prog N E x (cp.then (λb8=>∃a0 aZ a2 a3,ho (ch a0 aZ a2 a3) b8=some (ch a0 aZ a2 a3)∧f a0 aZ a2 a3=some r) Q) st)(aa:∀a0 aZ a2 a3,f a0 aZ a2 a3=some r→a_ Tryz.prog N E y Q (ch a0 aZ a2 a3))(b1:∀a0 aZ a2 a3,Nat.ble E (ch a0 aZ a2 a3).aX=true:=by intros;kernel_rfl):a_ Tryz.prog N E (.seq x y) Q st:=
 a_.cut _ Z λb8 ⟨a0,aZ,a2,a3,ai,h⟩=>a_.q7 _ _ _ _ ai (b1 a0 aZ a2 a3) (aa a0 aZ a2 a3 h)
def sy(ch:α→β→dH→hF→aK)(F:Nat→α→β→dH→hF→Option ρ)(B:(α→β→dH→hF→Option ρ)→α→β→dH→hF→Option ρ){n:Nat}{a0 aZ a2 a3:_}(h:F n a0 aZ a2 a3=some r)(body:∀k a0 aZ a2 a3,B k a0 aZ a2 a3=some r→a_ Tryz.prog N E x (cp.then (λb8=>∃a0 aZ a2 a3,ho (ch a0 aZ a2 a3) b8=some (ch a0 aZ a2 a3)∧k a0 aZ a2 a3=some r) Q) (ch a0 aZ a2 a3))(hi:ho (ch a0 aZ a2 a3) st=some (ch a0 aZ a2 a3):=by kernel_rfl)(b1:∀a0 aZ a2 a3,Nat.ble E (ch a0 aZ a2 a3).aX=true:=by intros;kernel_rfl)(h0:∀a0 aZ a2 a3,F 0 a0 aZ a2 a3=none:=by intros;rfl)(hs:∀m a0 aZ a2 a3,F (m+1) a0 aZ a2 a3=B (F m) a0 aZ a2 a3:=by intros;rfl):a_ Tryz.prog N E (.loop x) Q st:=by
 refine a_.loop (σ:=α×β×dH×hF) (λm (s:α×β×dH×hF) st=>ho (ch s.1 s.2.1 s.2.2.1 s.2.2.2) st=some (ch s.1 s.2.1 s.2.2.1 s.2.2.2)∧F m s.1 s.2.1 s.2.2.1 s.2.2.2=some r) ?_ (n:=n) (s:=(a0,aZ,a2,a3)) ⟨hi,h⟩
 rintro m ⟨a0,aZ,a2,a3⟩ b8 ⟨ai,h⟩
 cases m with
 |zero=>have aa:=(h0 a0 aZ a2 a3).symm.trans h;cases aa
 |succ m=>
  refine⟨m,rfl,a_.q7 _ _ _ _ ai (b1 a0 aZ a2 a3) ((body (F m) a0 aZ a2 a3 ((hs m a0 aZ a2 a3).symm.trans h)).mono ?_)⟩
  intro fO Hl ao;cases fO with
  |normal=>obtain⟨a0,aZ,a2,a3,g1,g2⟩:=ao;exact⟨(a0,aZ,a2,a3),g1,g2⟩
  |exit i=>exact ao
  |ret=>exact ao
  |bf x=>exact ao
end
section
variable {α β dH hF sz:Type} {ρ:Type} {r:ρ} {N E:Nat} {st:aK} {Q:cp→aK→Prop} {x y:Code}
def ahG{ch:α→β→dH→hF→sz→aK}{f:α→β→dH→hF→sz→Option ρ}{a0 aZ a2 a3 a4:_}(h:f a0 aZ a2 a3 a4=some r)(ai:ho (ch a0 aZ a2 a3 a4) st=some (ch a0 aZ a2 a3 a4):=by kernel_rfl):∃a0 aZ a2 a3 a4,ho (ch a0 aZ a2 a3 a4) st=some (ch a0 aZ a2 a3 a4)∧f a0 aZ a2 a3 a4=some r:=⟨a0,aZ,a2,a3,a4,ai,h⟩
def ahH(ch:α→β→dH→hF→sz→aK)(F:Nat→α→β→dH→hF→sz→Option ρ)(B:(α→β→dH→hF→sz→Option ρ)→α→β→dH→hF→sz→Option ρ){n:Nat}{a0 aZ a2 a3 a4:_}(h:F n a0 aZ a2 a3 a4=some r)(body:∀k a0 aZ a2 a3 a4,B k a0 aZ a2 a3 a4=some r→a_ Tryz.prog N E x (cp.then (λb8=>∃a0 aZ a2 a3 a4,ho (ch a0 aZ a2 a3 a4) b8=some (ch a0 aZ a2 a3 a4)∧k a0 aZ a2 a3 a4=some r) Q) (ch a0 aZ a2 a3 a4))(hi:ho (ch a0 aZ a2 a3 a4) st=some (ch a0 aZ a2 a3 a4):=by kernel_rfl)(b1:∀a0 aZ a2 a3 a4,Nat.ble E (ch a0 aZ a2 a3 a4).aX=true:=by intros;kernel_rfl)(h0:∀a0 aZ a2 a3 a4,F 0 a0 aZ a2 a3 a4=none:=by intros;rfl)(hs:∀m a0 aZ a2 a3 a4,F (m+1) a0 aZ a2 a3 a4=B (F m) a0 aZ a2 a3 a4:=by intros;rfl):a_ Tryz.prog N E (.loop x) Q st:=by
 refine a_.loop (σ:=α×β×dH×hF×sz) (λm (s:α×β×dH×hF×sz) st=>ho (ch s.1 s.2.1 s.2.2.1 s.2.2.2.1 s.2.2.2.2) st=some (ch s.1 s.2.1 s.2.2.1 s.2.2.2.1 s.2.2.2.2)∧F m s.1 s.2.1 s.2.2.1 s.2.2.2.1 s.2.2.2.2=some r) ?_ (n:=n) (s:=(a0,aZ,a2,a3,a4)) ⟨hi,h⟩
 rintro m ⟨a0,aZ,a2,a3,a4⟩ b8 ⟨ai,h⟩
 cases m with
 |zero=>have aa:=(h0 a0 aZ a2 a3 a4).symm.trans h;cases aa
 |succ m=>
  refine⟨m,rfl,a_.q7 _ _ _ _ ai (b1 a0 aZ a2 a3 a4) ((body (F m) a0 aZ a2 a3 a4 ((hs m a0 aZ a2 a3 a4).symm.trans h)).mono ?_)⟩
  intro fO Hl ao;cases fO with
  |normal=>obtain⟨a0,aZ,a2,a3,a4,g1,g2⟩:=ao;exact⟨(a0,aZ,a2,a3,a4),g1,g2⟩
  |exit i=>exact ao
  |ret=>exact ao
  |bf x=>exact ao
end
section
variable {α β dH hF sz asQ:Type} {ρ:Type} {r:ρ} {N E:Nat} {st:aK} {Q:cp→aK→Prop} {x y:Code}
end
end Go.Ab.Y.T
namespace Go.Ab.Y
open Go Go.Ab Go.Proofs
def Hm(n:Nat)(s:atW):Option atW:=ax (decide (s.length≤281474976710656))<|some s
def Hn(n:Nat)(s:atW)(c:Int):Option Int:=some (Lib.indexByte s c.toNat.toUInt8)
def yt(n:Nat)(s:atW):Option Int:=ax (decide (s.length≤140737488351232))<|some (hE s)
def CF(s:atW):Int ⊕ Int:=
 match Lib.parseIntB 64 s with
 |.ok v=>.inl v
 |.range=>.inr (Lib.intSat 64 s)
 |_=>.inr 0
def yu(n:Nat)(s:atW)(base:Int)(Ho:Int):Option (Int ⊕ Int):=
 ax (decide (base=10∧Ho=64∧s.length≤281474976710656))<|some (CF s)
def Hp(n:Nat)(i:Int)(base:Int):Option atW:=ax (decide (base=10 ∧ -9223372036854775808≤i∧i≤9223372036854775807))<|some (Lib.itoa i)
def Hq(n:Nat)(elems:List atW)(sep:atW):Option atW:=ax (decide (elems.length≤140737488355328∧(Lib.join elems sep).length≤140737488355328))<|some (Lib.join elems sep)
open Go Go.Ab Go.Proofs
def ahI{n:Nat}{s:atW}{r:atW}(h:Hm n s=some r):gW Tryz.prog 326 [.v (.str s)] [] [] (.ret (.v (.str r)) none) []:=by
 unfold Hm at h;obtain⟨g,h⟩:=ss h;obtain rfl:=Option.some.inj h;refine vQ (fd:=Tryz.f326) Tryz.func326 rfl rfl (vsOf:=λvs=>vs=[.string ⟨⟨s⟩⟩]) (λM β vs ab ai=>?_) (λvs w aw hg=>?_)
 ·match vs,ab with
  |[v],_=>
   have:=mU (ai 0 v _ rfl rfl)
   rw [this]
 ·subst aw;refine(Tryz.stringslite_Clone ⟨⟨s⟩⟩ w (show s.length≤281474976710656 from of_decide_eq_true g)).mono ?_
  rintro e w' ⟨rfl,hb⟩
  refine⟨_,rfl,λM β=>.v _ _ (.str _),λb a6 h=>?_,by rw [hb.os,hb.output]⟩
  rw [hb.block b (Array.getElem?_eq_some_iff.1 h).1];exact h
def ahJ{n:Nat}{s:atW}{c:Int}{r:Int}(h:Hn n s c=some r):gW Tryz.prog 352 [.v (.str s),.v (.int .u8 c)] [] [] (.ret (.v (.int .i64 r)) none) []:=by
 unfold Hn at h;obtain rfl:=Option.some.inj h;refine vQ (fd:=Tryz.f352) Tryz.func352 rfl rfl (vsOf:=λvs=>vs=[.string ⟨⟨s⟩⟩,.int .u8 c]) (λM β vs ab ai=>?_) (λvs w aw hg=>?_)
 ·match vs,ab with
  |[v,u],_=>
   have Z:=mU (ai 0 v _ rfl rfl);have aa:=mh (ai 1 u _ rfl rfl);rw [Z,aa]
 ·subst aw;refine(Tryz.stringslite_IndexByte ⟨⟨s⟩⟩ c w).mono ?_
  rintro e w' ⟨rfl,rfl⟩
  exact⟨_,rfl,λM β=>.v _ _ (.int _ _),λb a6 h=>h,rfl⟩
def X3{n:Nat}{s:atW}{r:Int}(h:yt n s=some r):gW Tryz.prog 174 [.v (.str s)] [] [] (.ret (.v (.int .i64 r)) none) []:=by
 unfold yt at h;obtain⟨g,h⟩:=ss h;obtain rfl:=Option.some.inj h;refine vQ (fd:=Tryz.f174) Tryz.func174 rfl rfl (vsOf:=λvs=>vs=[.string ⟨⟨s⟩⟩]) (λM β vs ab ai=>?_) (λvs w aw hg=>?_)
 ·match vs,ab with
  |[v],_=>
   have:=mU (ai 0 v _ rfl rfl)
   rw [this]
 ·subst aw;refine(ahs ⟨⟨s⟩⟩ w (show s.length≤140737488351232 from of_decide_eq_true g)).mono ?_
  rintro e w' ⟨rfl,pos,rfl⟩
  refine⟨_,rfl,λM β=>.v _ _ (.int _ _),λb a6 h=>?_,rfl⟩
  rw [World.iter,Go.RowKit.Below.heap_alloc w _ b (Array.getElem?_eq_some_iff.1 h).1];exact h
def ahK(w:World)(e:TypeId)(t:ByteArray):((Lib.bytesWorld w e t).os,(Lib.bytesWorld w e t).output)=(w.os,w.output):=by
 rw [(Lib.bytesWorld_below w e t).os,(Lib.bytesWorld_below w e t).output]
def OO:ML Tryz.prog=[4,5]:=by kernel_rfl
def X4{n:Nat}{s:atW}{base:Int}{Ho:Int}{r:(Int ⊕ Int)}(h:yu n s base Ho=some r):gW Tryz.prog 351 [.v (.str s),.v (.int .i64 base),.v (.int .i64 Ho)] [] [] (ii.on r (λX5=>.ret (.cw [.v (.int .i64 X5),.v (.ir)]) none) (λX6=>.ret (.cw [.v (.int .i64 X6),.v ((.iface 393 .any))]) none)) []:=by
 unfold yu at h;obtain⟨g,h⟩:=ss h;obtain rfl:=Option.some.inj h;obtain⟨rfl,rfl,ab⟩:=of_decide_eq_true g
 have e7:∀(M:Mem) (β:Nat→Option Nat) (vs:List Value),vs.length=3→(∀(i:Nat) v a,vs[i]? = some v→[D.v (.str s),.v (.int .i64 10),.v (.int .i64 64)][i]? = some a→cy M β v a)→vs=[.string ⟨⟨s⟩⟩,.int .i64 10,.int .i64 64]:=by
  intro M β vs ab ai
  match vs,ab with
  |[v,u,t],_=>
   have Z:=mU (ai 0 v _ rfl rfl);have aa:=mh (ai 1 u _ rfl rfl);have aj:=mh (ai 2 t _ rfl rfl);rw [Z,aa,aj]
 unfold CF;rcases hp:Lib.parseIntB 64 s with v|_|_
 ·
   refine vQ (fd:=Tryz.f351) Tryz.func351 rfl rfl (vsOf:=λvs=>vs=[.string ⟨⟨s⟩⟩,.int .i64 10,.int .i64 64]) (λM β vs ab ai=>e7 M β vs ab ai) (λvs w aw hg=>?_)
   subst aw;refine(Tryz.strconv_ParseInt_10_at64_ok ⟨⟨s⟩⟩ (show s.length≤9223372036854775806 by omega) v hp w).mono ?_
   rintro e w' ⟨rfl,hw⟩
   refine⟨_,rfl,λM β=>.cw [_,_] _ rfl λi v c hi hc=>?_,λb a6 h=>?_,by rcases hw with rfl|⟨t,rfl⟩;rfl;exact ahK _ _ _⟩
   ·match i with
    | 0=>cases hi;cases hc;exact .v _ _ (.int _ _)
    | 1=>cases hi;cases hc;exact .v _ _ .ir
    |i+2=>simp at hi
   ·rcases hw with rfl|⟨t,rfl⟩
    ·exact h
    ·rw [Lib.bytesWorld_at_old _ _ _ _ (Array.getElem?_eq_some_iff.1 h).1];exact h
 ·
   refine vQ (fd:=Tryz.f351) Tryz.func351 rfl rfl (vsOf:=λvs=>vs=[.string ⟨⟨s⟩⟩,.int .i64 10,.int .i64 64]) (λM β vs ab ai=>e7 M β vs ab ai) (λvs w aw hg=>?_)
   subst aw;obtain⟨fM,Z,aa⟩:=hg.1 4 (by rw [OO];simp)
   refine(Tryz.strconv_ParseInt_10_at64_syntax ⟨⟨s⟩⟩ ab (by constructor;intro v;rw [show Lib.parseIntB 64 (⟨⟨s⟩⟩:ByteArray).data.toList=_ from hp];intro e;cases e;rw [show Lib.parseIntB 64 (⟨⟨s⟩⟩:ByteArray).data.toList=_ from hp];intro e;cases e) fM w Z aa).mono ?_
   rintro e w' ⟨N,rfl,aR,ih,hb⟩
   refine⟨_,rfl,λM β=>.cw [_,_] _ rfl λi v c hi hc=>?_,λb a6 h=>?_,by rw [hb.os,hb.output]⟩
   ·match i with
    | 0=>cases hi;cases hc;exact .v _ _ (.int _ _)
    | 1=>cases hi;cases hc;exact .v _ _ (.iface _ _ _ (.any _ rfl))
    |i+2=>simp at hi
   ·rw [hb.block b (Array.getElem?_eq_some_iff.1 h).1];exact h
 ·
   refine vQ (fd:=Tryz.f351) Tryz.func351 rfl rfl (vsOf:=λvs=>vs=[.string ⟨⟨s⟩⟩,.int .i64 10,.int .i64 64]) (λM β vs ab ai=>e7 M β vs ab ai) (λvs w aw hg=>?_)
   subst aw;obtain⟨fM,Z,aa⟩:=hg.1 5 (by rw [OO];simp)
   refine(Tryz.strconv_ParseInt_10_at64_range ⟨⟨s⟩⟩ ab hp fM w Z aa).mono ?_
   rintro e w' ⟨N,rfl,aR,ih,hb⟩
   refine⟨_,rfl,λM β=>.cw [_,_] _ rfl λi v c hi hc=>?_,λb a6 h=>?_,by rw [hb.os,hb.output]⟩
   ·match i with
    | 0=>cases hi;cases hc;exact .v _ _ (.int _ _)
    | 1=>cases hi;cases hc;exact .v _ _ (.iface _ _ _ (.any _ rfl))
    |i+2=>simp at hi
   ·rw [hb.block b (Array.getElem?_eq_some_iff.1 h).1];exact h
def Hr : Tryz.prog.globalNamed "internal/strconv.uint64pow10" = some 1 := by kernel_rfl
def X7:(Lib.pow10Tab.map λz=>Value.int .u64 z).toArray=MM:=by kernel_rfl
def ahL {w : World} (h : G2 Tryz.prog w) : Lib.TabIs Tryz.prog w "internal/strconv.uint64pow10" .u64 Lib.pow10Tab := by
 obtain⟨t,kS,Z⟩:=h.2 1 Hr;unfold Lib.TabIs World.var?;rw [Hr,Option.bind_some,Z,X7]
def ahM{n:Nat}{i:Int}{base:Int}{r:atW}(h:Hp n i base=some r):gW Tryz.prog 320 [.v (.int .i64 i),.v (.int .i64 base)] [] [] (.ret (.v (.str r)) none) []:=by
 unfold Hp at h;obtain⟨g,h⟩:=ss h;obtain rfl:=Option.some.inj h;obtain⟨rfl,h0,Z⟩:=of_decide_eq_true g;refine vQ (fd:=Tryz.f320) Tryz.func320 rfl rfl (vsOf:=λvs=>vs=[.int .i64 i,.int .i64 10]) (λM β vs ab ai=>?_) (λvs w aw hg=>?_)
 ·match vs,ab with
  |[v,u],_=>
   have g1:=mh (ai 0 v _ rfl rfl);have g2:=mh (ai 1 u _ rfl rfl);rw [g1,g2]
 ·subst aw;refine(Tryz.strconv_FormatInt_10 i h0 Z w (ahL hg)).mono ?_
  rintro e w' ⟨rfl,k,os,rfl⟩
  exact⟨_,rfl,λM β=>.v _ _ (.str _),λb a6 h=>(Lib.heap_grow_old w k os b (Array.getElem?_eq_some_iff.1 h).1).trans h,rfl⟩
def X8{b:List Int}(g:(nv b&&decide (b.length≤9223372036854775807))=true):b.length=(jR b).length∧∀i,i<(jR b).length→(λi=>cO (b.getD i default)) i = .int .u8 (((jR b).getD i 0).toNat:Int):=by
 simp only [Bool.and_eq_true]at g;obtain⟨Z,aa⟩:=Cn g.1;exact⟨Z.symm,λi hi=>aa i (by omega)⟩
def X9{b:List Int}(g:(nv b&&decide (b.length≤9223372036854775807))=true):(jR b).length≤9223372036854775807:=by
 simp only [Bool.and_eq_true,decide_eq_true_eq]at g;rw [(Cn g.1).1];exact g.2
def OP:Go.Proofs.Builder.Extra Tryz.prog Tryz.XK where
 sizeBuilder:=by kernel_rfl
 liesBuilder:=by kernel_rfl
 t5:=Tryz.underlying5
 a5:=Tryz.isAgg5
 z5:=Tryz.sizeOf5
 v5:=Tryz.zeroValue5
 infoByte:=by kernel_rfl
 cellsByte:=by kernel_rfl
 sizeByte:=by kernel_rfl
 neB5:=by decide
def X'{n:Nat}{elems:List atW}{sep:atW}{r:atW}(h:Hq n elems sep=some r):gW Tryz.prog 119 [.v (ah 1 bE elems),.v (.str sep)] [] [] (.ret (.v (.str r)) none) []:=by
 unfold Hq at h;obtain⟨g,h⟩:=ss h;obtain rfl:=Option.some.inj h;obtain⟨aR,cZ⟩:=of_decide_eq_true g
 have X_:(elems.map λs=>(⟨⟨s⟩⟩:ByteArray)).map (·.data.toList)=elems:=by
  rw [List.map_map];conv=>rhs;rw [←List.map_id elems]
  rfl
 refine Xg (fd:=Tryz.f119) Tryz.func119 rfl rfl (vsOf:=λw vs=>(∃a,vs=[.slice a 0 0,.string ⟨⟨sep⟩⟩]∧elems=[])∨∃yv o c,vs=[.slice (some ⟨yv,o,none⟩) elems.length c,.string ⟨⟨sep⟩⟩]∧elems.length≤c∧∀(j:Nat) x,elems[j]? = some x→w.cell? ⟨yv,o+j,none⟩=some (.string ⟨⟨x⟩⟩)) (λw M β vs hm ab ai=>?_) (λvs w aw hg=>?_)
 ·match vs,ab with
  |[v,u],_=>
   have g2:=mU (ai 1 u _ rfl rfl);have g1:=ai 0 v _ rfl rfl;rw [g2];rcases tv (k:=1) (n:=elems.length) (get:=λi=>bE (elems.getD i default)) g1 with⟨Z,aa⟩|⟨b,off,cap,val,Z,hc,hk,cT,jg,gI⟩
   ·rcases Z with Z|⟨a,Z⟩
    ·exact .inl ⟨none,by rw [Z],List.eq_nil_of_length_eq_zero aa⟩
    ·exact .inl ⟨some a,by rw [Z],List.eq_nil_of_length_eq_zero aa⟩
   ·refine .inr ⟨b,off,cap,by rw [Z],hc,λj x hx=>?_⟩
    have hj:j<elems.length:=(List.getElem?_eq_some_iff.1 hx).1;have e1:=hm _ _ _ (cT j 0 hj (by omega))
    have e2:=gI j 0 (.str x) hj (by
     have:elems.getD j default=x:=by simp [List.getD,hx]
     rw [this];rfl)
    rw [show off+j*1+0=off+j by omega]at e1
    rw [e1];generalize val j 0=y at e2 ⊢
    cases e2;rfl
 ·rcases aw with⟨a,rfl,rfl⟩|⟨yv,o,c,rfl,hc,pM⟩
  ·refine(Any.strings_Join_none Tryz.OG OP a 0 ⟨⟨sep⟩⟩ w).mono ?_
   rintro e w' ⟨rfl,rfl⟩
   exact⟨_,rfl,λM β=>.v _ _ (.str _),λb a6 h=>h,rfl⟩
  ·cases elems with
   |nil=>
    refine(Any.strings_Join_none Tryz.OG OP (some ⟨yv,o,none⟩) c ⟨⟨sep⟩⟩ w).mono ?_
    rintro e w' ⟨rfl,rfl⟩
    exact⟨_,rfl,λM β=>.v _ _ (.str _),λb a6 h=>h,rfl⟩
   |cons fG ahN=>
    have ahO:yv<w.heap.size:=lt_of_cell (pM 0 fG rfl)
    have hj:=Any.strings_Join Tryz.OG OP yv o c ((fG::ahN).map λs=>(⟨⟨s⟩⟩:ByteArray)) ⟨⟨sep⟩⟩ w (λj x hx=>by
     rw [List.getElem?_map,Option.map_eq_some_iff]at hx;obtain⟨y,ce,rfl⟩:=hx;exact pM j y ce) ahO (by simpa using aR) (by simpa using hc) (by rw [X_];exact cZ)
    rw [List.length_map]at hj;refine hj.mono ?_
    rintro e w' ⟨rfl,hb⟩
    refine⟨_,rfl,λM β=>?_,λb a6 h=>?_,by rw [hb.os,hb.output]⟩
    ·rw [X_];exact .v _ _ (.str _)
    ·rw [hb.block b (Array.getElem?_eq_some_iff.1 h).1];exact h
end Go.Ab.Y
namespace Go.Ab.Y
open Go Go.Ab Go.Proofs T
abbrev at3{ρ:Type}(i:FuncId)(a:List D)(F:Option ρ)(o:ρ→Out):Prop:=aP i a [] [] F o λ_=>[]
abbrev at4(i:FuncId)(a:List D)(F:Option Bool):Prop:=at3 i a F λr=>aO (bU r)
abbrev at5(i:FuncId)(a:List D)(F:Option Int):Prop:=at3 i a F λr=>aO (bh r)
end Go.Ab.Y

/- The types of this claim, and the contracts that were written by hand. -/
import Derived.Test.YtcjbfnojhpfchaaGreatDoorProg
import Derived.WalkKit
import Derived.Lib.Builder
import Derived.Lib.UnsafeStr
import Derived.Laws.Externs
import Derived.Shelf.RegionOpenPlain
import Derived.Lib.Join
import Derived.Lib.Bytealg
import Derived.Lib.ItoaNum
import Derived.Lib.ParseIntBCases
import Derived.Lib.AppendIntMem
import Derived.Lib.AtoiErrMem
import Derived.Test.YtcjbfnojhpfchaaGreatDoorShelf
set_option linter.all false
namespace Go.Ab
abbrev al7(x:Int):Int:=IntKind.i64.wrap x
abbrev al8{α:Type}[Inhabited α](l:List α)(i:Int):α:=l.getD i.toNat default
abbrev al9:=Option Bool
abbrev al':=Option Int
abbrev V.al_(x:Int):V:=.int .i64 x
end Go.Ab
namespace Go.Ab.Y
open Go Go.Proofs
def mf(c:UInt8):Bool:=decide ((97≤c.toNat∧c.toNat≤122)∨(48≤c.toNat∧c.toNat≤57)∨c.toNat=95)
def lP(s:al5):Nat:=(s.takeWhile mf).length
def IU{s:al5}{k:Nat}(hk:k≤s.length)(h:∀(j:Nat) c,j<k→s[j]? = some c→mf c=true)(he:∀c,s[k]? = some c→mf c=false):lP s=k:=by
 unfold lP;induction s generalizing k with
 |nil=>simp at hk ⊢;omega
 |cons c s a7=>
  cases k with
  |zero=>
   have:=he c rfl
   simp [List.takeWhile,this]
  |succ k=>
   have h0:=h 0 c (by omega) rfl
   simp only [List.takeWhile,h0,List.length_cons];rw [a7 (by simpa using hk) (λj c hj hc=>h (j+1) c (by omega) (by simpa using hc)) (λc hc=>he c (by simpa using hc))]
def IV(s:ByteArray)(k:Nat)(h:k<s.size):s.data.toList[k]? = some (s[k]'h):=by
 have:k<s.data.toList.length:=by simpa using h
 rw [List.getElem?_eq_getElem this];rfl
def CQ(s:ByteArray)(k:Nat):Prop:=∀(j:Nat) c,j<k→s.data.toList[j]? = some c→mf c=true
def CQ.succ{s:ByteArray}{k:Nat}(h:CQ s k)(hk:k<s.size)(hc:mf (s[k]'hk)=true):CQ s (k+1):=by
 intro j c hj ji;by_cases e:j=k
 ·subst e;rw [IV s j hk]at ji;cases ji;exact hc
 ·exact h j c (by omega) ji
set_option maxRecDepth 100000 in
def ack(s:ByteArray)(w:World)(hs:s.size≤140737488351232):
 Calls Tryz.prog 174 #[.string s] w λe w'=>e = .returned (.int .i64 (lP s.data.toList))∧∃pos,w'=w.iter s pos:=by
 go_enter Tryz.func174,Tryz.ntmps174
 go_wp2
 go_loopw [] (λw'=>∃k:Nat,w'=w.iter s k∧k≤s.size∧CQ s k) (λw'=>s.size-w'.iterPos w.heap.size)
 case atStart=>exact⟨0,rfl,by omega,λj c hj=>by omega⟩
 case round=>
  obtain⟨k,rfl,hk,hin⟩:=hrel;by_cases hp:k<s.size
  ·by_cases ha:(s[k]'hp).toNat<128
   ·have hnx:∀ty,(Instr.next (.pointer (some ⟨w.heap.size,0,none⟩)) true ty).run Tryz.prog (w.iter s k)=_:=λty=>run_next_ascii w s k ty hp ha
    cases hw:mf (s[k]'hp)
    ·have hlen:=IU (s:=s.data.toList) (k:=k) (by simpa using hk) hin (λc hc=>by rw [IV s k hp]at hc;cases hc;exact hw)
     have hc:=of_decide_eq_false hw;clear hw
     go_wp2
     all_goals first
      |(exfalso;simp at *;omega)
      |(go_ret;exact⟨by first |rfl |(rw [hlen];rfl),_,rfl⟩)
    ·have hc:=of_decide_eq_true hw;have hin2:=hin.succ hp hw;clear hw hin
     go_wp2
     all_goals first
      |(exfalso;simp at *;omega)
      |(
       go_roundw
       case rel=>exact⟨k+1,rfl,hp,hin2⟩
       case measure=>simp;omega)
   ·have hnx:∀ty,(Instr.next (.pointer (some ⟨w.heap.size,0,none⟩)) true ty).run Tryz.prog (w.iter s k)=_:=λty=>run_next_any w s k ty hp
    have hd:=(decode_high s k hp (by omega)).1
    have hle:=decode_le s k
    have hlen:=IU (s:=s.data.toList) (k:=k) (by simpa using hk) hin (λc hc=>by
     rw [IV s k hp]at hc;cases hc;exact decide_eq_false (by omega))
    generalize Utf8.decode s k=d at hnx hd hle
    go_wp2
    all_goals first
     |(exfalso;simp at *;omega)
     |(go_ret;exact⟨by first |rfl |(rw [hlen];rfl),_,rfl⟩)
  ·have hnx:∀ty,(Instr.next (.pointer (some ⟨w.heap.size,0,none⟩)) true ty).run Tryz.prog (w.iter s k)=_:=λty=>run_next_end w s k ty hp
   have hlen:=IU (s:=s.data.toList) (k:=k) (by simpa using hk) hin (λc hc=>by
    have:=(List.getElem?_eq_some_iff.1 hc).1
    simp at this;omega)
   obtain rfl:k=s.size:=by omega
   go_wp2
   go_ret
   exact⟨by first|rfl|(rw [hlen];rfl),_,rfl⟩
open Go Go.Proofs Go.RowKit
def R0:(Tryz.prog.info? 120).map (·.size)=some 2:=by kernel_rfl
set_option maxHeartbeats 1000000 in
set_option maxRecDepth 100000 in
def R1(b:Nat)(w:World)(h0:w.cell? ⟨b,0,none⟩=some (.pointer (some ⟨b,0,none⟩))):
 Calls Tryz.prog 113 #[.pointer (some ⟨b,0,none⟩)] w λe w'=>e = .returned (.tuple #[])∧w'=w:=by
 obtain⟨j,hj,_⟩:=Option.map_eq_some_iff.1 R0
 go_enter Tryz.func113,Tryz.ntmps113
 go_wp2
 rw [Lib.run_neq_ptr_same w _ Tryz.underlying117 hj]
 go_wp2
 go_end0
 exact⟨rfl,rfl⟩
set_option maxHeartbeats 1000000 in
set_option maxRecDepth 100000 in
def R2(b:Nat)(w:World)(T:TypeId)(k:Nat)(h0:w.cell? ⟨b,0,none⟩=some (.pointer none))(hsh:w.shape? b=some (T,k))(hk:0<k)(hlies:liesAt Tryz.prog Tryz.prog.depth T (k / Tryz.prog.cellsOf T) 0 120 1=true)(hfz:w.frozen? ⟨b,0,none⟩=false):
 Calls Tryz.prog 113 #[.pointer (some ⟨b,0,none⟩)] w λe w'=>e = .returned (.tuple #[])∧w'=w.setCell ⟨b,0,none⟩ (.pointer (some ⟨b,0,none⟩)):=by
 obtain⟨j,hj,hjs⟩:=Option.map_eq_some_iff.1 R0
 go_enter Tryz.func113,Tryz.ntmps113
 go_wp2
 rw [Lib.run_to_unsafe w ⟨b,0,none⟩ Tryz.underlying117 Tryz.underlying256 hj (by rw [hjs];decide) hsh hk]
 simp only [Result.andThen];rw [Oper.upon_value]
 go_wp2
 rw [run_callFunc_extern Tryz.func184 (by kernel_rfl) (by kernel_rfl) (by kernel_rfl) (e:=Extern.AbiNoEscape.same) (by kernel_rfl)]
 rw [Lib.run_noEscape];simp only [Result.andThen];rw [Oper.upon_value]
 go_wp2
 rw [Lib.run_from_unsafe w ⟨b,0,none⟩ Tryz.underlying256 Tryz.underlying117 hj hsh hlies];simp only [Result.andThen];rw [Oper.upon_value]
 go_wp2
 go_end0
 exact⟨rfl,rfl⟩
def cellsByte:Tryz.prog.cellsOf 5=1:=by kernel_rfl
set_option maxHeartbeats 2000000 in
set_option maxRecDepth 100000 in
def R3(b:Nat)(w:World)(h:w.cell? ⟨b,1,none⟩=some (.slice none 0 0)):
 Calls Tryz.prog 66 #[.pointer (some ⟨b,0,none⟩)] w λe w'=>e = .returned (.string ⟨#[]⟩)∧w'=w.drew:=by
 have hUS:(Builtin.unsafeString_ #[191,3] 9 #[.pointer none,.int .i64 0]).run Tryz.prog w.drew = .ok (.string .empty) w.drew:=Lib.run_unsafeString_none w.drew _ _ _ none;have c1:w.drew.cell? ⟨b,1,none⟩=some (.slice none 0 0):=h;have hSD:(Builtin.unsafeSliceData_ #[118] 191 #[.slice none 0 0]).run Tryz.prog w.drew = .ok (.pointer none) w.drew:=rfl;have mixed:Tryz.prog.follows .mixedOrders=true:=by kernel_rfl
 go_enter Tryz.func66,Tryz.ntmps66
 go_wp2
 go_region_o
 all_goals (go_wp2;go_ret;exact⟨rfl,rfl⟩)
set_option maxHeartbeats 2000000 in
set_option maxRecDepth 100000 in
def R4(b g cap:Nat)(w:World)(hc0:cap≠0)(h:w.cell? ⟨b,1,none⟩=some (.slice (some ⟨g,0,none⟩) 0 cap)):
 Calls Tryz.prog 66 #[.pointer (some ⟨b,0,none⟩)] w λe w'=>e = .returned (.string ⟨#[]⟩)∧w'=w.drew:=by
 have hUS:(Builtin.unsafeString_ #[191,3] 9 #[.pointer (some ⟨g,0,none⟩),.int .i64 0]).run Tryz.prog w.drew = .ok (.string .empty) w.drew:=Lib.run_unsafeString_none w.drew _ _ _ _;have c1:w.drew.cell? ⟨b,1,none⟩=some (.slice (some ⟨g,0,none⟩) 0 cap):=h;have hSD:(Builtin.unsafeSliceData_ #[118] 191 #[.slice (some ⟨g,0,none⟩) 0 cap]).run Tryz.prog w.drew = .ok (.pointer (some ⟨g,0,none⟩)) w.drew:=Lib.run_unsafeSliceData_row _ _ _ _ _ _ hc0;clear hc0;have mixed:Tryz.prog.follows .mixedOrders=true:=by kernel_rfl
 go_enter Tryz.func66,Tryz.ntmps66
 go_wp2
 go_region_o
 all_goals (go_wp2;go_ret;exact⟨rfl,rfl⟩)
set_option maxHeartbeats 2000000 in
set_option maxRecDepth 100000 in
def R5(b g:Nat)(w:World)(vs:List Value)(h:w.cell? ⟨b,1,none⟩=some (.slice (some ⟨g,0,none⟩) 0 0))(hb:b<w.heap.size)(hg:w.heap[g]? = some (.cells ⟨vs⟩ 5 (0,0))):
 Calls Tryz.prog 66 #[.pointer (some ⟨b,0,none⟩)] w λe w'=>e = .returned (.string ⟨#[]⟩)∧w'=(w.drew.alloc (.view ⟨g,0,none⟩ 5)):=by
 have hUS:∀(q:Option Addr) (W:World),(Builtin.unsafeString_ #[191,3] 9 #[.pointer q,.int .i64 0]).run Tryz.prog W = .ok (.string .empty) W:=λq W=>Lib.run_unsafeString_none W _ _ _ q
 have c1:w.drew.cell? ⟨b,1,none⟩=some (.slice (some ⟨g,0,none⟩) 0 0):=h
 have hSD:(Builtin.unsafeSliceData_ #[118] 191 #[.slice (some ⟨g,0,none⟩) 0 0]).run Tryz.prog w.drew = .ok (.pointer (some ⟨w.drew.heap.size,0,none⟩)) (w.drew.alloc (.view ⟨g,0,none⟩ 5)):=
  Lib.run_unsafeSliceData_zero w.drew _ _ 5 Tryz.underlying191 ⟨g,0,none⟩ 0 (5,vs.length) (by have hg':w.drew.heap[g]? = some (.cells ⟨vs⟩ 5 (0,0)):=hg;simp [World.shape?,hg'])
 have c2:(w.drew.alloc (.view ⟨g,0,none⟩ 5)).cell? ⟨b,1,none⟩=some (.slice (some ⟨g,0,none⟩) 0 0):=by
  unfold World.cell? at h ⊢;rw [show(w.drew.alloc (.view ⟨g,0,none⟩ 5)).heap[b]? = w.heap[b]? from Lib.alloc_old w.drew _ b hb];exact h
 have c3:(w.alloc (.view ⟨g,0,none⟩ 5)).drew.cell? ⟨b,1,none⟩=some (.slice (some ⟨g,0,none⟩) 0 0):=c2;have mixed:Tryz.prog.follows .mixedOrders=true:=by kernel_rfl
 go_enter Tryz.func66,Tryz.ntmps66
 go_wp2
 go_region_o
 all_goals (go_wp2;go_ret;exact⟨rfl,rfl⟩)
set_option maxHeartbeats 2000000 in
set_option maxRecDepth 100000 in
def R6(b g cap:Nat)(w:World)(vs:List Value)(l:al5)(h0:l≠[])(h:w.cell? ⟨b,1,none⟩=some (.slice (some ⟨g,0,none⟩) l.length cap))(hg:w.heap[g]? = some (.cells ⟨vs⟩ 5 (0,0)))
 (hn:l.length≤cap) (hcap:cap≤vs.length) (h63:l.length≤9223372036854775807) (hc:∀(j:Nat) (x:UInt8),l[j]? = some x→vs[j]? = some (Value.int .u8 x.toNat)):
 Calls Tryz.prog 66 #[.pointer (some ⟨b,0,none⟩)] w λe w'=>e = .returned (.string ⟨l.toArray⟩)∧w'=w.drew.freeze ⟨g,0,none⟩ l.length:=by
 have hl0:l.length≠0:=by simpa using h0
 have c1:w.drew.cell? ⟨b,1,none⟩=some (.slice (some ⟨g,0,none⟩) l.length cap):=h;have hg':w.drew.heap[g]? = some (.cells ⟨vs⟩ 5 (0,0)):=hg;have hSD:(Builtin.unsafeSliceData_ #[118] 191 #[.slice (some ⟨g,0,none⟩) l.length cap]).run Tryz.prog w.drew = .ok (.pointer (some ⟨g,0,none⟩)) w.drew:=Lib.run_unsafeSliceData_row _ _ _ _ _ _ (by omega)
 have hUS:(Builtin.unsafeString_ #[191,3] 9 #[.pointer (some ⟨g,0,none⟩),.int .i64 l.length]).run Tryz.prog w.drew = .ok (.string ⟨l.toArray⟩) (w.drew.freeze ⟨g,0,none⟩ l.length):=
  Lib.run_unsafeString_row w.drew 191 3 9 5 Tryz.underlying191 cellsByte g vs.length (by simp [World.shape?,hg']) l h0 (by omega) h63 (λj x hx=>by
   have:=hc j x hx
   rw [show(⟨g,0,none⟩:Addr).add j=⟨g,j,none⟩by unfold Addr.add;split<;>simp_all,Go.Ab.cell_of_heap hg',this])
 have mixed:Tryz.prog.follows .mixedOrders=true:=by kernel_rfl
 go_enter Tryz.func66,Tryz.ntmps66
 go_wp2
 go_region_o
 all_goals (go_wp2;go_ret;exact⟨rfl,rfl⟩)
open Go Go.Ab Go.Proofs
abbrev akW(x:Int):V:=.int .i32 x
abbrev acl(x:Int):V:=.int .i64 x
abbrev akX(x:Int):V:=.int .u32 x
abbrev akY(x:Int):V:=.int .u64 x
abbrev cC(x:Int):V:=.int .u8 x
def akZ{α β du:Type}{a:α}{f:α→du}{g:β→du}{r:du}(h:hA.on (.inl a) f g=r):f a=r:=h
def ak0{α β du:Type}{b:β}{f:α→du}{g:β→du}{r:du}(h:hA.on (.inr b) f g=r):g b=r:=h
abbrev ak1(x:Bool):V:=.bool x
abbrev bv(x:al5):V:=.str x
structure bw where
 Kind:Int
 N:Int
 S:al5
instance:Inhabited bw:=⟨⟨0,0,([]:al5)⟩⟩
def dy(x:bw):V:=.agg [.int .i64 x.Kind,.int .i64 x.N,.str x.S]
structure Version where
 fe:Int
 b7:bw
instance:Inhabited Version:=⟨⟨0,(⟨0,0,([]:al5)⟩:bw)⟩⟩
def hC(x:Version):V:=.agg [.int .i64 x.fe,.int .i64 x.b7.Kind,.int .i64 x.b7.N,.str x.b7.S]
structure Row where
 Key:al5
 bl:List Version
instance:Inhabited Row:=⟨⟨([]:al5),([]:List Version)⟩⟩
def cQ(x:Row):V:=.agg [.str x.Key,ai 4 hC x.bl]
structure aG where
 cq:Int
 b0:Int
 Rows:List Row
instance:Inhabited aG:=⟨⟨0,0,([]:List Row)⟩⟩
def acm(x:aG):V:=.agg [.int .i64 x.cq,.int .i64 x.b0,ai 2 cQ x.Rows]
structure Param where
 Name:al5
 fy:Int
instance:Inhabited Param:=⟨⟨([]:al5),0⟩⟩
def dR(x:Param):V:=.agg [.str x.Name,.int .i64 x.fy]
structure Expr where
 Op:Int
 N:Int
 S:al5
 au:List Expr
instance:Inhabited Expr:=⟨⟨0,0,([]:al5),([]:List Expr)⟩⟩
mutual
def bT:Expr→V
 |⟨Op,N,S,au⟩=>.agg [.int .i64 Op,.int .i64 N,.str S,.bD 4 au.length λi=>(yG au).getD i .en]
def yG:List Expr→List V
 |[]=>[]
 |x::l=>bT x::yG l
end
def R7:∀l:List Expr,yG l=l.map bT
 |[]=>rfl
 |x::l=>by rw [yG,R7 l];rfl
def R8(l:List Expr)(i:Nat)(h:i<l.length):(yG l).getD i .en=bT (l.getD i default):=by
 rw [R7];simp [List.getD,List.getElem?_eq_getElem h]
def IW(x:Expr):jD (bT x).cells [.int .i64 x.Op,.int .i64 x.N,.str x.S,ai 4 bT x.au]:=by
 cases x;exact .cons (hh _) (.cons (hh _) (.cons (hh _) (.cons (po λi hi=>R8 _ i hi) (jD.nil))))
def yH(x:Expr):jD [.int .i64 x.Op,.int .i64 x.N,.str x.S,ai 4 bT x.au] (bT x).cells:=by
 cases x;exact .cons (hh _) (.cons (hh _) (.cons (hh _) (.cons (po λi hi=>(R8 _ i hi).symm) (jD.nil))))
def ft(x:Expr):gC (bT x) (.agg [.int .i64 x.Op,.int .i64 x.N,.str x.S,ai 4 bT x.au]):=by
 have h:=IW x;cases x;exact Q' h
structure Stmt where
 Op:Int
 Name:al5
 Max:Int
 A:Expr
 B:Expr
 Body:List Stmt
 bN:List Stmt
instance:Inhabited Stmt:=⟨⟨0,([]:al5),0,(⟨0,0,([]:al5),([]:List Expr)⟩:Expr),(⟨0,0,([]:al5),([]:List Expr)⟩:Expr),([]:List Stmt),([]:List Stmt)⟩⟩
mutual
def bO:Stmt→V
 |⟨Op,Name,Max,A,B,Body,bN⟩=>.agg [.int .i64 Op,.str Name,.int .i64 Max,.int .i64 A.Op,.int .i64 A.N,.str A.S,ai 4 bT A.au,.int .i64 B.Op,.int .i64 B.N,.str B.S,ai 4 bT B.au,.bD 13 Body.length λi=>(vm Body).getD i .en,.bD 13 bN.length λi=>(vm bN).getD i .en]
def vm:List Stmt→List V
 |[]=>[]
 |x::l=>bO x::vm l
end
def R9:∀l:List Stmt,vm l=l.map bO
 |[]=>rfl
 |x::l=>by rw [vm,R9 l];rfl
def CR(l:List Stmt)(i:Nat)(h:i<l.length):(vm l).getD i .en=bO (l.getD i default):=by
 rw [R9];simp [List.getD,List.getElem?_eq_getElem h]
def acn(x:Stmt):jD (bO x).cells [.int .i64 x.Op,.str x.Name,.int .i64 x.Max,.int .i64 x.A.Op,.int .i64 x.A.N,.str x.A.S,ai 4 bT x.A.au,.int .i64 x.B.Op,.int .i64 x.B.N,.str x.B.S,ai 4 bT x.B.au,ai 13 bO x.Body,ai 13 bO x.bN]:=by
 cases x;exact .cons (hh _) (.cons (hh _) (.cons (hh _) (.cons (hh _) (.cons (hh _) (.cons (hh _) (.cons (hh _) (.cons (hh _) (.cons (hh _) (.cons (hh _) (.cons (hh _) (.cons (po λi hi=>CR _ i hi) (.cons (po λi hi=>CR _ i hi) (jD.nil)))))))))))))
def R'(x:Stmt):jD [.int .i64 x.Op,.str x.Name,.int .i64 x.Max,.int .i64 x.A.Op,.int .i64 x.A.N,.str x.A.S,ai 4 bT x.A.au,.int .i64 x.B.Op,.int .i64 x.B.N,.str x.B.S,ai 4 bT x.B.au,ai 13 bO x.Body,ai 13 bO x.bN] (bO x).cells:=by
 cases x;exact .cons (hh _) (.cons (hh _) (.cons (hh _) (.cons (hh _) (.cons (hh _) (.cons (hh _) (.cons (hh _) (.cons (hh _) (.cons (hh _) (.cons (hh _) (.cons (hh _) (.cons (po λi hi=>(CR _ i hi).symm) (.cons (po λi hi=>(CR _ i hi).symm) (jD.nil)))))))))))))
def gc(x:Stmt):gC (bO x) (.agg [.int .i64 x.Op,.str x.Name,.int .i64 x.Max,.int .i64 x.A.Op,.int .i64 x.A.N,.str x.A.S,ai 4 bT x.A.au,.int .i64 x.B.Op,.int .i64 x.B.N,.str x.B.S,ai 4 bT x.B.au,ai 13 bO x.Body,ai 13 bO x.bN]):=by
 have h:=acn x;cases x;exact Q' h
structure be where
 Name:al5
 Params:List Param
 Body:List Stmt
instance:Inhabited be:=⟨⟨([]:al5),([]:List Param),([]:List Stmt)⟩⟩
def dN(x:be):V:=.agg [.str x.Name,ai 2 dR x.Params,ai 13 bO x.Body]
structure Outcome where
 Status:Int
 Code:Int
 Out:List bw
instance:Inhabited Outcome:=⟨⟨0,0,([]:List bw)⟩⟩
def aco(x:Outcome):V:=.agg [.int .i64 x.Status,.int .i64 x.Code,ai 3 dy x.Out]
structure es where
 Client:Int
 Seq:Int
 Outcome:Outcome
instance:Inhabited es:=⟨⟨0,0,(⟨0,0,([]:List bw)⟩:Outcome)⟩⟩
def hD(x:es):V:=.agg [.int .i64 x.Client,.int .i64 x.Seq,.int .i64 x.Outcome.Status,.int .i64 x.Outcome.Code,ai 3 dy x.Outcome.Out]
structure bI where
 Client:Int
 Next:Int
 bG:List es
instance:Inhabited bI:=⟨⟨0,0,([]:List es)⟩⟩
def c6(x:bI):V:=.agg [.int .i64 x.Client,.int .i64 x.Next,ai 5 hD x.bG]
structure Part where
 Id:Int
 dS:al5
 Node:Int
 ff:Int
 gd:al5
instance:Inhabited Part:=⟨⟨0,([]:al5),0,0,([]:al5)⟩⟩
def cI(x:Part):V:=.agg [.int .i64 x.Id,.str x.dS,.int .i64 x.Node,.int .i64 x.ff,.str x.gd]
structure cd where
 Version:Int
 aD:List Part
instance:Inhabited cd:=⟨⟨0,([]:List Part)⟩⟩
def acp(x:cd):V:=.agg [.int .i64 x.Version,ai 5 cI x.aD]
structure bj where
 Key:al5
 Count:Int
instance:Inhabited bj:=⟨⟨([]:al5),0⟩⟩
def dA(x:bj):V:=.agg [.str x.Key,.int .i64 x.Count]
structure eP where
 dI:Bool
 Reads:List al5
 b_:List al5
instance:Inhabited eP:=⟨⟨false,([]:List al5),([]:List al5)⟩⟩
def acq(x:eP):V:=.agg [.bool x.dI,ai 1 bv x.Reads,ai 1 bv x.b_]
structure Request where
 Client:Int
 Seq:Int
 be:al5
 au:List bw
 dO:Bool
 bi:eP
instance:Inhabited Request:=⟨⟨0,0,([]:al5),([]:List bw),false,(⟨false,([]:List al5),([]:List al5)⟩:eP)⟩⟩
def dT(x:Request):V:=.agg [.int .i64 x.Client,.int .i64 x.Seq,.str x.be,ai 3 dy x.au,.bool x.dO,.bool x.bi.dI,ai 1 bv x.bi.Reads,ai 1 bv x.bi.b_]
structure cb where
 Pos:Int
 aG:aG
 cf:List be
 cR:List bI
 Place:cd
 bj:List bj
 Queue:List Request
 dj:Int
instance:Inhabited cb:=⟨⟨0,(⟨0,0,([]:List Row)⟩:aG),([]:List be),([]:List bI),(⟨0,([]:List Part)⟩:cd),([]:List bj),([]:List Request),0⟩⟩
def R_(x:cb):V:=.agg [.int .i64 x.Pos,.int .i64 x.aG.cq,.int .i64 x.aG.b0,ai 2 cQ x.aG.Rows,ai 3 dN x.cf,ai 3 c6 x.cR,.int .i64 x.Place.Version,ai 5 cI x.Place.aD,ai 2 dA x.bj,ai 8 dT x.Queue,.int .u64 x.dj]
structure bE where
 Key:al5
 b7:bw
instance:Inhabited bE:=⟨⟨([]:al5),(⟨0,0,([]:al5)⟩:bw)⟩⟩
def eF(x:bE):V:=.agg [.str x.Key,.int .i64 x.b7.Kind,.int .i64 x.b7.N,.str x.b7.S]
structure fY where
 s:al5
 at_:Int
 e:Int
instance:Inhabited fY:=⟨⟨([]:al5),0,0⟩⟩
def ak2(x:fY):V:=.agg [.str x.s,.int .i64 x.at_,.int .i64 x.e]
structure nD where
 fL:cb
 IX:List bE
 sources:List al5
instance:Inhabited nD:=⟨⟨(⟨0,(⟨0,0,([]:List Row)⟩:aG),([]:List be),([]:List bI),(⟨0,([]:List Part)⟩:cd),([]:List bj),([]:List Request),0⟩:cb),([]:List bE),([]:List al5)⟩⟩
def ak3(x:nD):V:=.agg [.int .i64 x.fL.Pos,.int .i64 x.fL.aG.cq,.int .i64 x.fL.aG.b0,ai 2 cQ x.fL.aG.Rows,ai 3 dN x.fL.cf,ai 3 c6 x.fL.cR,.int .i64 x.fL.Place.Version,ai 5 cI x.fL.Place.aD,ai 2 dA x.fL.bj,ai 8 dT x.fL.Queue,.int .u64 x.fL.dj,ai 4 eF x.IX,ai 1 bv x.sources]
structure Token where
 Kind:Int
 Text:al5
 N:Int
 lQ:Int
instance:Inhabited Token:=⟨⟨0,([]:al5),0,0⟩⟩
def cL(x:Token):V:=.agg [.int .i64 x.Kind,.str x.Text,.int .i64 x.N,.int .i64 x.lQ]
structure Sa where
 acr:Int
 seq:Int
instance:Inhabited Sa:=⟨⟨0,0⟩⟩
def ak4(x:Sa):V:=.agg [.int .i64 x.acr,.int .i64 x.seq]
structure cn where
 ow:Bool
 Stmt:Stmt
 yI:Int
 Expr:Expr
 acs:Bool
instance:Inhabited cn:=⟨⟨false,(⟨0,([]:al5),0,(⟨0,0,([]:al5),([]:List Expr)⟩:Expr),(⟨0,0,([]:al5),([]:List Expr)⟩:Expr),([]:List Stmt),([]:List Stmt)⟩:Stmt),0,(⟨0,0,([]:al5),([]:List Expr)⟩:Expr),false⟩⟩
def iv(x:cn):V:=.agg [.bool x.ow,.int .i64 x.Stmt.Op,.str x.Stmt.Name,.int .i64 x.Stmt.Max,.int .i64 x.Stmt.A.Op,.int .i64 x.Stmt.A.N,.str x.Stmt.A.S,ai 4 bT x.Stmt.A.au,.int .i64 x.Stmt.B.Op,.int .i64 x.Stmt.B.N,.str x.Stmt.B.S,ai 4 bT x.Stmt.B.au,ai 13 bO x.Stmt.Body,ai 13 bO x.Stmt.bN,.int .i64 x.yI,.int .i64 x.Expr.Op,.int .i64 x.Expr.N,.str x.Expr.S,ai 4 bT x.Expr.au,.bool x.acs]
structure aX where
 tokens:List Token
 at_:Int
instance:Inhabited aX:=⟨⟨([]:List Token),0⟩⟩
def ak5(x:aX):V:=.agg [ai 4 cL x.tokens,.int .i64 x.at_]
structure Sb where
 line:Int
 code:Int
instance:Inhabited Sb:=⟨⟨0,0⟩⟩
def ak6(x:Sb):V:=.agg [.int .i64 x.line,.int .i64 x.code]
structure ka where
 s:al5
 at_:Int
 e:Int
instance:Inhabited ka:=⟨⟨([]:al5),0,0⟩⟩
def ak7(x:ka):V:=.agg [.str x.s,.int .i64 x.at_,.int .i64 x.e]
structure nE where
 s:al5
 at_:Int
 e:Int
instance:Inhabited nE:=⟨⟨([]:al5),0,0⟩⟩
def ak8(x:nE):V:=.agg [.str x.s,.int .i64 x.at_,.int .i64 x.e]
structure kb where
 name:Bool
 a:Bool
 b:Bool
 max:Bool
 body:Bool
 other:Bool
instance:Inhabited kb:=⟨⟨false,false,false,false,false,false⟩⟩
def ak9(x:kb):V:=.agg [.bool x.name,.bool x.a,.bool x.b,.bool x.max,.bool x.body,.bool x.other]
structure ho where
 s:al5
 at_:Int
 e:Int
instance:Inhabited ho:=⟨⟨([]:al5),0,0⟩⟩
def ak'(x:ho):V:=.agg [.str x.s,.int .i64 x.at_,.int .i64 x.e]
def tt:dw:=[
 (1,⟨.a8,1,8,[.aR],[]⟩),
 (2,⟨.int .i64,1,8,[.int .i64 0],[]⟩),
 (3,⟨.int .i64,1,8,[.int .i64 0],[]⟩),
 (4,⟨.bool,1,1,[.bool false],[]⟩),
 (5,⟨.int .u8,1,1,[.int .u8 0],[]⟩),
 (6,⟨.int .u8,1,1,[.int .u8 0],[]⟩),
 (7,⟨.bZ [(0,2,1),(1,3,1),(2,4,1),(3,6,1)],4,24,[.int .i64 0,.int .i64 0,.bool false,.int .u8 0],[]⟩),
 (8,⟨.bZ [(0,2,1),(1,3,1),(2,4,1),(3,6,1)],4,24,[.int .i64 0,.int .i64 0,.bool false,.int .u8 0],[]⟩),
 (9,⟨.str,1,16,[.str ([]:al5)],[]⟩),
 (10,⟨.str,1,16,[.str ([]:al5)],[]⟩),
 (11,⟨.str,1,16,[.str ([]:al5)],[]⟩),
 (12,⟨.int .u64,1,8,[.int .u64 0],[]⟩),
 (13,⟨.bZ [(0,9,1),(1,12,1)],2,24,[.str ([]:al5),.int .u64 0],[]⟩),
 (14,⟨.bZ [(0,9,1),(1,12,1)],2,24,[.str ([]:al5),.int .u64 0],[]⟩),
 (15,⟨.ptr,1,8,[.en],[]⟩),
 (16,⟨.ptr,1,8,[.en],[]⟩),
 (17,⟨.ptr,1,8,[.en],[]⟩),
 (18,⟨.bZ [(0,17,1)],1,8,[.en],[]⟩),
 (19,⟨.bZ [(0,17,1)],1,8,[.en],[]⟩),
 (20,⟨.nk,1,16,[.hI],[]⟩),
 (21,⟨.int .i32,1,4,[.int .i32 0],[]⟩),
 (22,⟨.bD 68,1,24,[ai 2 cQ ([]:List Row)],[]⟩),
 (23,⟨.bZ [(0,2,1),(1,2,1),(2,22,1)],3,40,[.int .i64 0,.int .i64 0,ai 2 cQ ([]:List Row)],[]⟩),
 (24,⟨.bZ [(0,2,1),(1,2,1),(2,22,1)],3,40,[.int .i64 0,.int .i64 0,ai 2 cQ ([]:List Row)],[]⟩),
 (25,⟨.bD 52,1,24,[ai 3 dN ([]:List be)],[]⟩),
 (26,⟨.bD 101,1,24,[ai 3 c6 ([]:List bI)],[]⟩),
 (27,⟨.bD 61,1,24,[ai 5 cI ([]:List Part)],[]⟩),
 (28,⟨.bZ [(0,2,1),(1,27,1)],2,32,[.int .i64 0,ai 5 cI ([]:List Part)],[]⟩),
 (29,⟨.bZ [(0,2,1),(1,27,1)],2,32,[.int .i64 0,ai 5 cI ([]:List Part)],[]⟩),
 (30,⟨.bD 107,1,24,[ai 2 dA ([]:List bj)],[]⟩),
 (31,⟨.bD 59,1,24,[ai 8 dT ([]:List Request)],[]⟩),
 (32,⟨.int .u64,1,8,[.int .u64 0],[]⟩),
 (33,⟨.bZ [(0,2,1),(1,24,3),(4,25,1),(5,26,1),(6,29,2),(8,30,1),(9,31,1),(10,32,1)],11,184,[.int .i64 0,.int .i64 0,.int .i64 0,ai 2 cQ ([]:List Row),ai 3 dN ([]:List be),ai 3 c6 ([]:List bI),.int .i64 0,ai 5 cI ([]:List Part),ai 2 dA ([]:List bj),ai 8 dT ([]:List Request),.int .u64 0],[]⟩),
 (34,⟨.bZ [(0,2,1),(1,24,3),(4,25,1),(5,26,1),(6,29,2),(8,30,1),(9,31,1),(10,32,1)],11,184,[.int .i64 0,.int .i64 0,.int .i64 0,ai 2 cQ ([]:List Row),ai 3 dN ([]:List be),ai 3 c6 ([]:List bI),.int .i64 0,ai 5 cI ([]:List Part),ai 2 dA ([]:List bj),ai 8 dT ([]:List Request),.int .u64 0],[]⟩),
 (35,⟨.a8,1,8,[.aR],[]⟩),
 (36,⟨.a8,1,8,[.aR],[]⟩),
 (37,⟨.int .i64,1,8,[.int .i64 0],[]⟩),
 (39,⟨.a8,1,8,[.aR],[]⟩),
 (41,⟨.a8,1,8,[.aR],[]⟩),
 (42,⟨.a8,1,8,[.aR],[]⟩),
 (43,⟨.a8,1,8,[.aR],[]⟩),
 (44,⟨.a8,1,8,[.aR],[]⟩),
 (45,⟨.a8,1,8,[.aR],[]⟩),
 (46,⟨.a8,1,8,[.aR],[]⟩),
 (47,⟨.a8,1,8,[.aR],[]⟩),
 (48,⟨.a8,1,8,[.aR],[]⟩),
 (49,⟨.bD 109,1,24,[ai 2 dR ([]:List Param)],[]⟩),
 (50,⟨.bD 167,1,24,[ai 13 bO ([]:List Stmt)],[]⟩),
 (51,⟨.bZ [(0,9,1),(1,49,1),(2,50,1)],3,64,[.str ([]:al5),ai 2 dR ([]:List Param),ai 13 bO ([]:List Stmt)],[]⟩),
 (52,⟨.bZ [(0,9,1),(1,49,1),(2,50,1)],3,64,[.str ([]:al5),ai 2 dR ([]:List Param),ai 13 bO ([]:List Stmt)],[]⟩),
 (53,⟨.a8,1,8,[.aR],[]⟩),
 (54,⟨.bD 63,1,24,[ai 3 dy ([]:List bw)],[]⟩),
 (55,⟨.bD 9,1,24,[ai 1 bv ([]:List al5)],[]⟩),
 (56,⟨.bZ [(0,4,1),(1,55,1),(2,55,1)],3,56,[.bool false,ai 1 bv ([]:List al5),ai 1 bv ([]:List al5)],[]⟩),
 (57,⟨.bZ [(0,4,1),(1,55,1),(2,55,1)],3,56,[.bool false,ai 1 bv ([]:List al5),ai 1 bv ([]:List al5)],[]⟩),
 (58,⟨.bZ [(0,3,1),(1,2,1),(2,9,1),(3,54,1),(4,4,1),(5,57,3)],8,120,[.int .i64 0,.int .i64 0,.str ([]:al5),ai 3 dy ([]:List bw),.bool false,.bool false,ai 1 bv ([]:List al5),ai 1 bv ([]:List al5)],[]⟩),
 (59,⟨.bZ [(0,3,1),(1,2,1),(2,9,1),(3,54,1),(4,4,1),(5,57,3)],8,120,[.int .i64 0,.int .i64 0,.str ([]:al5),ai 3 dy ([]:List bw),.bool false,.bool false,ai 1 bv ([]:List al5),ai 1 bv ([]:List al5)],[]⟩),
 (60,⟨.bZ [(0,3,1),(1,9,1),(2,3,1),(3,3,1),(4,9,1)],5,56,[.int .i64 0,.str ([]:al5),.int .i64 0,.int .i64 0,.str ([]:al5)],[]⟩),
 (61,⟨.bZ [(0,3,1),(1,9,1),(2,3,1),(3,3,1),(4,9,1)],5,56,[.int .i64 0,.str ([]:al5),.int .i64 0,.int .i64 0,.str ([]:al5)],[]⟩),
 (62,⟨.bZ [(0,3,1),(1,2,1),(2,9,1)],3,32,[.int .i64 0,.int .i64 0,.str ([]:al5)],[]⟩),
 (63,⟨.bZ [(0,3,1),(1,2,1),(2,9,1)],3,32,[.int .i64 0,.int .i64 0,.str ([]:al5)],[]⟩),
 (64,⟨.bZ [(0,2,1),(1,63,3)],4,40,[.int .i64 0,.int .i64 0,.int .i64 0,.str ([]:al5)],[]⟩),
 (65,⟨.bZ [(0,2,1),(1,63,3)],4,40,[.int .i64 0,.int .i64 0,.int .i64 0,.str ([]:al5)],[]⟩),
 (66,⟨.bD 65,1,24,[ai 4 hC ([]:List Version)],[]⟩),
 (67,⟨.bZ [(0,9,1),(1,66,1)],2,40,[.str ([]:al5),ai 4 hC ([]:List Version)],[]⟩),
 (68,⟨.bZ [(0,9,1),(1,66,1)],2,40,[.str ([]:al5),ai 4 hC ([]:List Version)],[]⟩),
 (69,⟨.a8,1,8,[.aR],[]⟩),
 (71,⟨.a8,1,8,[.aR],[]⟩),
 (72,⟨.bD 149,1,24,[ai 4 eF ([]:List bE)],[]⟩),
 (74,⟨.a8,1,8,[.aR],[]⟩),
 (76,⟨.a8,1,8,[.aR],[]⟩),
 (78,⟨.a8,1,8,[.aR],[]⟩),
 (80,⟨.a8,1,8,[.aR],[]⟩),
 (82,⟨.a8,1,8,[.aR],[]⟩),
 (84,⟨.a8,1,8,[.aR],[]⟩),
 (86,⟨.a8,1,8,[.aR],[]⟩),
 (88,⟨.a8,1,8,[.aR],[]⟩),
 (90,⟨.a8,1,8,[.aR],[]⟩),
 (91,⟨.a8,1,8,[.aR],[]⟩),
 (92,⟨.a8,1,8,[.aR],[]⟩),
 (93,⟨.a8,1,8,[.aR],[]⟩),
 (94,⟨.a8,1,8,[.aR],[]⟩),
 (95,⟨.a8,1,8,[.aR],[]⟩),
 (96,⟨.a8,1,8,[.aR],[]⟩),
 (98,⟨.a8,1,8,[.aR],[]⟩),
 (99,⟨.bD 105,1,24,[ai 5 hD ([]:List es)],[]⟩),
 (100,⟨.bZ [(0,3,1),(1,2,1),(2,99,1)],3,40,[.int .i64 0,.int .i64 0,ai 5 hD ([]:List es)],[]⟩),
 (101,⟨.bZ [(0,3,1),(1,2,1),(2,99,1)],3,40,[.int .i64 0,.int .i64 0,ai 5 hD ([]:List es)],[]⟩),
 (102,⟨.bZ [(0,3,1),(1,3,1),(2,54,1)],3,40,[.int .i64 0,.int .i64 0,ai 3 dy ([]:List bw)],[]⟩),
 (103,⟨.bZ [(0,3,1),(1,3,1),(2,54,1)],3,40,[.int .i64 0,.int .i64 0,ai 3 dy ([]:List bw)],[]⟩),
 (104,⟨.bZ [(0,3,1),(1,2,1),(2,103,3)],5,56,[.int .i64 0,.int .i64 0,.int .i64 0,.int .i64 0,ai 3 dy ([]:List bw)],[]⟩),
 (105,⟨.bZ [(0,3,1),(1,2,1),(2,103,3)],5,56,[.int .i64 0,.int .i64 0,.int .i64 0,.int .i64 0,ai 3 dy ([]:List bw)],[]⟩),
 (106,⟨.bZ [(0,9,1),(1,2,1)],2,24,[.str ([]:al5),.int .i64 0],[]⟩),
 (107,⟨.bZ [(0,9,1),(1,2,1)],2,24,[.str ([]:al5),.int .i64 0],[]⟩),
 (108,⟨.bZ [(0,9,1),(1,3,1)],2,24,[.str ([]:al5),.int .i64 0],[]⟩),
 (109,⟨.bZ [(0,9,1),(1,3,1)],2,24,[.str ([]:al5),.int .i64 0],[]⟩),
 (110,⟨.a8,1,8,[.aR],[]⟩),
 (111,⟨.a8,1,8,[.aR],[]⟩),
 (112,⟨.a8,1,8,[.aR],[]⟩),
 (113,⟨.a8,1,8,[.aR],[]⟩),
 (114,⟨.a8,1,8,[.aR],[]⟩),
 (115,⟨.a8,1,8,[.aR],[]⟩),
 (116,⟨.a8,1,8,[.aR],[]⟩),
 (117,⟨.ptr,1,8,[.en],[]⟩),
 (118,⟨.bD 5,1,24,[ai 1 cC ([]:List Int)],[]⟩),
 (119,⟨.bZ [(0,117,1),(1,118,1)],2,32,[.en,ai 1 cC ([]:List Int)],[]⟩),
 (120,⟨.bZ [(0,117,1),(1,118,1)],2,32,[.en,ai 1 cC ([]:List Int)],[(0,120)]⟩),
 (121,⟨.nk,1,16,[.hI],[]⟩),
 (122,⟨.nk,1,16,[.hI],[]⟩),
 (124,⟨.a8,1,8,[.aR],[]⟩),
 (125,⟨.a8,1,8,[.aR],[]⟩),
 (126,⟨.a8,1,8,[.aR],[]⟩),
 (127,⟨.a8,1,8,[.aR],[]⟩),
 (128,⟨.a8,1,8,[.aR],[]⟩),
 (129,⟨.a8,1,8,[.aR],[]⟩),
 (130,⟨.a8,1,8,[.aR],[]⟩),
 (131,⟨.a8,1,8,[.aR],[]⟩),
 (132,⟨.a8,1,8,[.aR],[]⟩),
 (133,⟨.a8,1,8,[.aR],[]⟩),
 (134,⟨.a8,1,8,[.aR],[]⟩),
 (135,⟨.ptr,1,8,[.en],[]⟩),
 (136,⟨.bZ [(0,9,1),(1,3,1),(2,37,1)],3,32,[.str ([]:al5),.int .i64 0,.int .i64 0],[]⟩),
 (137,⟨.bZ [(0,9,1),(1,3,1),(2,37,1)],3,32,[.str ([]:al5),.int .i64 0,.int .i64 0],[]⟩),
 (138,⟨.bZ [(0,34,11),(11,72,1),(12,55,1)],13,232,[.int .i64 0,.int .i64 0,.int .i64 0,ai 2 cQ ([]:List Row),ai 3 dN ([]:List be),ai 3 c6 ([]:List bI),.int .i64 0,ai 5 cI ([]:List Part),ai 2 dA ([]:List bj),ai 8 dT ([]:List Request),.int .u64 0,ai 4 eF ([]:List bE),ai 1 bv ([]:List al5)],[]⟩),
 (139,⟨.bZ [(0,34,11),(11,72,1),(12,55,1)],13,232,[.int .i64 0,.int .i64 0,.int .i64 0,ai 2 cQ ([]:List Row),ai 3 dN ([]:List be),ai 3 c6 ([]:List bI),.int .i64 0,ai 5 cI ([]:List Part),ai 2 dA ([]:List bj),ai 8 dT ([]:List Request),.int .u64 0,ai 4 eF ([]:List bE),ai 1 bv ([]:List al5)],[]⟩),
 (140,⟨.a8,1,8,[.aR],[]⟩),
 (141,⟨.a8,1,8,[.aR],[]⟩),
 (143,⟨.a8,1,8,[.aR],[]⟩),
 (145,⟨.a8,1,8,[.aR],[]⟩),
 (147,⟨.a8,1,8,[.aR],[]⟩),
 (148,⟨.bZ [(0,9,1),(1,63,3)],4,48,[.str ([]:al5),.int .i64 0,.int .i64 0,.str ([]:al5)],[]⟩),
 (149,⟨.bZ [(0,9,1),(1,63,3)],4,48,[.str ([]:al5),.int .i64 0,.int .i64 0,.str ([]:al5)],[]⟩),
 (150,⟨.a8,1,8,[.aR],[]⟩),
 (152,⟨.a8,1,8,[.aR],[]⟩),
 (154,⟨.a8,1,8,[.aR],[]⟩),
 (156,⟨.a8,1,8,[.aR],[]⟩),
 (158,⟨.a8,1,8,[.aR],[]⟩),
 (159,⟨.a8,1,8,[.aR],[]⟩),
 (160,⟨.a8,1,8,[.aR],[]⟩),
 (161,⟨.a8,1,8,[.aR],[]⟩),
 (162,⟨.a8,1,8,[.aR],[]⟩),
 (163,⟨.bD 165,1,24,[ai 4 bT ([]:List Expr)],[]⟩),
 (164,⟨.bZ [(0,3,1),(1,2,1),(2,9,1),(3,163,1)],4,56,[.int .i64 0,.int .i64 0,.str ([]:al5),ai 4 bT ([]:List Expr)],[]⟩),
 (165,⟨.bZ [(0,3,1),(1,2,1),(2,9,1),(3,163,1)],4,56,[.int .i64 0,.int .i64 0,.str ([]:al5),ai 4 bT ([]:List Expr)],[]⟩),
 (166,⟨.bZ [(0,3,1),(1,9,1),(2,3,1),(3,165,4),(7,165,4),(11,50,1),(12,50,1)],13,192,[.int .i64 0,.str ([]:al5),.int .i64 0,.int .i64 0,.int .i64 0,.str ([]:al5),ai 4 bT ([]:List Expr),.int .i64 0,.int .i64 0,.str ([]:al5),ai 4 bT ([]:List Expr),ai 13 bO ([]:List Stmt),ai 13 bO ([]:List Stmt)],[]⟩),
 (167,⟨.bZ [(0,3,1),(1,9,1),(2,3,1),(3,165,4),(7,165,4),(11,50,1),(12,50,1)],13,192,[.int .i64 0,.str ([]:al5),.int .i64 0,.int .i64 0,.int .i64 0,.str ([]:al5),ai 4 bT ([]:List Expr),.int .i64 0,.int .i64 0,.str ([]:al5),ai 4 bT ([]:List Expr),ai 13 bO ([]:List Stmt),ai 13 bO ([]:List Stmt)],[]⟩),
 (168,⟨.a8,1,8,[.aR],[]⟩),
 (169,⟨.a8,1,8,[.aR],[]⟩),
 (170,⟨.a8,1,8,[.aR],[]⟩),
 (171,⟨.a8,1,8,[.aR],[]⟩),
 (172,⟨.a8,1,8,[.aR],[]⟩),
 (173,⟨.a8,1,8,[.aR],[]⟩),
 (174,⟨.a8,1,8,[.aR],[]⟩),
 (175,⟨.a8,1,8,[.aR],[]⟩),
 (176,⟨.a8,1,8,[.aR],[]⟩),
 (177,⟨.a8,1,8,[.aR],[]⟩),
 (178,⟨.a8,1,8,[.aR],[]⟩),
 (179,⟨.int .u64,1,8,[.int .u64 0],[]⟩),
 (180,⟨.a8,1,8,[.aR],[]⟩),
 (181,⟨.a8,1,8,[.aR],[]⟩),
 (182,⟨.a8,1,8,[.aR],[]⟩),
 (183,⟨.a8,1,8,[.aR],[]⟩),
 (184,⟨.ptr,1,8,[.en],[]⟩),
 (185,⟨.bZ [(0,120,2),(2,3,1)],3,40,[.en,ai 1 cC ([]:List Int),.int .i64 0],[(0,120)]⟩),
 (186,⟨.bZ [(0,120,2),(2,3,1)],3,40,[.en,ai 1 cC ([]:List Int),.int .i64 0],[(0,120)]⟩),
 (187,⟨.a8,1,8,[.aR],[]⟩),
 (188,⟨.a8,1,8,[.aR],[]⟩),
 (189,⟨.a8,1,8,[.aR],[]⟩),
 (190,⟨.a8,1,8,[.aR],[]⟩),
 (191,⟨.ptr,1,8,[.en],[]⟩),
 (192,⟨.a8,1,8,[.aR],[]⟩),
 (193,⟨.a8,1,8,[.aR],[]⟩),
 (194,⟨.a8,1,8,[.aR],[]⟩),
 (195,⟨.a8,1,8,[.aR],[]⟩),
 (196,⟨.bZ [(0,71,1)],1,8,[.aR],[]⟩),
 (197,⟨.bZ [(0,71,1)],1,8,[.aR],[]⟩),
 (198,⟨.a8,1,8,[.aR],[]⟩),
 (199,⟨.bZ [(0,74,1)],1,8,[.aR],[]⟩),
 (200,⟨.bZ [(0,74,1)],1,8,[.aR],[]⟩),
 (201,⟨.a8,1,8,[.aR],[]⟩),
 (202,⟨.a8,1,8,[.aR],[]⟩),
 (203,⟨.bZ [(0,202,1)],1,8,[.aR],[]⟩),
 (204,⟨.bZ [(0,202,1)],1,8,[.aR],[]⟩),
 (205,⟨.a8,1,8,[.aR],[]⟩),
 (206,⟨.a8,1,8,[.aR],[]⟩),
 (207,⟨.a8,1,8,[.aR],[]⟩),
 (208,⟨.bZ [(0,207,1)],1,8,[.aR],[]⟩),
 (209,⟨.bZ [(0,207,1)],1,8,[.aR],[]⟩),
 (210,⟨.a8,1,8,[.aR],[]⟩),
 (211,⟨.a8,1,8,[.aR],[]⟩),
 (212,⟨.bZ [(0,78,1)],1,8,[.aR],[]⟩),
 (213,⟨.bZ [(0,78,1)],1,8,[.aR],[]⟩),
 (214,⟨.a8,1,8,[.aR],[]⟩),
 (215,⟨.bZ [(0,80,1)],1,8,[.aR],[]⟩),
 (216,⟨.bZ [(0,80,1)],1,8,[.aR],[]⟩),
 (217,⟨.a8,1,8,[.aR],[]⟩),
 (218,⟨.bZ [(0,84,1)],1,8,[.aR],[]⟩),
 (219,⟨.bZ [(0,84,1)],1,8,[.aR],[]⟩),
 (220,⟨.a8,1,8,[.aR],[]⟩),
 (221,⟨.bZ [(0,86,1)],1,8,[.aR],[]⟩),
 (222,⟨.bZ [(0,86,1)],1,8,[.aR],[]⟩),
 (223,⟨.a8,1,8,[.aR],[]⟩),
 (224,⟨.a8,1,8,[.aR],[]⟩),
 (225,⟨.a8,1,8,[.aR],[]⟩),
 (226,⟨.a8,1,8,[.aR],[]⟩),
 (228,⟨.a8,1,8,[.aR],[]⟩),
 (230,⟨.a8,1,8,[.aR],[]⟩),
 (232,⟨.a8,1,8,[.aR],[]⟩),
 (234,⟨.a8,1,8,[.aR],[]⟩),
 (235,⟨.bD 292,1,24,[ai 4 cL ([]:List Token)],[]⟩),
 (237,⟨.a8,1,8,[.aR],[]⟩),
 (238,⟨.a8,1,8,[.aR],[]⟩),
 (239,⟨.a8,1,8,[.aR],[]⟩),
 (240,⟨.a8,1,8,[.aR],[]⟩),
 (241,⟨.a8,1,8,[.aR],[]⟩),
 (242,⟨.a8,1,8,[.aR],[]⟩),
 (243,⟨.a8,1,8,[.aR],[]⟩),
 (244,⟨.a8,1,8,[.aR],[]⟩),
 (245,⟨.a8,1,8,[.aR],[]⟩),
 (246,⟨.a8,1,8,[.aR],[]⟩),
 (247,⟨.a8,1,8,[.aR],[]⟩),
 (248,⟨.a8,1,8,[.aR],[]⟩),
 (249,⟨.a8,1,8,[.aR],[]⟩),
 (250,⟨.bZ [(0,3,1),(1,2,1)],2,16,[.int .i64 0,.int .i64 0],[]⟩),
 (251,⟨.bZ [(0,3,1),(1,2,1)],2,16,[.int .i64 0,.int .i64 0],[]⟩),
 (252,⟨.a8,1,8,[.aR],[]⟩),
 (253,⟨.a8,1,8,[.aR],[]⟩),
 (254,⟨.a8,1,8,[.aR],[]⟩),
 (255,⟨.a8,1,8,[.aR],[]⟩),
 (257,⟨.a8,1,8,[.aR],[]⟩),
 (258,⟨.a8,1,8,[.aR],[]⟩),
 (259,⟨.a8,1,8,[.aR],[]⟩),
 (260,⟨.a8,1,8,[.aR],[]⟩),
 (261,⟨.a8,1,8,[.aR],[]⟩),
 (262,⟨.a8,1,8,[.aR],[]⟩),
 (263,⟨.a8,1,8,[.aR],[]⟩),
 (264,⟨.a8,1,8,[.aR],[]⟩),
 (265,⟨.a8,1,8,[.aR],[]⟩),
 (266,⟨.a8,1,8,[.aR],[]⟩),
 (267,⟨.a8,1,8,[.aR],[]⟩),
 (268,⟨.a8,1,8,[.aR],[]⟩),
 (269,⟨.bD 272,1,24,[ai 20 iv ([]:List cn)],[]⟩),
 (270,⟨.a8,1,8,[.aR],[]⟩),
 (271,⟨.bZ [(0,4,1),(1,167,13),(14,3,1),(15,165,4),(19,4,1)],20,272,[.bool false,.int .i64 0,.str ([]:al5),.int .i64 0,.int .i64 0,.int .i64 0,.str ([]:al5),ai 4 bT ([]:List Expr),.int .i64 0,.int .i64 0,.str ([]:al5),ai 4 bT ([]:List Expr),ai 13 bO ([]:List Stmt),ai 13 bO ([]:List Stmt),.int .i64 0,.int .i64 0,.int .i64 0,.str ([]:al5),ai 4 bT ([]:List Expr),.bool false],[]⟩),
 (272,⟨.bZ [(0,4,1),(1,167,13),(14,3,1),(15,165,4),(19,4,1)],20,272,[.bool false,.int .i64 0,.str ([]:al5),.int .i64 0,.int .i64 0,.int .i64 0,.str ([]:al5),ai 4 bT ([]:List Expr),.int .i64 0,.int .i64 0,.str ([]:al5),ai 4 bT ([]:List Expr),ai 13 bO ([]:List Stmt),ai 13 bO ([]:List Stmt),.int .i64 0,.int .i64 0,.int .i64 0,.str ([]:al5),ai 4 bT ([]:List Expr),.bool false],[]⟩),
 (273,⟨.a8,1,8,[.aR],[]⟩),
 (274,⟨.ptr,1,8,[.en],[]⟩),
 (275,⟨.bZ [(0,9,1),(1,3,1),(2,37,1)],3,32,[.str ([]:al5),.int .i64 0,.int .i64 0],[]⟩),
 (276,⟨.bZ [(0,9,1),(1,3,1),(2,37,1)],3,32,[.str ([]:al5),.int .i64 0,.int .i64 0],[]⟩),
 (277,⟨.a8,1,8,[.aR],[]⟩),
 (278,⟨.ptr,1,8,[.en],[]⟩),
 (279,⟨.bZ [(0,9,1),(1,3,1),(2,37,1)],3,32,[.str ([]:al5),.int .i64 0,.int .i64 0],[]⟩),
 (280,⟨.bZ [(0,9,1),(1,3,1),(2,37,1)],3,32,[.str ([]:al5),.int .i64 0,.int .i64 0],[]⟩),
 (281,⟨.a8,1,8,[.aR],[]⟩),
 (282,⟨.a8,1,8,[.aR],[]⟩),
 (284,⟨.a8,1,8,[.aR],[]⟩),
 (285,⟨.ptr,1,8,[.en],[]⟩),
 (286,⟨.a8,1,8,[.aR],[]⟩),
 (287,⟨.a8,1,8,[.aR],[]⟩),
 (288,⟨.a8,1,8,[.aR],[]⟩),
 (289,⟨.a8,1,8,[.aR],[]⟩),
 (290,⟨.a8,1,8,[.aR],[]⟩),
 (291,⟨.bZ [(0,3,1),(1,9,1),(2,2,1),(3,3,1)],4,40,[.int .i64 0,.str ([]:al5),.int .i64 0,.int .i64 0],[]⟩),
 (292,⟨.bZ [(0,3,1),(1,9,1),(2,2,1),(3,3,1)],4,40,[.int .i64 0,.str ([]:al5),.int .i64 0,.int .i64 0],[]⟩),
 (294,⟨.a8,1,8,[.aR],[]⟩),
 (295,⟨.a8,1,8,[.aR],[]⟩),
 (296,⟨.a8,1,8,[.aR],[]⟩),
 (298,⟨.a8,1,8,[.aR],[]⟩),
 (300,⟨.a8,1,8,[.aR],[]⟩),
 (301,⟨.a8,1,8,[.aR],[]⟩),
 (302,⟨.a8,1,8,[.aR],[]⟩),
 (303,⟨.a8,1,8,[.aR],[]⟩),
 (304,⟨.a8,1,8,[.aR],[]⟩),
 (305,⟨.ptr,1,8,[.en],[]⟩),
 (306,⟨.bZ [(0,3,1),(1,261,1),(2,262,1)],3,24,[.int .i64 0,.aR,.aR],[]⟩),
 (307,⟨.bZ [(0,3,1),(1,261,1),(2,262,1)],3,24,[.int .i64 0,.aR,.aR],[]⟩),
 (308,⟨.a8,1,8,[.aR],[]⟩),
 (309,⟨.bZ [(0,4,1),(1,4,1),(2,4,1),(3,4,1),(4,4,1),(5,4,1)],6,6,[.bool false,.bool false,.bool false,.bool false,.bool false,.bool false],[]⟩),
 (310,⟨.bZ [(0,4,1),(1,4,1),(2,4,1),(3,4,1),(4,4,1),(5,4,1)],6,6,[.bool false,.bool false,.bool false,.bool false,.bool false,.bool false],[]⟩),
 (312,⟨.a8,1,8,[.aR],[]⟩),
 (313,⟨.a8,1,8,[.aR],[]⟩),
 (314,⟨.a8,1,8,[.aR],[]⟩),
 (315,⟨.a8,1,8,[.aR],[]⟩),
 (316,⟨.a8,1,8,[.aR],[]⟩),
 (317,⟨.a8,1,8,[.aR],[]⟩),
 (319,⟨.a8,1,8,[.aR],[]⟩),
 (320,⟨.a8,1,8,[.aR],[]⟩),
 (321,⟨.a8,1,8,[.aR],[]⟩),
 (322,⟨.a8,1,8,[.aR],[]⟩),
 (323,⟨.a8,1,8,[.aR],[]⟩),
 (324,⟨.ptr,1,8,[.en],[]⟩),
 (325,⟨.bZ [(0,9,1),(1,3,1),(2,37,1)],3,32,[.str ([]:al5),.int .i64 0,.int .i64 0],[]⟩),
 (326,⟨.bZ [(0,9,1),(1,3,1),(2,37,1)],3,32,[.str ([]:al5),.int .i64 0,.int .i64 0],[]⟩),
 (327,⟨.a8,1,8,[.aR],[]⟩),
 (328,⟨.a8,1,8,[.aR],[]⟩),
 (329,⟨.a8,1,8,[.aR],[]⟩),
 (330,⟨.a8,1,8,[.aR],[]⟩),
 (331,⟨.bZ [(0,3,1),(1,37,1)],2,16,[.int .i64 0,.int .i64 0],[]⟩),
 (332,⟨.bZ [(0,3,1),(1,37,1)],2,16,[.int .i64 0,.int .i64 0],[]⟩),
 (334,⟨.bZ [(0,235,1),(1,3,1)],2,32,[ai 4 cL ([]:List Token),.int .i64 0],[]⟩),
 (335,⟨.bZ [(0,235,1),(1,3,1)],2,32,[ai 4 cL ([]:List Token),.int .i64 0],[]⟩),
 (336,⟨.a8,1,8,[.aR],[]⟩),
 (337,⟨.a8,1,8,[.aR],[]⟩),
 (338,⟨.a8,1,8,[.aR],[]⟩),
 (339,⟨.a8,1,8,[.aR],[]⟩),
 (340,⟨.a8,1,8,[.aR],[]⟩),
 (341,⟨.a8,1,8,[.aR],[]⟩),
 (343,⟨.a8,1,8,[.aR],[]⟩),
 (344,⟨.a8,1,8,[.aR],[]⟩),
 (345,⟨.a8,1,8,[.aR],[]⟩),
 (347,⟨.a8,1,8,[.aR],[]⟩),
 (348,⟨.a8,1,8,[.aR],[]⟩),
 (349,⟨.a8,1,8,[.aR],[]⟩),
 (350,⟨.a8,1,8,[.aR],[]⟩),
 (351,⟨.a8,1,8,[.aR],[]⟩),
 (352,⟨.a8,1,8,[.aR],[]⟩),
 (353,⟨.a8,1,8,[.aR],[]⟩),
 (354,⟨.a8,1,8,[.aR],[]⟩),
 (355,⟨.a8,1,8,[.aR],[]⟩),
 (356,⟨.a8,1,8,[.aR],[]⟩),
 (357,⟨.a8,1,8,[.aR],[]⟩),
 (359,⟨.a8,1,8,[.aR],[]⟩),
 (360,⟨.a8,1,8,[.aR],[]⟩),
 (362,⟨.a8,1,8,[.aR],[]⟩),
 (363,⟨.a8,1,8,[.aR],[]⟩),
 (364,⟨.a8,1,8,[.aR],[]⟩),
 (365,⟨.a8,1,8,[.aR],[]⟩),
 (366,⟨.a8,1,8,[.aR],[]⟩),
 (367,⟨.bD 3,1,24,[ai 1 acl ([]:List Int)],[]⟩),
 (368,⟨.a8,1,8,[.aR],[]⟩),
 (369,⟨.a8,1,8,[.aR],[]⟩),
 (370,⟨.a8,1,8,[.aR],[]⟩),
 (371,⟨.a8,1,8,[.aR],[]⟩),
 (372,⟨.a8,1,8,[.aR],[]⟩),
 (374,⟨.a8,1,8,[.aR],[]⟩),
 (376,⟨.a8,1,8,[.aR],[]⟩),
 (377,⟨.a8,1,8,[.aR],[]⟩),
 (379,⟨.a8,1,8,[.aR],[]⟩),
 (381,⟨.a8,1,8,[.aR],[]⟩),
 (382,⟨.a8,1,8,[.aR],[]⟩),
 (383,⟨.a8,1,8,[.aR],[]⟩),
 (385,⟨.int .u32,1,4,[.int .u32 0],[]⟩),
 (387,⟨.a8,1,8,[.aR],[]⟩),
 (388,⟨.a8,1,8,[.aR],[]⟩),
 (389,⟨.a8,1,8,[.aR],[]⟩),
 (390,⟨.int .i64,1,8,[.int .i64 0],[]⟩),
 (392,⟨.a8,1,8,[.aR],[]⟩),
 (393,⟨.ptr,1,8,[.en],[]⟩),
 (394,⟨.a8,1,8,[.aR],[]⟩),
 (395,⟨.a8,1,8,[.aR],[]⟩),
 (398,⟨.a8,1,8,[.aR],[]⟩),
 (399,⟨.bZ [(0,9,1),(1,9,1),(2,122,1)],3,48,[.str ([]:al5),.str ([]:al5),.hI],[]⟩),
 (400,⟨.bZ [(0,9,1),(1,9,1),(2,122,1)],3,48,[.str ([]:al5),.str ([]:al5),.hI],[]⟩),
 (401,⟨.a8,1,8,[.aR],[]⟩),
 (402,⟨.ptr,1,8,[.en],[]⟩),
 (403,⟨.bZ [(0,9,1)],1,16,[.str ([]:al5)],[]⟩),
 (404,⟨.bZ [(0,9,1)],1,16,[.str ([]:al5)],[]⟩),
 (405,⟨.bZ [(0,17,1),(1,17,1),(2,17,1),(3,9,1)],4,40,[.en,.en,.en,.str ([]:al5)],[]⟩),
 (406,⟨.bZ [(0,17,1),(1,17,1),(2,17,1),(3,9,1)],4,40,[.en,.en,.en,.str ([]:al5)],[]⟩),
 (410,⟨.int .u8,1,1,[.int .u8 0],[]⟩),
 (411,⟨.int .u8,1,1,[.int .u8 0],[]⟩),
 (412,⟨.a8,1,8,[.aR],[]⟩),
 (413,⟨.int .i32,1,4,[.int .i32 0],[]⟩),
 (414,⟨.int .i32,1,4,[.int .i32 0],[]⟩),
 (415,⟨.bZ [(0,12,1),(1,12,1),(2,385,1),(3,410,1),(4,5,1),(5,5,1),(6,411,1),(7,412,1),(8,191,1),(9,413,1),(10,414,1)],11,48,[.int .u64 0,.int .u64 0,.int .u32 0,.int .u8 0,.int .u8 0,.int .u8 0,.int .u8 0,.aR,.en,.int .i32 0,.int .i32 0],[]⟩),
 (416,⟨.bZ [(0,12,1),(1,12,1),(2,385,1),(3,410,1),(4,5,1),(5,5,1),(6,411,1),(7,412,1),(8,191,1),(9,413,1),(10,414,1)],11,48,[.int .u64 0,.int .u64 0,.int .u32 0,.int .u8 0,.int .u8 0,.int .u8 0,.int .u8 0,.aR,.en,.int .i32 0,.int .i32 0],[]⟩)]
def hM:fb Tryz.prog tt=true:=by kernel_rfl
def yJ:Tryz.prog.follows .mixedOrders=true:=by kernel_rfl
end Go.Ab.Y
namespace Go.Ab.Y.T
open Go Go.Ab Go.Proofs
structure aL(f:FuncId)(args:List D)(ed:List (Nat×TypeId))(H:List (List a1)){ρ:Type}(F:Option ρ)(out:ρ→Out)(cF:ρ→List (List a1)):Prop where
 of:∀{r:ρ},F=some r→gk Tryz.prog f args ed H (out r) (cF r)
def ta(E:Nat)(rs:List ResultVar){ρ:Type}(out:ρ→Out)(cF:ρ→List (List a1))(r:ρ):cm→aI→Prop:=rh tt E rs λo bM=>o=out r∧bM=cF r
def gv(s st:aI):Option aI:=(se (s.env.map (·.1)) (s.H.map (·.1)) s.aW st.env st.H st.aW).map (fit s)
noncomputable abbrev hN(N:Nat)(ops:Array Oper)(rs:List e')(st:aI):=s5 (iZ Tryz.prog) tt N ops.toList rs st
noncomputable abbrev CS(N:Nat)(ops:Array Oper)(rs:List (Nat×List e'))(st:aI):=CB (iZ Tryz.prog) tt N ops.toList (spread ops.toList.length 0 rs) st
noncomputable abbrev Sc(N:Nat)(ops:Array Oper)(fU:Nat)(rs:List (Nat×List e'))(st:aI):=yx (iZ Tryz.prog) tt N ops.toList fU (st.aW+ops.toList.length) (spread ops.toList.length 0 rs) st
abbrev ag(x:Int):a1:=⟨.v (.int .i64 x),none⟩
abbrev dd(x:Bool):a1:=⟨.v (.bool x),none⟩
abbrev aV(x:al5):a1:=⟨.v (.str x),none⟩
abbrev az{α:Type}[Inhabited α](k:Nat)(e:α→V)(l:List α):a1:=⟨.v (ai k e l),none⟩
abbrev bb(r o:Nat):a1:=⟨.ptr r o,none⟩
abbrev fV(x:V):a1:=⟨.v x,none⟩
abbrev bg(x:Int):D:=.v (.int .i64 x)
abbrev bR(x:Bool):D:=.v (.bool x)
abbrev ca(x:al5):D:=.v (.str x)
abbrev dh{α:Type}[Inhabited α](k:Nat)(e:α→V)(l:List α):D:=.v (ai k e l)
abbrev aJ(d:D):Out:=.ret d none
def act(n:Nat):gS (n:Int) n=true:=Z3 ⟨Int.natCast_nonneg n,Int.le_refl _⟩
abbrev aq:=all_nil
def aa{p:Prop}{l:List Prop}(h:p)(af:j_ l):j_ (p::l):=⟨h,af⟩
section
variable {N E:Nat} {st:aI} {Q:cm→aI→Prop} {next:aI→Prop} {x y:Code} {id i j:Nat} {ops:Array Oper}
def vn{x:V}(h:Q (.bd x) st):cm.then next Q (.bd x) st:=h
def bJ(h:Q .normal st):cm.inBlock i Q (.exit i) st:=cm.abb h
def vo(h:Q (.exit j) st)(ea:Nat.beq j i=false:=by kernel_rfl):cm.inBlock i Q (.exit j) st:=cm.abc ea h
def acu{x:V}(h:Q (.bd x) st):cm.inBlock i Q (.bd x) st:=h
def an(h:a' Tryz.prog N E x (cm.then (a' Tryz.prog N E y Q) Q) st):a' Tryz.prog N E (.seq x y) Q st:=a'.seq h
def am(h:Q .normal st):a' Tryz.prog N E .skip Q st:=a'.skip h
def Sd{r:Nat}(h:Q .ret (yD r st)):IP r Q .ret st:=h
def Se(r:Nat)(h:a' Tryz.prog N E x (IP r Q) st):a' Tryz.prog N E x Q st:=a'.nn r h
def vp(mX:List Nat)(h:a' Tryz.prog N E x Q {env:=forget mX st.env,H:=st.H,aW:=st.aW}):a' Tryz.prog N E x Q st:=a'.forget mX h
def acv{l:Nat}(h:Q .normal st):a' Tryz.prog N E (.label l) Q st:=a'.label h
def bK(h:Q (.exit i) st):a' Tryz.prog N E (.exit i) Q st:=a'.exit h
def IY(h:Q .ret st):a' Tryz.prog N E .ret Q st:=a'.ret h
def acw(h:a' Tryz.prog N E x Q st):a' Tryz.prog N E (.scope x) Q st:=a'.scope h
def aF(h:a' Tryz.prog N E x (cm.inBlock i Q) st):a' Tryz.prog N E (.block i x) Q st:=a'.block h
def eL(rs:List e'){cy:List Prop}(cj:j_ cy)(d_:Q .normal (i_ (hN N ops rs st)))(ak:li (hN N ops rs st)=some cy:=by kernel_rfl):a' Tryz.prog N E (.region id ops false) Q st:=a'.rg hM rs ak cj d_
def bq(d_:Q .normal (i_ (hN N ops [] st)))(ak:li (hN N ops [] st)=some []:=by kernel_rfl):a' Tryz.prog N E (.region id ops false) Q st:=eL [] aq d_ ak
def G(d_:a' Tryz.prog N E y Q (i_ (hN N ops [] st)))(ak:li (hN N ops [] st)=some []:=by kernel_rfl):a' Tryz.prog N E (.seq (.region id ops false) y) Q st:=an (bq (Q:=cm.then (a' Tryz.prog N E y Q) Q) d_ ak)
def aQ(rs:List e'){cy:List Prop}(cj:j_ cy)(d_:a' Tryz.prog N E y Q (i_ (hN N ops rs st)))(ak:li (hN N ops rs st)=some cy:=by kernel_rfl):a' Tryz.prog N E (.seq (.region id ops false) y) Q st:=an (eL (Q:=cm.then (a' Tryz.prog N E y Q) Q) rs cj d_ ak)
section
variable {f:FuncId} {args:List D} {ed:List (Nat×TypeId)} {H cF:List (List a1)} {out:Out}
def kD(p:gk Tryz.prog f args ed H out cF)(d_:Q .normal (i_ (hN N ops [aU p []] st)))(ak:li (hN N ops [aU p []] st)=some [gk Tryz.prog f args ed H out cF]:=by kernel_rfl):a' Tryz.prog N E (.region id ops false) Q st:=eL [aU p []] (aa p aq) d_ ak
def jF(p:gk Tryz.prog f args ed H out cF)(d_:Q .normal (i_ (hN N ops [bB p []] st)))(ak:li (hN N ops [bB p []] st)=some [gk Tryz.prog f args ed H out cF]:=by kernel_rfl):a' Tryz.prog N E (.region id ops false) Q st:=eL [bB p []] (aa p aq) d_ ak
def bP(p:gk Tryz.prog f args ed H out cF)(d_:a' Tryz.prog N E y Q (i_ (hN N ops [aU p []] st)))(ak:li (hN N ops [aU p []] st)=some [gk Tryz.prog f args ed H out cF]:=by kernel_rfl):a' Tryz.prog N E (.seq (.region id ops false) y) Q st:=aQ [aU p []] (aa p aq) d_ ak
def c'(p:gk Tryz.prog f args ed H out cF)(d_:a' Tryz.prog N E y Q (i_ (hN N ops [bB p []] st)))(ak:li (hN N ops [bB p []] st)=some [gk Tryz.prog f args ed H out cF]:=by kernel_rfl):a' Tryz.prog N E (.seq (.region id ops false) y) Q st:=aQ [bB p []] (aa p aq) d_ ak
end
def iw(rs:List (Nat×List e')){cy:List Prop}(cj:j_ cy)(d_:Q .normal (i_ (CS N ops rs st)))(ak:li (CS N ops rs st)=some cy:=by kernel_rfl):a' Tryz.prog N E (.region id ops true) Q st:=a'.CD hM yJ rs ak cj d_
def cc(rs:List (Nat×List e')){cy:List Prop}(cj:j_ cy)(d_:a' Tryz.prog N E y Q (i_ (CS N ops rs st)))(ak:li (CS N ops rs st)=some cy:=by kernel_rfl):a' Tryz.prog N E (.seq (.region id ops true) y) Q st:=an (iw (Q:=cm.then (a' Tryz.prog N E y Q) Q) rs cj d_ ak)
def dU(x:V)(rs:List e'){cy:List Prop}(cj:j_ cy)(d_:Q (.bd x) (i_ (hN N ops rs st)))(ak:Iw (hN N ops rs st)=some (x,cy):=by kernel_rfl):a' Tryz.prog N E (.region id ops false) Q st:=a'.Ix hM rs ak cj d_
def qr(fU:Nat)(x:V)(rs:List (Nat×List e')){cy:List Prop}(cj:j_ cy)(d_:∀n,Q (.bd x) {env:=[],H:=II (Sc N ops fU rs st),aW:=n})(ak:IH (Sc N ops fU rs st)=some (x,cy):=by kernel_rfl):a' Tryz.prog N E (.region id ops true) Q st:=a'.abR hM yJ fU rs ak cj d_
def C{α:Type}{b:Bool}{p q:Option α}{r:α}{c:Nat}(h:(bif b then p else q)=some r)(bS:p=some r→a' Tryz.prog N E x Q st)(ba:q=some r→a' Tryz.prog N E y Q st)(hc:(look st.env c).map (·.d)=some (.v (.bool b)):=by kernel_rfl):a' Tryz.prog N E (.cond (.tmp c) x y) Q st:=a'.Iz h hc bS ba
section
variable {ρ:Type} {a r:ρ} {out:ρ→Out} {cF:ρ→List (List a1)} {rs:List ResultVar}
def Cy(h:some a=some r)(af:leave tt E rs st=some (out a,cF a):=by kernel_rfl):ta E rs out cF r .ret st:=by
 obtain rfl:=Option.some.inj h;exact abe af
def bF{Q:cm→aI→Prop}(h:some a=some r)(aB:ta E rs out cF r .ret st=Q .ret st:=by rfl)(af:leave tt E rs st=some (out a,cF a):=by kernel_rfl):a' Tryz.prog N E .ret Q st:=IY (aB ▸ Cy h af)
def bh{Q:cm→aI→Prop}{id:Nat}{ops:Array Oper}(h:some a=some r)(aB:ta E rs out cF r .ret (i_ (hN N ops [] st))=Q .ret (i_ (hN N ops [] st)):=by rfl)(af:leave tt E rs (i_ (hN N ops [] st))=some (out a,cF a):=by kernel_rfl)(ak:li (hN N ops [] st)=some []:=by kernel_rfl):a' Tryz.prog N E (.seq (.region id ops false) .ret) Q st:=G (bF h aB af) ak
def aA{Q:cm→aI→Prop}{id:Nat}{ops:Array Oper}{b:Bool}{q:Option ρ}{c:Nat}{y:Code}(h:(bif b then some a else q)=some r)(ba:q=some r→a' Tryz.prog N E y Q st)(aB:ta E rs out cF r .ret (i_ (hN N ops [] st))=Q .ret (i_ (hN N ops [] st)):=by rfl)(af:leave tt E rs (i_ (hN N ops [] st))=some (out a,cF a):=by kernel_rfl)(ak:li (hN N ops [] st)=some []:=by kernel_rfl)(hc:(look st.env c).map (·.d)=some (.v (.bool b)):=by kernel_rfl):a' Tryz.prog N E (.cond (.tmp c) (.seq (.region id ops false) .ret) y) Q st:=C h (λh=>bh h aB af ak) ba hc
def jG(h:some a=some r)(af:leave tt E rs st=some (out a,cF a):=by kernel_rfl):ta E rs out cF r .normal st:=by
 obtain rfl:=Option.some.inj h;exact Ij af
def dm{x:V}(h:some a=some r)(af:(Cd E st.H).map mR=some (cF a):=by kernel_rfl)(hx:out a = .bd x:=by kernel_rfl):ta E rs out cF r (.bd x) st:=by
 obtain rfl:=Option.some.inj h;show rh tt E rs _ _ _
 rw [hx];exact abf af
end
def aM{f:FuncId}{fn:Func}{c:Code}{args:List D}{ed:List (Nat×TypeId)}{H:List (List a1)}{ρ:Type}{F:Option ρ}{out:ρ→Out}{cF:ρ→List (List a1)}(ba:Tryz.prog.funcs[f]? = some fn)(hb:fn.body=some c)
 (h : ∀ {r : ρ}, F = some r → a' Tryz.prog fn.ntmps H.length c (ta H.length fn.results.toList out cF r) { env := gU args ed, H := cK 0 H, aW := H.length }) (i7 : decide (fn.name = "runtime.NumGoroutine") = false := by rfl) (ha : Nat.ble args.length fn.ntmps = true := by rfl) : aL f args ed H F out cF :=
 ⟨λh0=>abd hM ba hb i7 ha (h h0)⟩
end
section
variable {α β du gG:Type} {p:Prop}
def cW{q:Prop}(a:p)(k:p→q):q:=k a
def ru{Sf:Type}{X:Option Sf}(c:α ⊕ β→Sf){x:α ⊕ β}{f:α→Option du}{g:β→Option du}{r:du}(q:X=some (c x))(h:hA.on x f g=some r)(cN:∀a,X=some (c (.inl a))→f a=some r→p)(aj:∀b,X=some (c (.inr b))→g b=some r→p):p:=
 match x,q,h with
 |.inl a,q,h=>cN a q h
 |.inr b,q,h=>aj b q h
def hO{r:α}(h:none=some r):p:=by cases h
def aw{b:Bool}{x:Option α}{r:α}(h:av b x=some r)(k:b=true→x=some r→p):p:=k (qo h).1 (qo h).2
def al{x:Option α}{f:α→Option β}{r:β}(h:Option.bind x f=some r)(k:∀a,x=some a→f a=some r→p):p:=let ⟨a,Z,ae⟩:=bind_some h;k a Z ae
def dJ{x:Option (aO α β)}{f:α→β→Option du}{g:V→β→Option du}{r:du}(h:Option.bind x (λz=>aO.on z f g)=some r)(cN:∀a b,x=some (.ret a b)→f a b=some r→p)(aj:∀y b,x=some (.bd y b)→g y b=some r→p):p:=
 let ⟨z,Z,ae⟩:=bind_some h
 match z,Z,ae with
 |.ret a b,Z,ae=>cN a b Z ae
 |.bd y b,Z,ae=>aj y b Z ae
end
section
variable {ρ:Type} {r:ρ} {N E:Nat} {st:aI} {Q:cm→aI→Prop} {x y:Code}
def ce{cg:aI}{f:Option ρ}(h:f=some r)(ak:gv (cg) st=some (cg):=by kernel_rfl):gv (cg) st=some (cg)∧f=some r:=⟨ak,h⟩
def cv(cg:aI)(f:Option ρ)(Z:a' Tryz.prog N E x (cm.then (λbW=>gv (cg) bW=some (cg)∧f=some r) Q) st)(ae:f=some r→a' Tryz.prog N E y Q (cg))(cw:Nat.ble E (cg).aW=true:=by intros;kernel_rfl):a' Tryz.prog N E (.seq x y) Q st:=
 a'.cut _ Z λbW ⟨ak,h⟩=>a'.py _ _ _ _ ak (cw) (ae h)
end
section
variable {α:Type} {ρ:Type} {r:ρ} {N E:Nat} {st:aI} {Q:cm→aI→Prop} {x y:Code}
def a6{cg:α→aI}{f:α→Option ρ}{a0:_}(h:f a0=some r)(ak:gv (cg a0) st=some (cg a0):=by kernel_rfl):∃a0,gv (cg a0) st=some (cg a0)∧f a0=some r:=⟨a0,ak,h⟩
def da(cg:α→aI)(f:α→Option ρ)(Z:a' Tryz.prog N E x (cm.then (λbW=>∃a0,gv (cg a0) bW=some (cg a0)∧f a0=some r) Q) st)(ae:∀a0,f a0=some r→a' Tryz.prog N E y Q (cg a0))(cw:∀a0,Nat.ble E (cg a0).aW=true:=by intros;kernel_rfl):a' Tryz.prog N E (.seq x y) Q st:=
 a'.cut _ Z λbW ⟨a0,ak,h⟩=>a'.py _ _ _ _ ak (cw a0) (ae a0 h)
def di(cg:α→aI)(F:Nat→α→Option ρ)(B:(α→Option ρ)→α→Option ρ){n:Nat}{a0:_}(h:F n a0=some r)(body:∀k a0,B k a0=some r→a' Tryz.prog N E x (cm.then (λbW=>∃a0,gv (cg a0) bW=some (cg a0)∧k a0=some r) Q) (cg a0))(hi:gv (cg a0) st=some (cg a0):=by kernel_rfl)(cw:∀a0,Nat.ble E (cg a0).aW=true:=by intros;kernel_rfl)(h0:∀a0,F 0 a0=none:=by intros;rfl)(hs:∀m a0,F (m+1) a0=B (F m) a0:=by intros;rfl):a' Tryz.prog N E (.loop x) Q st:=by
 refine a'.loop (σ:=α) (λm (s:α) st=>gv (cg s) st=some (cg s)∧F m s=some r) ?_ (n:=n) (s:=a0) ⟨hi,h⟩
 rintro m a0 bW ⟨ak,h⟩
 cases m with
 |zero=>have ae:=(h0 a0).symm.trans h;cases ae
 |succ m=>
  refine⟨m,rfl,a'.py _ _ _ _ ak (cw a0) ((body (F m) a0 ((hs m a0).symm.trans h)).mono ?_)⟩
  intro fs CT aB;cases fs with
  |normal=>obtain⟨a0,g1,g2⟩:=aB;exact⟨a0,g1,g2⟩
  |exit i=>exact aB
  |ret=>exact aB
  |bd x=>exact aB
end
section
variable {α β:Type} {ρ:Type} {r:ρ} {N E:Nat} {st:aI} {Q:cm→aI→Prop} {x y:Code}
def dz{cg:α→β→aI}{f:α→β→Option ρ}{a0 aY:_}(h:f a0 aY=some r)(ak:gv (cg a0 aY) st=some (cg a0 aY):=by kernel_rfl):∃a0 aY,gv (cg a0 aY) st=some (cg a0 aY)∧f a0 aY=some r:=⟨a0,aY,ak,h⟩
def mg(cg:α→β→aI)(f:α→β→Option ρ)(Z:a' Tryz.prog N E x (cm.then (λbW=>∃a0 aY,gv (cg a0 aY) bW=some (cg a0 aY)∧f a0 aY=some r) Q) st)(ae:∀a0 aY,f a0 aY=some r→a' Tryz.prog N E y Q (cg a0 aY))(cw:∀a0 aY,Nat.ble E (cg a0 aY).aW=true:=by intros;kernel_rfl):a' Tryz.prog N E (.seq x y) Q st:=
 a'.cut _ Z λbW ⟨a0,aY,ak,h⟩=>a'.py _ _ _ _ ak (cw a0 aY) (ae a0 aY h)
def fg(cg:α→β→aI)(F:Nat→α→β→Option ρ)(B:(α→β→Option ρ)→α→β→Option ρ){n:Nat}{a0 aY:_}(h:F n a0 aY=some r)(body:∀k a0 aY,B k a0 aY=some r→a' Tryz.prog N E x (cm.then (λbW=>∃a0 aY,gv (cg a0 aY) bW=some (cg a0 aY)∧k a0 aY=some r) Q) (cg a0 aY))(hi:gv (cg a0 aY) st=some (cg a0 aY):=by kernel_rfl)(cw:∀a0 aY,Nat.ble E (cg a0 aY).aW=true:=by intros;kernel_rfl)(h0:∀a0 aY,F 0 a0 aY=none:=by intros;rfl)(hs:∀m a0 aY,F (m+1) a0 aY=B (F m) a0 aY:=by intros;rfl):a' Tryz.prog N E (.loop x) Q st:=by
 refine a'.loop (σ:=α×β) (λm (s:α×β) st=>gv (cg s.1 s.2) st=some (cg s.1 s.2)∧F m s.1 s.2=some r) ?_ (n:=n) (s:=(a0,aY)) ⟨hi,h⟩
 rintro m ⟨a0,aY⟩ bW ⟨ak,h⟩
 cases m with
 |zero=>have ae:=(h0 a0 aY).symm.trans h;cases ae
 |succ m=>
  refine⟨m,rfl,a'.py _ _ _ _ ak (cw a0 aY) ((body (F m) a0 aY ((hs m a0 aY).symm.trans h)).mono ?_)⟩
  intro fs CT aB;cases fs with
  |normal=>obtain⟨a0,aY,g1,g2⟩:=aB;exact⟨(a0,aY),g1,g2⟩
  |exit i=>exact aB
  |ret=>exact aB
  |bd x=>exact aB
end
section
variable {α β du:Type} {ρ:Type} {r:ρ} {N E:Nat} {st:aI} {Q:cm→aI→Prop} {x y:Code}
def hP{cg:α→β→du→aI}{f:α→β→du→Option ρ}{a0 aY a2:_}(h:f a0 aY a2=some r)(ak:gv (cg a0 aY a2) st=some (cg a0 aY a2):=by kernel_rfl):∃a0 aY a2,gv (cg a0 aY a2) st=some (cg a0 aY a2)∧f a0 aY a2=some r:=⟨a0,aY,a2,ak,h⟩
def pz(cg:α→β→du→aI)(f:α→β→du→Option ρ)(Z:a' Tryz.prog N E x (cm.then (λbW=>∃a0 aY a2,gv (cg a0 aY a2) bW=some (cg a0 aY a2)∧f a0 aY a2=some r) Q) st)(ae:∀a0 aY a2,f a0 aY a2=some r→a' Tryz.prog N E y Q (cg a0 aY a2))(cw:∀a0 aY a2,Nat.ble E (cg a0 aY a2).aW=true:=by intros;kernel_rfl):a' Tryz.prog N E (.seq x y) Q st:=
 a'.cut _ Z λbW ⟨a0,aY,a2,ak,h⟩=>a'.py _ _ _ _ ak (cw a0 aY a2) (ae a0 aY a2 h)
def yK(cg:α→β→du→aI)(F:Nat→α→β→du→Option ρ)(B:(α→β→du→Option ρ)→α→β→du→Option ρ){n:Nat}{a0 aY a2:_}(h:F n a0 aY a2=some r)(body:∀k a0 aY a2,B k a0 aY a2=some r→a' Tryz.prog N E x (cm.then (λbW=>∃a0 aY a2,gv (cg a0 aY a2) bW=some (cg a0 aY a2)∧k a0 aY a2=some r) Q) (cg a0 aY a2))(hi:gv (cg a0 aY a2) st=some (cg a0 aY a2):=by kernel_rfl)(cw:∀a0 aY a2,Nat.ble E (cg a0 aY a2).aW=true:=by intros;kernel_rfl)(h0:∀a0 aY a2,F 0 a0 aY a2=none:=by intros;rfl)(hs:∀m a0 aY a2,F (m+1) a0 aY a2=B (F m) a0 aY a2:=by intros;rfl):a' Tryz.prog N E (.loop x) Q st:=by
 refine a'.loop (σ:=α×β×du) (λm (s:α×β×du) st=>gv (cg s.1 s.2.1 s.2.2) st=some (cg s.1 s.2.1 s.2.2)∧F m s.1 s.2.1 s.2.2=some r) ?_ (n:=n) (s:=(a0,aY,a2)) ⟨hi,h⟩
 rintro m ⟨a0,aY,a2⟩ bW ⟨ak,h⟩
 cases m with
 |zero=>have ae:=(h0 a0 aY a2).symm.trans h;cases ae
 |succ m=>
  refine⟨m,rfl,a'.py _ _ _ _ ak (cw a0 aY a2) ((body (F m) a0 aY a2 ((hs m a0 aY a2).symm.trans h)).mono ?_)⟩
  intro fs CT aB;cases fs with
  |normal=>obtain⟨a0,aY,a2,g1,g2⟩:=aB;exact⟨(a0,aY,a2),g1,g2⟩
  |exit i=>exact aB
  |ret=>exact aB
  |bd x=>exact aB
end
section
variable {α β du gG:Type} {ρ:Type} {r:ρ} {N E:Nat} {st:aI} {Q:cm→aI→Prop} {x y:Code}
def ox{cg:α→β→du→gG→aI}{f:α→β→du→gG→Option ρ}{a0 aY a2 a3:_}(h:f a0 aY a2 a3=some r)(ak:gv (cg a0 aY a2 a3) st=some (cg a0 aY a2 a3):=by kernel_rfl):∃a0 aY a2 a3,gv (cg a0 aY a2 a3) st=some (cg a0 aY a2 a3)∧f a0 aY a2 a3=some r:=⟨a0,aY,a2,a3,ak,h⟩
def acx(cg:α→β→du→gG→aI)(f:α→β→du→gG→Option ρ)(Z:a' Tryz.prog N E x (cm.then (λbW=>∃a0 aY a2 a3,gv (cg a0 aY a2 a3) bW=some (cg a0 aY a2 a3)∧f a0 aY a2 a3=some r) Q) st)(ae:∀a0 aY a2 a3,f a0 aY a2 a3=some r→a' Tryz.prog N E y Q (cg a0 aY a2 a3))(cw:∀a0 aY a2 a3,Nat.ble E (cg a0 aY a2 a3).aW=true:=by intros;kernel_rfl):a' Tryz.prog N E (.seq x y) Q st:=
 a'.cut _ Z λbW ⟨a0,aY,a2,a3,ak,h⟩=>a'.py _ _ _ _ ak (cw a0 aY a2 a3) (ae a0 aY a2 a3 h)
def qs(cg:α→β→du→gG→aI)(F:Nat→α→β→du→gG→Option ρ)(B:(α→β→du→gG→Option ρ)→α→β→du→gG→Option ρ){n:Nat}{a0 aY a2 a3:_}(h:F n a0 aY a2 a3=some r)(body:∀k a0 aY a2 a3,B k a0 aY a2 a3=some r→a' Tryz.prog N E x (cm.then (λbW=>∃a0 aY a2 a3,gv (cg a0 aY a2 a3) bW=some (cg a0 aY a2 a3)∧k a0 aY a2 a3=some r) Q) (cg a0 aY a2 a3))(hi:gv (cg a0 aY a2 a3) st=some (cg a0 aY a2 a3):=by kernel_rfl)(cw:∀a0 aY a2 a3,Nat.ble E (cg a0 aY a2 a3).aW=true:=by intros;kernel_rfl)(h0:∀a0 aY a2 a3,F 0 a0 aY a2 a3=none:=by intros;rfl)(hs:∀m a0 aY a2 a3,F (m+1) a0 aY a2 a3=B (F m) a0 aY a2 a3:=by intros;rfl):a' Tryz.prog N E (.loop x) Q st:=by
 refine a'.loop (σ:=α×β×du×gG) (λm (s:α×β×du×gG) st=>gv (cg s.1 s.2.1 s.2.2.1 s.2.2.2) st=some (cg s.1 s.2.1 s.2.2.1 s.2.2.2)∧F m s.1 s.2.1 s.2.2.1 s.2.2.2=some r) ?_ (n:=n) (s:=(a0,aY,a2,a3)) ⟨hi,h⟩
 rintro m ⟨a0,aY,a2,a3⟩ bW ⟨ak,h⟩
 cases m with
 |zero=>have ae:=(h0 a0 aY a2 a3).symm.trans h;cases ae
 |succ m=>
  refine⟨m,rfl,a'.py _ _ _ _ ak (cw a0 aY a2 a3) ((body (F m) a0 aY a2 a3 ((hs m a0 aY a2 a3).symm.trans h)).mono ?_)⟩
  intro fs CT aB;cases fs with
  |normal=>obtain⟨a0,aY,a2,a3,g1,g2⟩:=aB;exact⟨(a0,aY,a2,a3),g1,g2⟩
  |exit i=>exact aB
  |ret=>exact aB
  |bd x=>exact aB
end
section
variable {α β du gG qt:Type} {ρ:Type} {r:ρ} {N E:Nat} {st:aI} {Q:cm→aI→Prop} {x y:Code}
def acy{cg:α→β→du→gG→qt→aI}{f:α→β→du→gG→qt→Option ρ}{a0 aY a2 a3 a4:_}(h:f a0 aY a2 a3 a4=some r)(ak:gv (cg a0 aY a2 a3 a4) st=some (cg a0 aY a2 a3 a4):=by kernel_rfl):∃a0 aY a2 a3 a4,gv (cg a0 aY a2 a3 a4) st=some (cg a0 aY a2 a3 a4)∧f a0 aY a2 a3 a4=some r:=⟨a0,aY,a2,a3,a4,ak,h⟩
def acz(cg:α→β→du→gG→qt→aI)(F:Nat→α→β→du→gG→qt→Option ρ)(B:(α→β→du→gG→qt→Option ρ)→α→β→du→gG→qt→Option ρ){n:Nat}{a0 aY a2 a3 a4:_}(h:F n a0 aY a2 a3 a4=some r)(body:∀k a0 aY a2 a3 a4,B k a0 aY a2 a3 a4=some r→a' Tryz.prog N E x (cm.then (λbW=>∃a0 aY a2 a3 a4,gv (cg a0 aY a2 a3 a4) bW=some (cg a0 aY a2 a3 a4)∧k a0 aY a2 a3 a4=some r) Q) (cg a0 aY a2 a3 a4))(hi:gv (cg a0 aY a2 a3 a4) st=some (cg a0 aY a2 a3 a4):=by kernel_rfl)(cw:∀a0 aY a2 a3 a4,Nat.ble E (cg a0 aY a2 a3 a4).aW=true:=by intros;kernel_rfl)(h0:∀a0 aY a2 a3 a4,F 0 a0 aY a2 a3 a4=none:=by intros;rfl)(hs:∀m a0 aY a2 a3 a4,F (m+1) a0 aY a2 a3 a4=B (F m) a0 aY a2 a3 a4:=by intros;rfl):a' Tryz.prog N E (.loop x) Q st:=by
 refine a'.loop (σ:=α×β×du×gG×qt) (λm (s:α×β×du×gG×qt) st=>gv (cg s.1 s.2.1 s.2.2.1 s.2.2.2.1 s.2.2.2.2) st=some (cg s.1 s.2.1 s.2.2.1 s.2.2.2.1 s.2.2.2.2)∧F m s.1 s.2.1 s.2.2.1 s.2.2.2.1 s.2.2.2.2=some r) ?_ (n:=n) (s:=(a0,aY,a2,a3,a4)) ⟨hi,h⟩
 rintro m ⟨a0,aY,a2,a3,a4⟩ bW ⟨ak,h⟩
 cases m with
 |zero=>have ae:=(h0 a0 aY a2 a3 a4).symm.trans h;cases ae
 |succ m=>
  refine⟨m,rfl,a'.py _ _ _ _ ak (cw a0 aY a2 a3 a4) ((body (F m) a0 aY a2 a3 a4 ((hs m a0 aY a2 a3 a4).symm.trans h)).mono ?_)⟩
  intro fs CT aB;cases fs with
  |normal=>obtain⟨a0,aY,a2,a3,a4,g1,g2⟩:=aB;exact⟨(a0,aY,a2,a3,a4),g1,g2⟩
  |exit i=>exact aB
  |ret=>exact aB
  |bd x=>exact aB
end
section
variable {α β du gG qt ak_:Type} {ρ:Type} {r:ρ} {N E:Nat} {st:aI} {Q:cm→aI→Prop} {x y:Code}
end
end Go.Ab.Y.T
namespace Go.Ab.Y
open Go Go.Ab Go.Proofs
def IZ(n:Nat)(s:al5):Option al5:=av (decide (s.length≤281474976710656))<|some s
def I0(n:Nat)(s:al5)(c:Int):Option Int:=some (Lib.indexByte s c.toNat.toUInt8)
def vq(n:Nat)(s:al5):Option Int:=av (decide (s.length≤140737488351232))<|some (lP s)
def Sg(s:al5):Int ⊕ Int:=
 match Lib.parseIntB 64 s with
 |.ok v=>.inl v
 |.range=>.inr (Lib.intSat 64 s)
 |_=>.inr 0
def I1(n:Nat)(s:al5)(base:Int)(CU:Int):Option (Int ⊕ Int):=
 av (decide (base=10∧CU=64∧s.length≤281474976710656))<|some (Sg s)
def CV(n:Nat)(i:Int)(base:Int):Option al5:=av (decide (base=10 ∧ -9223372036854775808≤i∧i≤9223372036854775807))<|some (Lib.itoa i)
def CW(n:Nat)(elems:List al5)(sep:al5):Option al5:=av (decide (elems.length≤140737488355328∧(Lib.join elems sep).length≤140737488355328))<|some (Lib.join elems sep)
open Go Go.Ab Go.Proofs
def acA{n:Nat}{s:al5}{r:al5}(h:IZ n s=some r):gk Tryz.prog 326 [.v (.str s)] [] [] (.ret (.v (.str r)) none) []:=by
 unfold IZ at h;obtain⟨g,h⟩:=qo h;obtain rfl:=Option.some.inj h;refine s4 (fd:=Tryz.f326) Tryz.func326 rfl rfl (vsOf:=λvs=>vs=[.string ⟨⟨s⟩⟩]) (λM β vs af ak=>?_) (λvs w ay hg=>?_)
 ·match vs,af with
  |[v],_=>
   have:=lH (ak 0 v _ rfl rfl)
   rw [this]
 ·subst ay;refine(Tryz.stringslite_Clone ⟨⟨s⟩⟩ w (show s.length≤281474976710656 from of_decide_eq_true g)).mono ?_
  rintro e w' ⟨rfl,hb⟩
  refine⟨_,rfl,λM β=>.v _ _ (.str _),λb aZ h=>?_,by rw [hb.os,hb.output]⟩
  rw [hb.block b (Array.getElem?_eq_some_iff.1 h).1];exact h
def acB{n:Nat}{s:al5}{c:Int}{r:Int}(h:I0 n s c=some r):gk Tryz.prog 352 [.v (.str s),.v (.int .u8 c)] [] [] (.ret (.v (.int .i64 r)) none) []:=by
 unfold I0 at h;obtain rfl:=Option.some.inj h;refine s4 (fd:=Tryz.f352) Tryz.func352 rfl rfl (vsOf:=λvs=>vs=[.string ⟨⟨s⟩⟩,.int .u8 c]) (λM β vs af ak=>?_) (λvs w ay hg=>?_)
 ·match vs,af with
  |[v,u],_=>
   have Z:=lH (ak 0 v _ rfl rfl);have ae:=k9 (ak 1 u _ rfl rfl);rw [Z,ae]
 ·subst ay;refine(Tryz.stringslite_IndexByte ⟨⟨s⟩⟩ c w).mono ?_
  rintro e w' ⟨rfl,rfl⟩
  exact⟨_,rfl,λM β=>.v _ _ (.int _ _),λb aZ h=>h,rfl⟩
def Sh{n:Nat}{s:al5}{r:Int}(h:vq n s=some r):gk Tryz.prog 174 [.v (.str s)] [] [] (.ret (.v (.int .i64 r)) none) []:=by
 unfold vq at h;obtain⟨g,h⟩:=qo h;obtain rfl:=Option.some.inj h;refine s4 (fd:=Tryz.f174) Tryz.func174 rfl rfl (vsOf:=λvs=>vs=[.string ⟨⟨s⟩⟩]) (λM β vs af ak=>?_) (λvs w ay hg=>?_)
 ·match vs,af with
  |[v],_=>
   have:=lH (ak 0 v _ rfl rfl)
   rw [this]
 ·subst ay;refine(ack ⟨⟨s⟩⟩ w (show s.length≤140737488351232 from of_decide_eq_true g)).mono ?_
  rintro e w' ⟨rfl,pos,rfl⟩
  refine⟨_,rfl,λM β=>.v _ _ (.int _ _),λb aZ h=>?_,rfl⟩
  rw [World.iter,Go.RowKit.Below.heap_alloc w _ b (Array.getElem?_eq_some_iff.1 h).1];exact h
def acC(w:World)(e:TypeId)(t:ByteArray):((Lib.bytesWorld w e t).os,(Lib.bytesWorld w e t).output)=(w.os,w.output):=by
 rw [(Lib.bytesWorld_below w e t).os,(Lib.bytesWorld_below w e t).output]
def I2:G0 Tryz.prog=[4,5]:=by kernel_rfl
def Si{n:Nat}{s:al5}{base:Int}{CU:Int}{r:(Int ⊕ Int)}(h:I1 n s base CU=some r):gk Tryz.prog 351 [.v (.str s),.v (.int .i64 base),.v (.int .i64 CU)] [] [] (hA.on r (λSj=>.ret (.cx [.v (.int .i64 Sj),.v (.hI)]) none) (λSk=>.ret (.cx [.v (.int .i64 Sk),.v ((.iface 393 .any))]) none)) []:=by
 unfold I1 at h;obtain⟨g,h⟩:=qo h;obtain rfl:=Option.some.inj h;obtain⟨rfl,rfl,af⟩:=of_decide_eq_true g
 have eJ:∀(M:Mem) (β:Nat→Option Nat) (vs:List Value),vs.length=3→(∀(i:Nat) v a,vs[i]? = some v→[D.v (.str s),.v (.int .i64 10),.v (.int .i64 64)][i]? = some a→ct M β v a)→vs=[.string ⟨⟨s⟩⟩,.int .i64 10,.int .i64 64]:=by
  intro M β vs af ak
  match vs,af with
  |[v,u,t],_=>
   have Z:=lH (ak 0 v _ rfl rfl);have ae:=k9 (ak 1 u _ rfl rfl);have ar:=k9 (ak 2 t _ rfl rfl);rw [Z,ae,ar]
 unfold Sg;rcases hp:Lib.parseIntB 64 s with v|_|_
 ·
   refine s4 (fd:=Tryz.f351) Tryz.func351 rfl rfl (vsOf:=λvs=>vs=[.string ⟨⟨s⟩⟩,.int .i64 10,.int .i64 64]) (λM β vs af ak=>eJ M β vs af ak) (λvs w ay hg=>?_)
   subst ay;refine(Tryz.strconv_ParseInt_10_at64_ok ⟨⟨s⟩⟩ (show s.length≤9223372036854775806 by omega) v hp w).mono ?_
   rintro e w' ⟨rfl,hw⟩
   refine⟨_,rfl,λM β=>.cx [_,_] _ rfl λi v c hi hc=>?_,λb aZ h=>?_,by rcases hw with rfl|⟨t,rfl⟩;rfl;exact acC _ _ _⟩
   ·match i with
    | 0=>cases hi;cases hc;exact .v _ _ (.int _ _)
    | 1=>cases hi;cases hc;exact .v _ _ .hI
    |i+2=>simp at hi
   ·rcases hw with rfl|⟨t,rfl⟩
    ·exact h
    ·rw [Lib.bytesWorld_at_old _ _ _ _ (Array.getElem?_eq_some_iff.1 h).1];exact h
 ·
   refine s4 (fd:=Tryz.f351) Tryz.func351 rfl rfl (vsOf:=λvs=>vs=[.string ⟨⟨s⟩⟩,.int .i64 10,.int .i64 64]) (λM β vs af ak=>eJ M β vs af ak) (λvs w ay hg=>?_)
   subst ay;obtain⟨fr,Z,ae⟩:=hg.1 4 (by rw [I2];simp)
   refine(Tryz.strconv_ParseInt_10_at64_syntax ⟨⟨s⟩⟩ af (by constructor;intro v;rw [show Lib.parseIntB 64 (⟨⟨s⟩⟩:ByteArray).data.toList=_ from hp];intro e;cases e;rw [show Lib.parseIntB 64 (⟨⟨s⟩⟩:ByteArray).data.toList=_ from hp];intro e;cases e) fr w Z ae).mono ?_
   rintro e w' ⟨N,rfl,bz,hy,hb⟩
   refine⟨_,rfl,λM β=>.cx [_,_] _ rfl λi v c hi hc=>?_,λb aZ h=>?_,by rw [hb.os,hb.output]⟩
   ·match i with
    | 0=>cases hi;cases hc;exact .v _ _ (.int _ _)
    | 1=>cases hi;cases hc;exact .v _ _ (.iface _ _ _ (.any _ rfl))
    |i+2=>simp at hi
   ·rw [hb.block b (Array.getElem?_eq_some_iff.1 h).1];exact h
 ·
   refine s4 (fd:=Tryz.f351) Tryz.func351 rfl rfl (vsOf:=λvs=>vs=[.string ⟨⟨s⟩⟩,.int .i64 10,.int .i64 64]) (λM β vs af ak=>eJ M β vs af ak) (λvs w ay hg=>?_)
   subst ay;obtain⟨fr,Z,ae⟩:=hg.1 5 (by rw [I2];simp)
   refine(Tryz.strconv_ParseInt_10_at64_range ⟨⟨s⟩⟩ af hp fr w Z ae).mono ?_
   rintro e w' ⟨N,rfl,bz,hy,hb⟩
   refine⟨_,rfl,λM β=>.cx [_,_] _ rfl λi v c hi hc=>?_,λb aZ h=>?_,by rw [hb.os,hb.output]⟩
   ·match i with
    | 0=>cases hi;cases hc;exact .v _ _ (.int _ _)
    | 1=>cases hi;cases hc;exact .v _ _ (.iface _ _ _ (.any _ rfl))
    |i+2=>simp at hi
   ·rw [hb.block b (Array.getElem?_eq_some_iff.1 h).1];exact h
def CX : Tryz.prog.globalNamed "internal/strconv.uint64pow10" = some 1 := by kernel_rfl
def Sl:(Lib.pow10Tab.map λz=>Value.int .u64 z).toArray=G1:=by kernel_rfl
def acD {w : World} (h : Cz Tryz.prog w) : Lib.TabIs Tryz.prog w "internal/strconv.uint64pow10" .u64 Lib.pow10Tab := by
 obtain⟨t,jR,Z⟩:=h.2 1 CX;unfold Lib.TabIs World.var?;rw [CX,Option.bind_some,Z,Sl]
def acE{n:Nat}{i:Int}{base:Int}{r:al5}(h:CV n i base=some r):gk Tryz.prog 320 [.v (.int .i64 i),.v (.int .i64 base)] [] [] (.ret (.v (.str r)) none) []:=by
 unfold CV at h;obtain⟨g,h⟩:=qo h;obtain rfl:=Option.some.inj h;obtain⟨rfl,h0,Z⟩:=of_decide_eq_true g;refine s4 (fd:=Tryz.f320) Tryz.func320 rfl rfl (vsOf:=λvs=>vs=[.int .i64 i,.int .i64 10]) (λM β vs af ak=>?_) (λvs w ay hg=>?_)
 ·match vs,af with
  |[v,u],_=>
   have g1:=k9 (ak 0 v _ rfl rfl);have g2:=k9 (ak 1 u _ rfl rfl);rw [g1,g2]
 ·subst ay;refine(Tryz.strconv_FormatInt_10 i h0 Z w (acD hg)).mono ?_
  rintro e w' ⟨rfl,k,os,rfl⟩
  exact⟨_,rfl,λM β=>.v _ _ (.str _),λb aZ h=>(Lib.heap_grow_old w k os b (Array.getElem?_eq_some_iff.1 h).1).trans h,rfl⟩
def Sm{b:List Int}(g:(lj b&&decide (b.length≤9223372036854775807))=true):b.length=(hl b).length∧∀i,i<(hl b).length→(λi=>cC (b.getD i default)) i = .int .u8 (((hl b).getD i 0).toNat:Int):=by
 simp only [Bool.and_eq_true]at g;obtain⟨Z,ae⟩:=s9 g.1;exact⟨Z.symm,λi hi=>ae i (by omega)⟩
def Sn{b:List Int}(g:(lj b&&decide (b.length≤9223372036854775807))=true):(hl b).length≤9223372036854775807:=by
 simp only [Bool.and_eq_true,decide_eq_true_eq]at g;rw [(s9 g.1).1];exact g.2
def I3:Go.Proofs.Builder.Extra Tryz.prog Tryz.RZ where
 sizeBuilder:=by kernel_rfl
 liesBuilder:=by kernel_rfl
 t5:=Tryz.underlying5
 a5:=Tryz.isAgg5
 z5:=Tryz.sizeOf5
 v5:=Tryz.zeroValue5
 infoByte:=by kernel_rfl
 cellsByte:=by kernel_rfl
 sizeByte:=by kernel_rfl
 neB5:=by decide
def So{n:Nat}{elems:List al5}{sep:al5}{r:al5}(h:CW n elems sep=some r):gk Tryz.prog 119 [.v (ai 1 bv elems),.v (.str sep)] [] [] (.ret (.v (.str r)) none) []:=by
 unfold CW at h;obtain⟨g,h⟩:=qo h;obtain rfl:=Option.some.inj h;obtain⟨bz,mc⟩:=of_decide_eq_true g
 have Sp:(elems.map λs=>(⟨⟨s⟩⟩:ByteArray)).map (·.data.toList)=elems:=by
  rw [List.map_map];conv=>rhs;rw [←List.map_id elems]
  rfl
 refine Ru (fd:=Tryz.f119) Tryz.func119 rfl rfl (vsOf:=λw vs=>(∃a,vs=[.slice a 0 0,.string ⟨⟨sep⟩⟩]∧elems=[])∨∃vr o c,vs=[.slice (some ⟨vr,o,none⟩) elems.length c,.string ⟨⟨sep⟩⟩]∧elems.length≤c∧∀(j:Nat) x,elems[j]? = some x→w.cell? ⟨vr,o+j,none⟩=some (.string ⟨⟨x⟩⟩)) (λw M β vs hm af ak=>?_) (λvs w ay hg=>?_)
 ·match vs,af with
  |[v,u],_=>
   have g2:=lH (ak 1 u _ rfl rfl);have g1:=ak 0 v _ rfl rfl;rw [g2];rcases q0 (k:=1) (n:=elems.length) (get:=λi=>bv (elems.getD i default)) g1 with⟨Z,ae⟩|⟨b,off,cap,val,Z,hc,hk,cM,il,f9⟩
   ·rcases Z with Z|⟨a,Z⟩
    ·exact .inl ⟨none,by rw [Z],List.eq_nil_of_length_eq_zero ae⟩
    ·exact .inl ⟨some a,by rw [Z],List.eq_nil_of_length_eq_zero ae⟩
   ·refine .inr ⟨b,off,cap,by rw [Z],hc,λj x hx=>?_⟩
    have hj:j<elems.length:=(List.getElem?_eq_some_iff.1 hx).1;have e1:=hm _ _ _ (cM j 0 hj (by omega))
    have e2:=f9 j 0 (.str x) hj (by
     have:elems.getD j default=x:=by simp [List.getD,hx]
     rw [this];rfl)
    rw [show off+j*1+0=off+j by omega]at e1
    rw [e1];generalize val j 0=y at e2 ⊢
    cases e2;rfl
 ·rcases ay with⟨a,rfl,rfl⟩|⟨vr,o,c,rfl,hc,oc⟩
  ·refine(Any.strings_Join_none Tryz.IR I3 a 0 ⟨⟨sep⟩⟩ w).mono ?_
   rintro e w' ⟨rfl,rfl⟩
   exact⟨_,rfl,λM β=>.v _ _ (.str _),λb aZ h=>h,rfl⟩
  ·cases elems with
   |nil=>
    refine(Any.strings_Join_none Tryz.IR I3 (some ⟨vr,o,none⟩) c ⟨⟨sep⟩⟩ w).mono ?_
    rintro e w' ⟨rfl,rfl⟩
    exact⟨_,rfl,λM β=>.v _ _ (.str _),λb aZ h=>h,rfl⟩
   |cons fj acF=>
    have acG:vr<w.heap.size:=lt_of_cell (oc 0 fj rfl)
    have hj:=Any.strings_Join Tryz.IR I3 vr o c ((fj::acF).map λs=>(⟨⟨s⟩⟩:ByteArray)) ⟨⟨sep⟩⟩ w (λj x hx=>by
     rw [List.getElem?_map,Option.map_eq_some_iff]at hx;obtain⟨y,cl,rfl⟩:=hx;exact oc j y cl) acG (by simpa using bz) (by simpa using hc) (by rw [Sp];exact mc)
    rw [List.length_map]at hj;refine hj.mono ?_
    rintro e w' ⟨rfl,hb⟩
    refine⟨_,rfl,λM β=>?_,λb aZ h=>?_,by rw [hb.os,hb.output]⟩
    ·rw [Sp];exact .v _ _ (.str _)
    ·rw [hb.block b (Array.getElem?_eq_some_iff.1 h).1];exact h
end Go.Ab.Y
namespace Go.Ab.Y
open Go Go.Ab Go.Proofs T
abbrev ama{ρ:Type}(i:FuncId)(a:List D)(F:Option ρ)(o:ρ→Out):Prop:=aL i a [] [] F o λ_=>[]
abbrev amb(i:FuncId)(a:List D)(F:Option Bool):Prop:=ama i a F λr=>aJ (bR r)
abbrev amc(i:FuncId)(a:List D)(F:Option Int):Prop:=ama i a F λr=>aJ (bg r)
end Go.Ab.Y

/- The types of this claim, and the contracts that were written by hand. -/
import Derived.Test.YtcjbfnojhpfchaaGreatDoorProg
import Derived.WalkKit
import Derived.Lib.Builder
import Derived.Lib.UnsafeStr
import Derived.Laws.Externs
import Derived.Shelf.RegionOpenPlain
import Derived.Lib.Join
import Derived.Lib.Bytealg
import Derived.Lib.ItoaNum
import Derived.Lib.ParseIntBCases
import Derived.Lib.AppendIntMem
import Derived.Lib.AtoiErrMem
import Derived.Test.YtcjbfnojhpfchaaGreatDoorShelf
set_option linter.all false
namespace Go.Ab
abbrev ae9(x:Int):Int:=IntKind.i64.wrap x
abbrev ae'{α:Type}[Inhabited α](l:List α)(i:Int):α:=l.getD i.toNat default
abbrev ae_:=Option Bool
abbrev afa:=Option Int
abbrev V.afb(x:Int):V:=.int .i64 x
end Go.Ab
namespace Go.Ab.Y
open Go Go.Proofs
def lk(c:UInt8):Bool:=decide ((97≤c.toNat∧c.toNat≤122)∨(48≤c.toNat∧c.toNat≤57)∨c.toNat=95)
def kN(s:ae7):Nat:=(s.takeWhile lk).length
def EL{s:ae7}{k:Nat}(hk:k≤s.length)(h:∀(j:Nat) c,j<k→s[j]? = some c→lk c=true)(he:∀c,s[k]? = some c→lk c=false):kN s=k:=by
 unfold kN;induction s generalizing k with
 |nil=>simp at hk ⊢;omega
 |cons c s a'=>
  cases k with
  |zero=>
   have:=he c rfl
   simp [List.takeWhile,this]
  |succ k=>
   have h0:=h 0 c (by omega) rfl
   simp only [List.takeWhile,h0,List.length_cons];rw [a' (by simpa using hk) (λj c hj hc=>h (j+1) c (by omega) (by simpa using hc)) (λc hc=>he c (by simpa using hc))]
def EM(s:ByteArray)(k:Nat)(h:k<s.size):s.data.toList[k]? = some (s[k]'h):=by
 have:k<s.data.toList.length:=by simpa using h
 rw [List.getElem?_eq_getElem this];rfl
def zH(s:ByteArray)(k:Nat):Prop:=∀(j:Nat) c,j<k→s.data.toList[j]? = some c→lk c=true
def zH.succ{s:ByteArray}{k:Nat}(h:zH s k)(hk:k<s.size)(hc:lk (s[k]'hk)=true):zH s (k+1):=by
 intro j c hj ih;by_cases e:j=k
 ·subst e;rw [EM s j hk]at ih;cases ih;exact hc
 ·exact h j c (by omega) ih
set_option maxRecDepth 100000 in
def Wq(s:ByteArray)(w:World)(hs:s.size≤140737488351232):
 Calls Tryz.prog 174 #[.string s] w λe w'=>e = .returned (.int .i64 (kN s.data.toList))∧∃pos,w'=w.iter s pos:=by
 go_enter Tryz.func174,Tryz.ntmps174
 go_wp2
 go_loopw [] (λw'=>∃k:Nat,w'=w.iter s k∧k≤s.size∧zH s k) (λw'=>s.size-w'.iterPos w.heap.size)
 case atStart=>exact⟨0,rfl,by omega,λj c hj=>by omega⟩
 case round=>
  obtain⟨k,rfl,hk,hin⟩:=hrel;by_cases hp:k<s.size
  ·by_cases ha:(s[k]'hp).toNat<128
   ·have hnx:∀ty,(Instr.next (.pointer (some ⟨w.heap.size,0,none⟩)) true ty).run Tryz.prog (w.iter s k)=_:=λty=>run_next_ascii w s k ty hp ha
    cases hw:lk (s[k]'hp)
    ·have hlen:=EL (s:=s.data.toList) (k:=k) (by simpa using hk) hin (λc hc=>by rw [EM s k hp]at hc;cases hc;exact hw)
     have hc:=of_decide_eq_false hw;clear hw
     go_wp2
     all_goals first
      |(exfalso;simp at *;omega)
      |(go_ret;exact⟨by first |rfl |(rw [hlen];rfl),_,rfl⟩)
    ·have hc:=of_decide_eq_true hw;have hin2:=hin.succ hp hw;clear hw hin
     go_wp2
     all_goals first
      |(exfalso;simp at *;omega)
      |(
       go_roundw
       case rel=>exact⟨k+1,rfl,hp,hin2⟩
       case measure=>simp;omega)
   ·have hnx:∀ty,(Instr.next (.pointer (some ⟨w.heap.size,0,none⟩)) true ty).run Tryz.prog (w.iter s k)=_:=λty=>run_next_any w s k ty hp
    have hd:=(decode_high s k hp (by omega)).1
    have hle:=decode_le s k
    have hlen:=EL (s:=s.data.toList) (k:=k) (by simpa using hk) hin (λc hc=>by
     rw [EM s k hp]at hc;cases hc;exact decide_eq_false (by omega))
    generalize Utf8.decode s k=d at hnx hd hle
    go_wp2
    all_goals first
     |(exfalso;simp at *;omega)
     |(go_ret;exact⟨by first |rfl |(rw [hlen];rfl),_,rfl⟩)
  ·have hnx:∀ty,(Instr.next (.pointer (some ⟨w.heap.size,0,none⟩)) true ty).run Tryz.prog (w.iter s k)=_:=λty=>run_next_end w s k ty hp
   have hlen:=EL (s:=s.data.toList) (k:=k) (by simpa using hk) hin (λc hc=>by
    have:=(List.getElem?_eq_some_iff.1 hc).1
    simp at this;omega)
   obtain rfl:k=s.size:=by omega
   go_wp2
   go_ret
   exact⟨by first|rfl|(rw [hlen];rfl),_,rfl⟩
open Go Go.Proofs Go.RowKit
def Mh:(Tryz.prog.info? 120).map (·.size)=some 2:=by kernel_rfl
set_option maxHeartbeats 1000000 in
set_option maxRecDepth 100000 in
def Mi(b:Nat)(w:World)(h0:w.cell? ⟨b,0,none⟩=some (.pointer (some ⟨b,0,none⟩))):
 Calls Tryz.prog 113 #[.pointer (some ⟨b,0,none⟩)] w λe w'=>e = .returned (.tuple #[])∧w'=w:=by
 obtain⟨j,hj,_⟩:=Option.map_eq_some_iff.1 Mh
 go_enter Tryz.func113,Tryz.ntmps113
 go_wp2
 rw [Lib.run_neq_ptr_same w _ Tryz.underlying117 hj]
 go_wp2
 go_end0
 exact⟨rfl,rfl⟩
set_option maxHeartbeats 1000000 in
set_option maxRecDepth 100000 in
def Mj(b:Nat)(w:World)(T:TypeId)(k:Nat)(h0:w.cell? ⟨b,0,none⟩=some (.pointer none))(hsh:w.shape? b=some (T,k))(hk:0<k)(hlies:liesAt Tryz.prog Tryz.prog.depth T (k / Tryz.prog.cellsOf T) 0 120 1=true)(hfz:w.frozen? ⟨b,0,none⟩=false):
 Calls Tryz.prog 113 #[.pointer (some ⟨b,0,none⟩)] w λe w'=>e = .returned (.tuple #[])∧w'=w.setCell ⟨b,0,none⟩ (.pointer (some ⟨b,0,none⟩)):=by
 obtain⟨j,hj,hjs⟩:=Option.map_eq_some_iff.1 Mh
 go_enter Tryz.func113,Tryz.ntmps113
 go_wp2
 rw [Lib.run_to_unsafe w ⟨b,0,none⟩ Tryz.underlying117 Tryz.underlying256 hj (by rw [hjs];decide) hsh hk]
 simp only [Result.andThen];rw [Oper.upon_value]
 go_wp2
 rw [run_callFunc_extern Tryz.func184 (by kernel_rfl) (by kernel_rfl) (by kernel_rfl) (e:=Extern.AbiNoEscape.same) (by kernel_rfl)]
 rw [Lib.run_noEscape];simp only [Result.andThen];rw [Oper.upon_value]
 go_wp2
 rw [Lib.run_from_unsafe w ⟨b,0,none⟩ Tryz.underlying256 Tryz.underlying117 hj hsh hlies];simp only [Result.andThen];rw [Oper.upon_value]
 go_wp2
 go_end0
 exact⟨rfl,rfl⟩
def cellsByte:Tryz.prog.cellsOf 5=1:=by kernel_rfl
set_option maxHeartbeats 2000000 in
set_option maxRecDepth 100000 in
def Mk(b:Nat)(w:World)(h:w.cell? ⟨b,1,none⟩=some (.slice none 0 0)):
 Calls Tryz.prog 66 #[.pointer (some ⟨b,0,none⟩)] w λe w'=>e = .returned (.string ⟨#[]⟩)∧w'=w.drew:=by
 have hUS:(Builtin.unsafeString_ #[191,3] 9 #[.pointer none,.int .i64 0]).run Tryz.prog w.drew = .ok (.string .empty) w.drew:=Lib.run_unsafeString_none w.drew _ _ _ none;have c1:w.drew.cell? ⟨b,1,none⟩=some (.slice none 0 0):=h;have hSD:(Builtin.unsafeSliceData_ #[118] 191 #[.slice none 0 0]).run Tryz.prog w.drew = .ok (.pointer none) w.drew:=rfl;have mixed:Tryz.prog.follows .mixedOrders=true:=by kernel_rfl
 go_enter Tryz.func66,Tryz.ntmps66
 go_wp2
 go_region_o
 all_goals (go_wp2;go_ret;exact⟨rfl,rfl⟩)
set_option maxHeartbeats 2000000 in
set_option maxRecDepth 100000 in
def Ml(b g cap:Nat)(w:World)(hc0:cap≠0)(h:w.cell? ⟨b,1,none⟩=some (.slice (some ⟨g,0,none⟩) 0 cap)):
 Calls Tryz.prog 66 #[.pointer (some ⟨b,0,none⟩)] w λe w'=>e = .returned (.string ⟨#[]⟩)∧w'=w.drew:=by
 have hUS:(Builtin.unsafeString_ #[191,3] 9 #[.pointer (some ⟨g,0,none⟩),.int .i64 0]).run Tryz.prog w.drew = .ok (.string .empty) w.drew:=Lib.run_unsafeString_none w.drew _ _ _ _;have c1:w.drew.cell? ⟨b,1,none⟩=some (.slice (some ⟨g,0,none⟩) 0 cap):=h;have hSD:(Builtin.unsafeSliceData_ #[118] 191 #[.slice (some ⟨g,0,none⟩) 0 cap]).run Tryz.prog w.drew = .ok (.pointer (some ⟨g,0,none⟩)) w.drew:=Lib.run_unsafeSliceData_row _ _ _ _ _ _ hc0;clear hc0;have mixed:Tryz.prog.follows .mixedOrders=true:=by kernel_rfl
 go_enter Tryz.func66,Tryz.ntmps66
 go_wp2
 go_region_o
 all_goals (go_wp2;go_ret;exact⟨rfl,rfl⟩)
set_option maxHeartbeats 2000000 in
set_option maxRecDepth 100000 in
def Mm(b g:Nat)(w:World)(vs:List Value)(h:w.cell? ⟨b,1,none⟩=some (.slice (some ⟨g,0,none⟩) 0 0))(hb:b<w.heap.size)(hg:w.heap[g]? = some (.cells ⟨vs⟩ 5 (0,0))):
 Calls Tryz.prog 66 #[.pointer (some ⟨b,0,none⟩)] w λe w'=>e = .returned (.string ⟨#[]⟩)∧w'=(w.drew.alloc (.view ⟨g,0,none⟩ 5)):=by
 have hUS:∀(q:Option Addr) (W:World),(Builtin.unsafeString_ #[191,3] 9 #[.pointer q,.int .i64 0]).run Tryz.prog W = .ok (.string .empty) W:=λq W=>Lib.run_unsafeString_none W _ _ _ q
 have c1:w.drew.cell? ⟨b,1,none⟩=some (.slice (some ⟨g,0,none⟩) 0 0):=h
 have hSD:(Builtin.unsafeSliceData_ #[118] 191 #[.slice (some ⟨g,0,none⟩) 0 0]).run Tryz.prog w.drew = .ok (.pointer (some ⟨w.drew.heap.size,0,none⟩)) (w.drew.alloc (.view ⟨g,0,none⟩ 5)):=
  Lib.run_unsafeSliceData_zero w.drew _ _ 5 Tryz.underlying191 ⟨g,0,none⟩ 0 (5,vs.length) (by have hg':w.drew.heap[g]? = some (.cells ⟨vs⟩ 5 (0,0)):=hg;simp [World.shape?,hg'])
 have c2:(w.drew.alloc (.view ⟨g,0,none⟩ 5)).cell? ⟨b,1,none⟩=some (.slice (some ⟨g,0,none⟩) 0 0):=by
  unfold World.cell? at h ⊢;rw [show(w.drew.alloc (.view ⟨g,0,none⟩ 5)).heap[b]? = w.heap[b]? from Lib.alloc_old w.drew _ b hb];exact h
 have c3:(w.alloc (.view ⟨g,0,none⟩ 5)).drew.cell? ⟨b,1,none⟩=some (.slice (some ⟨g,0,none⟩) 0 0):=c2;have mixed:Tryz.prog.follows .mixedOrders=true:=by kernel_rfl
 go_enter Tryz.func66,Tryz.ntmps66
 go_wp2
 go_region_o
 all_goals (go_wp2;go_ret;exact⟨rfl,rfl⟩)
set_option maxHeartbeats 2000000 in
set_option maxRecDepth 100000 in
def Mn(b g cap:Nat)(w:World)(vs:List Value)(l:ae7)(h0:l≠[])(h:w.cell? ⟨b,1,none⟩=some (.slice (some ⟨g,0,none⟩) l.length cap))(hg:w.heap[g]? = some (.cells ⟨vs⟩ 5 (0,0)))
 (hn:l.length≤cap) (hcap:cap≤vs.length) (h63:l.length≤9223372036854775807) (hc:∀(j:Nat) (x:UInt8),l[j]? = some x→vs[j]? = some (Value.int .u8 x.toNat)):
 Calls Tryz.prog 66 #[.pointer (some ⟨b,0,none⟩)] w λe w'=>e = .returned (.string ⟨l.toArray⟩)∧w'=w.drew.freeze ⟨g,0,none⟩ l.length:=by
 have hl0:l.length≠0:=by simpa using h0
 have c1:w.drew.cell? ⟨b,1,none⟩=some (.slice (some ⟨g,0,none⟩) l.length cap):=h;have hg':w.drew.heap[g]? = some (.cells ⟨vs⟩ 5 (0,0)):=hg;have hSD:(Builtin.unsafeSliceData_ #[118] 191 #[.slice (some ⟨g,0,none⟩) l.length cap]).run Tryz.prog w.drew = .ok (.pointer (some ⟨g,0,none⟩)) w.drew:=Lib.run_unsafeSliceData_row _ _ _ _ _ _ (by omega)
 have hUS:(Builtin.unsafeString_ #[191,3] 9 #[.pointer (some ⟨g,0,none⟩),.int .i64 l.length]).run Tryz.prog w.drew = .ok (.string ⟨l.toArray⟩) (w.drew.freeze ⟨g,0,none⟩ l.length):=
  Lib.run_unsafeString_row w.drew 191 3 9 5 Tryz.underlying191 cellsByte g vs.length (by simp [World.shape?,hg']) l h0 (by omega) h63 (λj x hx=>by
   have:=hc j x hx
   rw [show(⟨g,0,none⟩:Addr).add j=⟨g,j,none⟩by unfold Addr.add;split<;>simp_all,Go.Ab.cell_of_heap hg',this])
 have mixed:Tryz.prog.follows .mixedOrders=true:=by kernel_rfl
 go_enter Tryz.func66,Tryz.ntmps66
 go_wp2
 go_region_o
 all_goals (go_wp2;go_ret;exact⟨rfl,rfl⟩)
open Go Go.Ab Go.Proofs
abbrev adU(x:Int):V:=.int .i32 x
abbrev Wr(x:Int):V:=.int .i64 x
abbrev adV(x:Int):V:=.int .u32 x
abbrev adW(x:Int):V:=.int .u64 x
abbrev cm(x:Int):V:=.int .u8 x
def adX{α β c6:Type}{a:α}{f:α→c6}{g:β→c6}{r:c6}(h:gB.on (.inl a) f g=r):f a=r:=h
def adY{α β c6:Type}{b:β}{f:α→c6}{g:β→c6}{r:c6}(h:gB.on (.inr b) f g=r):g b=r:=h
abbrev adZ(x:Bool):V:=.bool x
abbrev bp(x:ae7):V:=.str x
structure bv where
 Kind:Int
 N:Int
 S:ae7
instance:Inhabited bv:=⟨⟨0,0,([]:ae7)⟩⟩
def dG(x:bv):V:=.agg [.int .i64 x.Kind,.int .i64 x.N,.str x.S]
structure Version where
 fB:Int
 cj:bv
instance:Inhabited Version:=⟨⟨0,(⟨0,0,([]:ae7)⟩:bv)⟩⟩
def ia(x:Version):V:=.agg [.int .i64 x.fB,.int .i64 x.cj.Kind,.int .i64 x.cj.N,.str x.cj.S]
structure Row where
 Key:ae7
 bx:List Version
instance:Inhabited Row:=⟨⟨([]:ae7),([]:List Version)⟩⟩
def cM(x:Row):V:=.agg [.str x.Key,af 4 ia x.bx]
structure aD where
 cy:Int
 ct:Int
 Rows:List Row
instance:Inhabited aD:=⟨⟨0,0,([]:List Row)⟩⟩
def Ws(x:aD):V:=.agg [.int .i64 x.cy,.int .i64 x.ct,af 2 cM x.Rows]
structure Param where
 Name:ae7
 gc:Int
instance:Inhabited Param:=⟨⟨([]:ae7),0⟩⟩
def d_(x:Param):V:=.agg [.str x.Name,.int .i64 x.gc]
structure Expr where
 Op:Int
 N:Int
 S:ae7
 aw:List Expr
instance:Inhabited Expr:=⟨⟨0,0,([]:ae7),([]:List Expr)⟩⟩
mutual
def bP:Expr→V
 |⟨Op,N,S,aw⟩=>.agg [.int .i64 Op,.int .i64 N,.str S,.bm 4 aw.length λi=>(wn aw).getD i .dD]
def wn:List Expr→List V
 |[]=>[]
 |x::l=>bP x::wn l
end
def Mo:∀l:List Expr,wn l=l.map bP
 |[]=>rfl
 |x::l=>by rw [wn,Mo l];rfl
def Mp(l:List Expr)(i:Nat)(h:i<l.length):(wn l).getD i .dD=bP (l.getD i default):=by
 rw [Mo];simp [List.getD,List.getElem?_eq_getElem h]
def EN(x:Expr):iG (bP x).cells [.int .i64 x.Op,.int .i64 x.N,.str x.S,af 4 bP x.aw]:=by
 cases x;exact .cons (gt _) (.cons (gt _) (.cons (gt _) (.cons (nR λi hi=>Mp _ i hi) (iG.nil))))
def wo(x:Expr):iG [.int .i64 x.Op,.int .i64 x.N,.str x.S,af 4 bP x.aw] (bP x).cells:=by
 cases x;exact .cons (gt _) (.cons (gt _) (.cons (gt _) (.cons (nR λi hi=>(Mp _ i hi).symm) (iG.nil))))
def hG(x:Expr):fX (bP x) (.agg [.int .i64 x.Op,.int .i64 x.N,.str x.S,af 4 bP x.aw]):=by
 have h:=EN x;cases x;exact Ls h
structure Stmt where
 Op:Int
 Name:ae7
 Max:Int
 A:Expr
 B:Expr
 Body:List Stmt
 bR:List Stmt
instance:Inhabited Stmt:=⟨⟨0,([]:ae7),0,(⟨0,0,([]:ae7),([]:List Expr)⟩:Expr),(⟨0,0,([]:ae7),([]:List Expr)⟩:Expr),([]:List Stmt),([]:List Stmt)⟩⟩
mutual
def bI:Stmt→V
 |⟨Op,Name,Max,A,B,Body,bR⟩=>.agg [.int .i64 Op,.str Name,.int .i64 Max,.int .i64 A.Op,.int .i64 A.N,.str A.S,af 4 bP A.aw,.int .i64 B.Op,.int .i64 B.N,.str B.S,af 4 bP B.aw,.bm 13 Body.length λi=>(tq Body).getD i .dD,.bm 13 bR.length λi=>(tq bR).getD i .dD]
def tq:List Stmt→List V
 |[]=>[]
 |x::l=>bI x::tq l
end
def Mq:∀l:List Stmt,tq l=l.map bI
 |[]=>rfl
 |x::l=>by rw [tq,Mq l];rfl
def zI(l:List Stmt)(i:Nat)(h:i<l.length):(tq l).getD i .dD=bI (l.getD i default):=by
 rw [Mq];simp [List.getD,List.getElem?_eq_getElem h]
def Wt(x:Stmt):iG (bI x).cells [.int .i64 x.Op,.str x.Name,.int .i64 x.Max,.int .i64 x.A.Op,.int .i64 x.A.N,.str x.A.S,af 4 bP x.A.aw,.int .i64 x.B.Op,.int .i64 x.B.N,.str x.B.S,af 4 bP x.B.aw,af 13 bI x.Body,af 13 bI x.bR]:=by
 cases x;exact .cons (gt _) (.cons (gt _) (.cons (gt _) (.cons (gt _) (.cons (gt _) (.cons (gt _) (.cons (gt _) (.cons (gt _) (.cons (gt _) (.cons (gt _) (.cons (gt _) (.cons (nR λi hi=>zI _ i hi) (.cons (nR λi hi=>zI _ i hi) (iG.nil)))))))))))))
def Mr(x:Stmt):iG [.int .i64 x.Op,.str x.Name,.int .i64 x.Max,.int .i64 x.A.Op,.int .i64 x.A.N,.str x.A.S,af 4 bP x.A.aw,.int .i64 x.B.Op,.int .i64 x.B.N,.str x.B.S,af 4 bP x.B.aw,af 13 bI x.Body,af 13 bI x.bR] (bI x).cells:=by
 cases x;exact .cons (gt _) (.cons (gt _) (.cons (gt _) (.cons (gt _) (.cons (gt _) (.cons (gt _) (.cons (gt _) (.cons (gt _) (.cons (gt _) (.cons (gt _) (.cons (gt _) (.cons (nR λi hi=>(zI _ i hi).symm) (.cons (nR λi hi=>(zI _ i hi).symm) (iG.nil)))))))))))))
def jw(x:Stmt):fX (bI x) (.agg [.int .i64 x.Op,.str x.Name,.int .i64 x.Max,.int .i64 x.A.Op,.int .i64 x.A.N,.str x.A.S,af 4 bP x.A.aw,.int .i64 x.B.Op,.int .i64 x.B.N,.str x.B.S,af 4 bP x.B.aw,af 13 bI x.Body,af 13 bI x.bR]):=by
 have h:=Wt x;cases x;exact Ls h
structure bb where
 Name:ae7
 Params:List Param
 Body:List Stmt
instance:Inhabited bb:=⟨⟨([]:ae7),([]:List Param),([]:List Stmt)⟩⟩
def dK(x:bb):V:=.agg [.str x.Name,af 2 d_ x.Params,af 13 bI x.Body]
structure Outcome where
 Status:Int
 Code:Int
 Out:List bv
instance:Inhabited Outcome:=⟨⟨0,0,([]:List bv)⟩⟩
def Wu(x:Outcome):V:=.agg [.int .i64 x.Status,.int .i64 x.Code,af 3 dG x.Out]
structure ea where
 Client:Int
 Seq:Int
 Outcome:Outcome
instance:Inhabited ea:=⟨⟨0,0,(⟨0,0,([]:List bv)⟩:Outcome)⟩⟩
def hf(x:ea):V:=.agg [.int .i64 x.Client,.int .i64 x.Seq,.int .i64 x.Outcome.Status,.int .i64 x.Outcome.Code,af 3 dG x.Outcome.Out]
structure bC where
 Client:Int
 Next:Int
 bV:List ea
instance:Inhabited bC:=⟨⟨0,0,([]:List ea)⟩⟩
def c8(x:bC):V:=.agg [.int .i64 x.Client,.int .i64 x.Next,af 5 hf x.bV]
structure Part where
 Id:Int
 fp:ae7
 Node:Int
 hh:Int
 hH:ae7
instance:Inhabited Part:=⟨⟨0,([]:ae7),0,0,([]:ae7)⟩⟩
def cJ(x:Part):V:=.agg [.int .i64 x.Id,.str x.fp,.int .i64 x.Node,.int .i64 x.hh,.str x.hH]
structure ck where
 Version:Int
 aX:List Part
instance:Inhabited ck:=⟨⟨0,([]:List Part)⟩⟩
def Wv(x:ck):V:=.agg [.int .i64 x.Version,af 5 cJ x.aX]
structure be where
 Key:ae7
 Count:Int
instance:Inhabited be:=⟨⟨([]:ae7),0⟩⟩
def dx(x:be):V:=.agg [.str x.Key,.int .i64 x.Count]
structure eK where
 ee:Bool
 Reads:List ae7
 cz:List ae7
instance:Inhabited eK:=⟨⟨false,([]:List ae7),([]:List ae7)⟩⟩
def Ww(x:eK):V:=.agg [.bool x.ee,af 1 bp x.Reads,af 1 bp x.cz]
structure Request where
 Client:Int
 Seq:Int
 bb:ae7
 aw:List bv
 eA:Bool
 br:eK
instance:Inhabited Request:=⟨⟨0,0,([]:ae7),([]:List bv),false,(⟨false,([]:List ae7),([]:List ae7)⟩:eK)⟩⟩
def eb(x:Request):V:=.agg [.int .i64 x.Client,.int .i64 x.Seq,.str x.bb,af 3 dG x.aw,.bool x.eA,.bool x.br.ee,af 1 bp x.br.Reads,af 1 bp x.br.cz]
structure b_ where
 Pos:Int
 aD:aD
 cp:List bb
 cU:List bC
 Place:ck
 be:List be
 Queue:List Request
 dh:Int
instance:Inhabited b_:=⟨⟨0,(⟨0,0,([]:List Row)⟩:aD),([]:List bb),([]:List bC),(⟨0,([]:List Part)⟩:ck),([]:List be),([]:List Request),0⟩⟩
def EO(x:b_):V:=.agg [.int .i64 x.Pos,.int .i64 x.aD.cy,.int .i64 x.aD.ct,af 2 cM x.aD.Rows,af 3 dK x.cp,af 3 c8 x.cU,.int .i64 x.Place.Version,af 5 cJ x.Place.aX,af 2 dx x.be,af 8 eb x.Queue,.int .u64 x.dh]
structure bS where
 Key:ae7
 cj:bv
instance:Inhabited bS:=⟨⟨([]:ae7),(⟨0,0,([]:ae7)⟩:bv)⟩⟩
def e8(x:bS):V:=.agg [.str x.Key,.int .i64 x.cj.Kind,.int .i64 x.cj.N,.str x.cj.S]
structure ft where
 s:ae7
 at_:Int
 e:Int
instance:Inhabited ft:=⟨⟨([]:ae7),0,0⟩⟩
def ad0(x:ft):V:=.agg [.str x.s,.int .i64 x.at_,.int .i64 x.e]
structure mx where
 fc:b_
 EP:List bS
 sources:List ae7
instance:Inhabited mx:=⟨⟨(⟨0,(⟨0,0,([]:List Row)⟩:aD),([]:List bb),([]:List bC),(⟨0,([]:List Part)⟩:ck),([]:List be),([]:List Request),0⟩:b_),([]:List bS),([]:List ae7)⟩⟩
def ad1(x:mx):V:=.agg [.int .i64 x.fc.Pos,.int .i64 x.fc.aD.cy,.int .i64 x.fc.aD.ct,af 2 cM x.fc.aD.Rows,af 3 dK x.fc.cp,af 3 c8 x.fc.cU,.int .i64 x.fc.Place.Version,af 5 cJ x.fc.Place.aX,af 2 dx x.fc.be,af 8 eb x.fc.Queue,.int .u64 x.fc.dh,af 4 e8 x.EP,af 1 bp x.sources]
structure Token where
 Kind:Int
 Text:ae7
 N:Int
 kO:Int
instance:Inhabited Token:=⟨⟨0,([]:ae7),0,0⟩⟩
def cn(x:Token):V:=.agg [.int .i64 x.Kind,.str x.Text,.int .i64 x.N,.int .i64 x.kO]
structure Ms where
 Wx:Int
 seq:Int
instance:Inhabited Ms:=⟨⟨0,0⟩⟩
def ad2(x:Ms):V:=.agg [.int .i64 x.Wx,.int .i64 x.seq]
structure EQ where
 Wy:Bool
 Stmt:Stmt
 Wz:Int
 Expr:Expr
 WA:Bool
instance:Inhabited EQ:=⟨⟨false,(⟨0,([]:ae7),0,(⟨0,0,([]:ae7),([]:List Expr)⟩:Expr),(⟨0,0,([]:ae7),([]:List Expr)⟩:Expr),([]:List Stmt),([]:List Stmt)⟩:Stmt),0,(⟨0,0,([]:ae7),([]:List Expr)⟩:Expr),false⟩⟩
def WB(x:EQ):V:=.agg [.bool x.Wy,.int .i64 x.Stmt.Op,.str x.Stmt.Name,.int .i64 x.Stmt.Max,.int .i64 x.Stmt.A.Op,.int .i64 x.Stmt.A.N,.str x.Stmt.A.S,af 4 bP x.Stmt.A.aw,.int .i64 x.Stmt.B.Op,.int .i64 x.Stmt.B.N,.str x.Stmt.B.S,af 4 bP x.Stmt.B.aw,af 13 bI x.Stmt.Body,af 13 bI x.Stmt.bR,.int .i64 x.Wz,.int .i64 x.Expr.Op,.int .i64 x.Expr.N,.str x.Expr.S,af 4 bP x.Expr.aw,.bool x.WA]
structure aK where
 tokens:List Token
 at_:Int
instance:Inhabited aK:=⟨⟨([]:List Token),0⟩⟩
def ad3(x:aK):V:=.agg [af 4 cn x.tokens,.int .i64 x.at_]
structure Mt where
 line:Int
 code:Int
instance:Inhabited Mt:=⟨⟨0,0⟩⟩
def ad4(x:Mt):V:=.agg [.int .i64 x.line,.int .i64 x.code]
structure i' where
 s:ae7
 at_:Int
 e:Int
instance:Inhabited i':=⟨⟨([]:ae7),0,0⟩⟩
def ad5(x:i'):V:=.agg [.str x.s,.int .i64 x.at_,.int .i64 x.e]
structure my where
 s:ae7
 at_:Int
 e:Int
instance:Inhabited my:=⟨⟨([]:ae7),0,0⟩⟩
def ad6(x:my):V:=.agg [.str x.s,.int .i64 x.at_,.int .i64 x.e]
structure i_ where
 name:Bool
 a:Bool
 b:Bool
 max:Bool
 body:Bool
 other:Bool
instance:Inhabited i_:=⟨⟨false,false,false,false,false,false⟩⟩
def ad7(x:i_):V:=.agg [.bool x.name,.bool x.a,.bool x.b,.bool x.max,.bool x.body,.bool x.other]
structure gu where
 s:ae7
 at_:Int
 e:Int
instance:Inhabited gu:=⟨⟨([]:ae7),0,0⟩⟩
def ad8(x:gu):V:=.agg [.str x.s,.int .i64 x.at_,.int .i64 x.e]
def tt:c7:=[
 (1,⟨.aQ,1,8,[.aF],[]⟩),
 (2,⟨.int .i64,1,8,[.int .i64 0],[]⟩),
 (3,⟨.int .i64,1,8,[.int .i64 0],[]⟩),
 (4,⟨.bool,1,1,[.bool false],[]⟩),
 (5,⟨.int .u8,1,1,[.int .u8 0],[]⟩),
 (6,⟨.int .u8,1,1,[.int .u8 0],[]⟩),
 (7,⟨.bF [(0,2,1),(1,3,1),(2,4,1),(3,6,1)],4,24,[.int .i64 0,.int .i64 0,.bool false,.int .u8 0],[]⟩),
 (8,⟨.bF [(0,2,1),(1,3,1),(2,4,1),(3,6,1)],4,24,[.int .i64 0,.int .i64 0,.bool false,.int .u8 0],[]⟩),
 (9,⟨.str,1,16,[.str ([]:ae7)],[]⟩),
 (10,⟨.str,1,16,[.str ([]:ae7)],[]⟩),
 (11,⟨.str,1,16,[.str ([]:ae7)],[]⟩),
 (12,⟨.int .u64,1,8,[.int .u64 0],[]⟩),
 (13,⟨.bF [(0,9,1),(1,12,1)],2,24,[.str ([]:ae7),.int .u64 0],[]⟩),
 (14,⟨.bF [(0,9,1),(1,12,1)],2,24,[.str ([]:ae7),.int .u64 0],[]⟩),
 (15,⟨.ptr,1,8,[.dD],[]⟩),
 (16,⟨.ptr,1,8,[.dD],[]⟩),
 (17,⟨.ptr,1,8,[.dD],[]⟩),
 (18,⟨.bF [(0,17,1)],1,8,[.dD],[]⟩),
 (19,⟨.bF [(0,17,1)],1,8,[.dD],[]⟩),
 (20,⟨.mf,1,16,[.gF],[]⟩),
 (21,⟨.int .i32,1,4,[.int .i32 0],[]⟩),
 (22,⟨.bm 68,1,24,[af 2 cM ([]:List Row)],[]⟩),
 (23,⟨.bF [(0,2,1),(1,2,1),(2,22,1)],3,40,[.int .i64 0,.int .i64 0,af 2 cM ([]:List Row)],[]⟩),
 (24,⟨.bF [(0,2,1),(1,2,1),(2,22,1)],3,40,[.int .i64 0,.int .i64 0,af 2 cM ([]:List Row)],[]⟩),
 (25,⟨.bm 52,1,24,[af 3 dK ([]:List bb)],[]⟩),
 (26,⟨.bm 101,1,24,[af 3 c8 ([]:List bC)],[]⟩),
 (27,⟨.bm 61,1,24,[af 5 cJ ([]:List Part)],[]⟩),
 (28,⟨.bF [(0,2,1),(1,27,1)],2,32,[.int .i64 0,af 5 cJ ([]:List Part)],[]⟩),
 (29,⟨.bF [(0,2,1),(1,27,1)],2,32,[.int .i64 0,af 5 cJ ([]:List Part)],[]⟩),
 (30,⟨.bm 107,1,24,[af 2 dx ([]:List be)],[]⟩),
 (31,⟨.bm 59,1,24,[af 8 eb ([]:List Request)],[]⟩),
 (32,⟨.int .u64,1,8,[.int .u64 0],[]⟩),
 (33,⟨.bF [(0,2,1),(1,24,3),(4,25,1),(5,26,1),(6,29,2),(8,30,1),(9,31,1),(10,32,1)],11,184,[.int .i64 0,.int .i64 0,.int .i64 0,af 2 cM ([]:List Row),af 3 dK ([]:List bb),af 3 c8 ([]:List bC),.int .i64 0,af 5 cJ ([]:List Part),af 2 dx ([]:List be),af 8 eb ([]:List Request),.int .u64 0],[]⟩),
 (34,⟨.bF [(0,2,1),(1,24,3),(4,25,1),(5,26,1),(6,29,2),(8,30,1),(9,31,1),(10,32,1)],11,184,[.int .i64 0,.int .i64 0,.int .i64 0,af 2 cM ([]:List Row),af 3 dK ([]:List bb),af 3 c8 ([]:List bC),.int .i64 0,af 5 cJ ([]:List Part),af 2 dx ([]:List be),af 8 eb ([]:List Request),.int .u64 0],[]⟩),
 (35,⟨.aQ,1,8,[.aF],[]⟩),
 (36,⟨.aQ,1,8,[.aF],[]⟩),
 (37,⟨.int .i64,1,8,[.int .i64 0],[]⟩),
 (39,⟨.aQ,1,8,[.aF],[]⟩),
 (41,⟨.aQ,1,8,[.aF],[]⟩),
 (42,⟨.aQ,1,8,[.aF],[]⟩),
 (43,⟨.aQ,1,8,[.aF],[]⟩),
 (44,⟨.aQ,1,8,[.aF],[]⟩),
 (45,⟨.aQ,1,8,[.aF],[]⟩),
 (46,⟨.aQ,1,8,[.aF],[]⟩),
 (47,⟨.aQ,1,8,[.aF],[]⟩),
 (48,⟨.aQ,1,8,[.aF],[]⟩),
 (49,⟨.bm 109,1,24,[af 2 d_ ([]:List Param)],[]⟩),
 (50,⟨.bm 167,1,24,[af 13 bI ([]:List Stmt)],[]⟩),
 (51,⟨.bF [(0,9,1),(1,49,1),(2,50,1)],3,64,[.str ([]:ae7),af 2 d_ ([]:List Param),af 13 bI ([]:List Stmt)],[]⟩),
 (52,⟨.bF [(0,9,1),(1,49,1),(2,50,1)],3,64,[.str ([]:ae7),af 2 d_ ([]:List Param),af 13 bI ([]:List Stmt)],[]⟩),
 (53,⟨.aQ,1,8,[.aF],[]⟩),
 (54,⟨.bm 63,1,24,[af 3 dG ([]:List bv)],[]⟩),
 (55,⟨.bm 9,1,24,[af 1 bp ([]:List ae7)],[]⟩),
 (56,⟨.bF [(0,4,1),(1,55,1),(2,55,1)],3,56,[.bool false,af 1 bp ([]:List ae7),af 1 bp ([]:List ae7)],[]⟩),
 (57,⟨.bF [(0,4,1),(1,55,1),(2,55,1)],3,56,[.bool false,af 1 bp ([]:List ae7),af 1 bp ([]:List ae7)],[]⟩),
 (58,⟨.bF [(0,3,1),(1,2,1),(2,9,1),(3,54,1),(4,4,1),(5,57,3)],8,120,[.int .i64 0,.int .i64 0,.str ([]:ae7),af 3 dG ([]:List bv),.bool false,.bool false,af 1 bp ([]:List ae7),af 1 bp ([]:List ae7)],[]⟩),
 (59,⟨.bF [(0,3,1),(1,2,1),(2,9,1),(3,54,1),(4,4,1),(5,57,3)],8,120,[.int .i64 0,.int .i64 0,.str ([]:ae7),af 3 dG ([]:List bv),.bool false,.bool false,af 1 bp ([]:List ae7),af 1 bp ([]:List ae7)],[]⟩),
 (60,⟨.bF [(0,3,1),(1,9,1),(2,3,1),(3,3,1),(4,9,1)],5,56,[.int .i64 0,.str ([]:ae7),.int .i64 0,.int .i64 0,.str ([]:ae7)],[]⟩),
 (61,⟨.bF [(0,3,1),(1,9,1),(2,3,1),(3,3,1),(4,9,1)],5,56,[.int .i64 0,.str ([]:ae7),.int .i64 0,.int .i64 0,.str ([]:ae7)],[]⟩),
 (62,⟨.bF [(0,3,1),(1,2,1),(2,9,1)],3,32,[.int .i64 0,.int .i64 0,.str ([]:ae7)],[]⟩),
 (63,⟨.bF [(0,3,1),(1,2,1),(2,9,1)],3,32,[.int .i64 0,.int .i64 0,.str ([]:ae7)],[]⟩),
 (64,⟨.bF [(0,2,1),(1,63,3)],4,40,[.int .i64 0,.int .i64 0,.int .i64 0,.str ([]:ae7)],[]⟩),
 (65,⟨.bF [(0,2,1),(1,63,3)],4,40,[.int .i64 0,.int .i64 0,.int .i64 0,.str ([]:ae7)],[]⟩),
 (66,⟨.bm 65,1,24,[af 4 ia ([]:List Version)],[]⟩),
 (67,⟨.bF [(0,9,1),(1,66,1)],2,40,[.str ([]:ae7),af 4 ia ([]:List Version)],[]⟩),
 (68,⟨.bF [(0,9,1),(1,66,1)],2,40,[.str ([]:ae7),af 4 ia ([]:List Version)],[]⟩),
 (69,⟨.aQ,1,8,[.aF],[]⟩),
 (71,⟨.aQ,1,8,[.aF],[]⟩),
 (72,⟨.bm 149,1,24,[af 4 e8 ([]:List bS)],[]⟩),
 (74,⟨.aQ,1,8,[.aF],[]⟩),
 (76,⟨.aQ,1,8,[.aF],[]⟩),
 (78,⟨.aQ,1,8,[.aF],[]⟩),
 (80,⟨.aQ,1,8,[.aF],[]⟩),
 (82,⟨.aQ,1,8,[.aF],[]⟩),
 (84,⟨.aQ,1,8,[.aF],[]⟩),
 (86,⟨.aQ,1,8,[.aF],[]⟩),
 (88,⟨.aQ,1,8,[.aF],[]⟩),
 (90,⟨.aQ,1,8,[.aF],[]⟩),
 (91,⟨.aQ,1,8,[.aF],[]⟩),
 (92,⟨.aQ,1,8,[.aF],[]⟩),
 (93,⟨.aQ,1,8,[.aF],[]⟩),
 (94,⟨.aQ,1,8,[.aF],[]⟩),
 (95,⟨.aQ,1,8,[.aF],[]⟩),
 (96,⟨.aQ,1,8,[.aF],[]⟩),
 (98,⟨.aQ,1,8,[.aF],[]⟩),
 (99,⟨.bm 105,1,24,[af 5 hf ([]:List ea)],[]⟩),
 (100,⟨.bF [(0,3,1),(1,2,1),(2,99,1)],3,40,[.int .i64 0,.int .i64 0,af 5 hf ([]:List ea)],[]⟩),
 (101,⟨.bF [(0,3,1),(1,2,1),(2,99,1)],3,40,[.int .i64 0,.int .i64 0,af 5 hf ([]:List ea)],[]⟩),
 (102,⟨.bF [(0,3,1),(1,3,1),(2,54,1)],3,40,[.int .i64 0,.int .i64 0,af 3 dG ([]:List bv)],[]⟩),
 (103,⟨.bF [(0,3,1),(1,3,1),(2,54,1)],3,40,[.int .i64 0,.int .i64 0,af 3 dG ([]:List bv)],[]⟩),
 (104,⟨.bF [(0,3,1),(1,2,1),(2,103,3)],5,56,[.int .i64 0,.int .i64 0,.int .i64 0,.int .i64 0,af 3 dG ([]:List bv)],[]⟩),
 (105,⟨.bF [(0,3,1),(1,2,1),(2,103,3)],5,56,[.int .i64 0,.int .i64 0,.int .i64 0,.int .i64 0,af 3 dG ([]:List bv)],[]⟩),
 (106,⟨.bF [(0,9,1),(1,2,1)],2,24,[.str ([]:ae7),.int .i64 0],[]⟩),
 (107,⟨.bF [(0,9,1),(1,2,1)],2,24,[.str ([]:ae7),.int .i64 0],[]⟩),
 (108,⟨.bF [(0,9,1),(1,3,1)],2,24,[.str ([]:ae7),.int .i64 0],[]⟩),
 (109,⟨.bF [(0,9,1),(1,3,1)],2,24,[.str ([]:ae7),.int .i64 0],[]⟩),
 (110,⟨.aQ,1,8,[.aF],[]⟩),
 (111,⟨.aQ,1,8,[.aF],[]⟩),
 (112,⟨.aQ,1,8,[.aF],[]⟩),
 (113,⟨.aQ,1,8,[.aF],[]⟩),
 (114,⟨.aQ,1,8,[.aF],[]⟩),
 (115,⟨.aQ,1,8,[.aF],[]⟩),
 (116,⟨.aQ,1,8,[.aF],[]⟩),
 (117,⟨.ptr,1,8,[.dD],[]⟩),
 (118,⟨.bm 5,1,24,[af 1 cm ([]:List Int)],[]⟩),
 (119,⟨.bF [(0,117,1),(1,118,1)],2,32,[.dD,af 1 cm ([]:List Int)],[]⟩),
 (120,⟨.bF [(0,117,1),(1,118,1)],2,32,[.dD,af 1 cm ([]:List Int)],[(0,120)]⟩),
 (121,⟨.mf,1,16,[.gF],[]⟩),
 (122,⟨.mf,1,16,[.gF],[]⟩),
 (124,⟨.aQ,1,8,[.aF],[]⟩),
 (125,⟨.aQ,1,8,[.aF],[]⟩),
 (126,⟨.aQ,1,8,[.aF],[]⟩),
 (127,⟨.aQ,1,8,[.aF],[]⟩),
 (128,⟨.aQ,1,8,[.aF],[]⟩),
 (129,⟨.aQ,1,8,[.aF],[]⟩),
 (130,⟨.aQ,1,8,[.aF],[]⟩),
 (131,⟨.aQ,1,8,[.aF],[]⟩),
 (132,⟨.aQ,1,8,[.aF],[]⟩),
 (133,⟨.aQ,1,8,[.aF],[]⟩),
 (134,⟨.aQ,1,8,[.aF],[]⟩),
 (135,⟨.ptr,1,8,[.dD],[]⟩),
 (136,⟨.bF [(0,9,1),(1,3,1),(2,37,1)],3,32,[.str ([]:ae7),.int .i64 0,.int .i64 0],[]⟩),
 (137,⟨.bF [(0,9,1),(1,3,1),(2,37,1)],3,32,[.str ([]:ae7),.int .i64 0,.int .i64 0],[]⟩),
 (138,⟨.bF [(0,34,11),(11,72,1),(12,55,1)],13,232,[.int .i64 0,.int .i64 0,.int .i64 0,af 2 cM ([]:List Row),af 3 dK ([]:List bb),af 3 c8 ([]:List bC),.int .i64 0,af 5 cJ ([]:List Part),af 2 dx ([]:List be),af 8 eb ([]:List Request),.int .u64 0,af 4 e8 ([]:List bS),af 1 bp ([]:List ae7)],[]⟩),
 (139,⟨.bF [(0,34,11),(11,72,1),(12,55,1)],13,232,[.int .i64 0,.int .i64 0,.int .i64 0,af 2 cM ([]:List Row),af 3 dK ([]:List bb),af 3 c8 ([]:List bC),.int .i64 0,af 5 cJ ([]:List Part),af 2 dx ([]:List be),af 8 eb ([]:List Request),.int .u64 0,af 4 e8 ([]:List bS),af 1 bp ([]:List ae7)],[]⟩),
 (140,⟨.aQ,1,8,[.aF],[]⟩),
 (141,⟨.aQ,1,8,[.aF],[]⟩),
 (143,⟨.aQ,1,8,[.aF],[]⟩),
 (145,⟨.aQ,1,8,[.aF],[]⟩),
 (147,⟨.aQ,1,8,[.aF],[]⟩),
 (148,⟨.bF [(0,9,1),(1,63,3)],4,48,[.str ([]:ae7),.int .i64 0,.int .i64 0,.str ([]:ae7)],[]⟩),
 (149,⟨.bF [(0,9,1),(1,63,3)],4,48,[.str ([]:ae7),.int .i64 0,.int .i64 0,.str ([]:ae7)],[]⟩),
 (150,⟨.aQ,1,8,[.aF],[]⟩),
 (152,⟨.aQ,1,8,[.aF],[]⟩),
 (154,⟨.aQ,1,8,[.aF],[]⟩),
 (156,⟨.aQ,1,8,[.aF],[]⟩),
 (158,⟨.aQ,1,8,[.aF],[]⟩),
 (159,⟨.aQ,1,8,[.aF],[]⟩),
 (160,⟨.aQ,1,8,[.aF],[]⟩),
 (161,⟨.aQ,1,8,[.aF],[]⟩),
 (162,⟨.aQ,1,8,[.aF],[]⟩),
 (163,⟨.bm 165,1,24,[af 4 bP ([]:List Expr)],[]⟩),
 (164,⟨.bF [(0,3,1),(1,2,1),(2,9,1),(3,163,1)],4,56,[.int .i64 0,.int .i64 0,.str ([]:ae7),af 4 bP ([]:List Expr)],[]⟩),
 (165,⟨.bF [(0,3,1),(1,2,1),(2,9,1),(3,163,1)],4,56,[.int .i64 0,.int .i64 0,.str ([]:ae7),af 4 bP ([]:List Expr)],[]⟩),
 (166,⟨.bF [(0,3,1),(1,9,1),(2,3,1),(3,165,4),(7,165,4),(11,50,1),(12,50,1)],13,192,[.int .i64 0,.str ([]:ae7),.int .i64 0,.int .i64 0,.int .i64 0,.str ([]:ae7),af 4 bP ([]:List Expr),.int .i64 0,.int .i64 0,.str ([]:ae7),af 4 bP ([]:List Expr),af 13 bI ([]:List Stmt),af 13 bI ([]:List Stmt)],[]⟩),
 (167,⟨.bF [(0,3,1),(1,9,1),(2,3,1),(3,165,4),(7,165,4),(11,50,1),(12,50,1)],13,192,[.int .i64 0,.str ([]:ae7),.int .i64 0,.int .i64 0,.int .i64 0,.str ([]:ae7),af 4 bP ([]:List Expr),.int .i64 0,.int .i64 0,.str ([]:ae7),af 4 bP ([]:List Expr),af 13 bI ([]:List Stmt),af 13 bI ([]:List Stmt)],[]⟩),
 (168,⟨.aQ,1,8,[.aF],[]⟩),
 (169,⟨.aQ,1,8,[.aF],[]⟩),
 (170,⟨.aQ,1,8,[.aF],[]⟩),
 (171,⟨.aQ,1,8,[.aF],[]⟩),
 (172,⟨.aQ,1,8,[.aF],[]⟩),
 (173,⟨.aQ,1,8,[.aF],[]⟩),
 (174,⟨.aQ,1,8,[.aF],[]⟩),
 (175,⟨.aQ,1,8,[.aF],[]⟩),
 (176,⟨.aQ,1,8,[.aF],[]⟩),
 (177,⟨.aQ,1,8,[.aF],[]⟩),
 (178,⟨.aQ,1,8,[.aF],[]⟩),
 (179,⟨.int .u64,1,8,[.int .u64 0],[]⟩),
 (180,⟨.aQ,1,8,[.aF],[]⟩),
 (181,⟨.aQ,1,8,[.aF],[]⟩),
 (182,⟨.aQ,1,8,[.aF],[]⟩),
 (183,⟨.aQ,1,8,[.aF],[]⟩),
 (184,⟨.ptr,1,8,[.dD],[]⟩),
 (185,⟨.bF [(0,120,2),(2,3,1)],3,40,[.dD,af 1 cm ([]:List Int),.int .i64 0],[(0,120)]⟩),
 (186,⟨.bF [(0,120,2),(2,3,1)],3,40,[.dD,af 1 cm ([]:List Int),.int .i64 0],[(0,120)]⟩),
 (187,⟨.aQ,1,8,[.aF],[]⟩),
 (188,⟨.aQ,1,8,[.aF],[]⟩),
 (189,⟨.aQ,1,8,[.aF],[]⟩),
 (190,⟨.aQ,1,8,[.aF],[]⟩),
 (191,⟨.ptr,1,8,[.dD],[]⟩),
 (192,⟨.aQ,1,8,[.aF],[]⟩),
 (193,⟨.aQ,1,8,[.aF],[]⟩),
 (194,⟨.aQ,1,8,[.aF],[]⟩),
 (195,⟨.aQ,1,8,[.aF],[]⟩),
 (196,⟨.bF [(0,71,1)],1,8,[.aF],[]⟩),
 (197,⟨.bF [(0,71,1)],1,8,[.aF],[]⟩),
 (198,⟨.aQ,1,8,[.aF],[]⟩),
 (199,⟨.bF [(0,74,1)],1,8,[.aF],[]⟩),
 (200,⟨.bF [(0,74,1)],1,8,[.aF],[]⟩),
 (201,⟨.aQ,1,8,[.aF],[]⟩),
 (202,⟨.aQ,1,8,[.aF],[]⟩),
 (203,⟨.bF [(0,202,1)],1,8,[.aF],[]⟩),
 (204,⟨.bF [(0,202,1)],1,8,[.aF],[]⟩),
 (205,⟨.aQ,1,8,[.aF],[]⟩),
 (206,⟨.aQ,1,8,[.aF],[]⟩),
 (207,⟨.aQ,1,8,[.aF],[]⟩),
 (208,⟨.bF [(0,207,1)],1,8,[.aF],[]⟩),
 (209,⟨.bF [(0,207,1)],1,8,[.aF],[]⟩),
 (210,⟨.aQ,1,8,[.aF],[]⟩),
 (211,⟨.aQ,1,8,[.aF],[]⟩),
 (212,⟨.bF [(0,78,1)],1,8,[.aF],[]⟩),
 (213,⟨.bF [(0,78,1)],1,8,[.aF],[]⟩),
 (214,⟨.aQ,1,8,[.aF],[]⟩),
 (215,⟨.bF [(0,80,1)],1,8,[.aF],[]⟩),
 (216,⟨.bF [(0,80,1)],1,8,[.aF],[]⟩),
 (217,⟨.aQ,1,8,[.aF],[]⟩),
 (218,⟨.bF [(0,84,1)],1,8,[.aF],[]⟩),
 (219,⟨.bF [(0,84,1)],1,8,[.aF],[]⟩),
 (220,⟨.aQ,1,8,[.aF],[]⟩),
 (221,⟨.bF [(0,86,1)],1,8,[.aF],[]⟩),
 (222,⟨.bF [(0,86,1)],1,8,[.aF],[]⟩),
 (223,⟨.aQ,1,8,[.aF],[]⟩),
 (224,⟨.aQ,1,8,[.aF],[]⟩),
 (225,⟨.aQ,1,8,[.aF],[]⟩),
 (226,⟨.aQ,1,8,[.aF],[]⟩),
 (228,⟨.aQ,1,8,[.aF],[]⟩),
 (230,⟨.aQ,1,8,[.aF],[]⟩),
 (232,⟨.aQ,1,8,[.aF],[]⟩),
 (234,⟨.aQ,1,8,[.aF],[]⟩),
 (235,⟨.bm 292,1,24,[af 4 cn ([]:List Token)],[]⟩),
 (237,⟨.aQ,1,8,[.aF],[]⟩),
 (238,⟨.aQ,1,8,[.aF],[]⟩),
 (239,⟨.aQ,1,8,[.aF],[]⟩),
 (240,⟨.aQ,1,8,[.aF],[]⟩),
 (241,⟨.aQ,1,8,[.aF],[]⟩),
 (242,⟨.aQ,1,8,[.aF],[]⟩),
 (243,⟨.aQ,1,8,[.aF],[]⟩),
 (244,⟨.aQ,1,8,[.aF],[]⟩),
 (245,⟨.aQ,1,8,[.aF],[]⟩),
 (246,⟨.aQ,1,8,[.aF],[]⟩),
 (247,⟨.aQ,1,8,[.aF],[]⟩),
 (248,⟨.aQ,1,8,[.aF],[]⟩),
 (249,⟨.aQ,1,8,[.aF],[]⟩),
 (250,⟨.bF [(0,3,1),(1,2,1)],2,16,[.int .i64 0,.int .i64 0],[]⟩),
 (251,⟨.bF [(0,3,1),(1,2,1)],2,16,[.int .i64 0,.int .i64 0],[]⟩),
 (252,⟨.aQ,1,8,[.aF],[]⟩),
 (253,⟨.aQ,1,8,[.aF],[]⟩),
 (254,⟨.aQ,1,8,[.aF],[]⟩),
 (255,⟨.aQ,1,8,[.aF],[]⟩),
 (257,⟨.aQ,1,8,[.aF],[]⟩),
 (258,⟨.aQ,1,8,[.aF],[]⟩),
 (259,⟨.aQ,1,8,[.aF],[]⟩),
 (260,⟨.aQ,1,8,[.aF],[]⟩),
 (261,⟨.aQ,1,8,[.aF],[]⟩),
 (262,⟨.aQ,1,8,[.aF],[]⟩),
 (263,⟨.aQ,1,8,[.aF],[]⟩),
 (264,⟨.aQ,1,8,[.aF],[]⟩),
 (265,⟨.aQ,1,8,[.aF],[]⟩),
 (266,⟨.aQ,1,8,[.aF],[]⟩),
 (267,⟨.aQ,1,8,[.aF],[]⟩),
 (268,⟨.aQ,1,8,[.aF],[]⟩),
 (269,⟨.bm 272,1,24,[af 20 WB ([]:List EQ)],[]⟩),
 (270,⟨.aQ,1,8,[.aF],[]⟩),
 (271,⟨.bF [(0,4,1),(1,167,13),(14,3,1),(15,165,4),(19,4,1)],20,272,[.bool false,.int .i64 0,.str ([]:ae7),.int .i64 0,.int .i64 0,.int .i64 0,.str ([]:ae7),af 4 bP ([]:List Expr),.int .i64 0,.int .i64 0,.str ([]:ae7),af 4 bP ([]:List Expr),af 13 bI ([]:List Stmt),af 13 bI ([]:List Stmt),.int .i64 0,.int .i64 0,.int .i64 0,.str ([]:ae7),af 4 bP ([]:List Expr),.bool false],[]⟩),
 (272,⟨.bF [(0,4,1),(1,167,13),(14,3,1),(15,165,4),(19,4,1)],20,272,[.bool false,.int .i64 0,.str ([]:ae7),.int .i64 0,.int .i64 0,.int .i64 0,.str ([]:ae7),af 4 bP ([]:List Expr),.int .i64 0,.int .i64 0,.str ([]:ae7),af 4 bP ([]:List Expr),af 13 bI ([]:List Stmt),af 13 bI ([]:List Stmt),.int .i64 0,.int .i64 0,.int .i64 0,.str ([]:ae7),af 4 bP ([]:List Expr),.bool false],[]⟩),
 (273,⟨.aQ,1,8,[.aF],[]⟩),
 (274,⟨.ptr,1,8,[.dD],[]⟩),
 (275,⟨.bF [(0,9,1),(1,3,1),(2,37,1)],3,32,[.str ([]:ae7),.int .i64 0,.int .i64 0],[]⟩),
 (276,⟨.bF [(0,9,1),(1,3,1),(2,37,1)],3,32,[.str ([]:ae7),.int .i64 0,.int .i64 0],[]⟩),
 (277,⟨.aQ,1,8,[.aF],[]⟩),
 (278,⟨.ptr,1,8,[.dD],[]⟩),
 (279,⟨.bF [(0,9,1),(1,3,1),(2,37,1)],3,32,[.str ([]:ae7),.int .i64 0,.int .i64 0],[]⟩),
 (280,⟨.bF [(0,9,1),(1,3,1),(2,37,1)],3,32,[.str ([]:ae7),.int .i64 0,.int .i64 0],[]⟩),
 (281,⟨.aQ,1,8,[.aF],[]⟩),
 (282,⟨.aQ,1,8,[.aF],[]⟩),
 (284,⟨.aQ,1,8,[.aF],[]⟩),
 (285,⟨.ptr,1,8,[.dD],[]⟩),
 (286,⟨.aQ,1,8,[.aF],[]⟩),
 (287,⟨.aQ,1,8,[.aF],[]⟩),
 (288,⟨.aQ,1,8,[.aF],[]⟩),
 (289,⟨.aQ,1,8,[.aF],[]⟩),
 (290,⟨.aQ,1,8,[.aF],[]⟩),
 (291,⟨.bF [(0,3,1),(1,9,1),(2,2,1),(3,3,1)],4,40,[.int .i64 0,.str ([]:ae7),.int .i64 0,.int .i64 0],[]⟩),
 (292,⟨.bF [(0,3,1),(1,9,1),(2,2,1),(3,3,1)],4,40,[.int .i64 0,.str ([]:ae7),.int .i64 0,.int .i64 0],[]⟩),
 (294,⟨.aQ,1,8,[.aF],[]⟩),
 (295,⟨.aQ,1,8,[.aF],[]⟩),
 (296,⟨.aQ,1,8,[.aF],[]⟩),
 (298,⟨.aQ,1,8,[.aF],[]⟩),
 (300,⟨.aQ,1,8,[.aF],[]⟩),
 (301,⟨.aQ,1,8,[.aF],[]⟩),
 (302,⟨.aQ,1,8,[.aF],[]⟩),
 (303,⟨.aQ,1,8,[.aF],[]⟩),
 (304,⟨.aQ,1,8,[.aF],[]⟩),
 (305,⟨.ptr,1,8,[.dD],[]⟩),
 (306,⟨.bF [(0,3,1),(1,261,1),(2,262,1)],3,24,[.int .i64 0,.aF,.aF],[]⟩),
 (307,⟨.bF [(0,3,1),(1,261,1),(2,262,1)],3,24,[.int .i64 0,.aF,.aF],[]⟩),
 (308,⟨.aQ,1,8,[.aF],[]⟩),
 (309,⟨.bF [(0,4,1),(1,4,1),(2,4,1),(3,4,1),(4,4,1),(5,4,1)],6,6,[.bool false,.bool false,.bool false,.bool false,.bool false,.bool false],[]⟩),
 (310,⟨.bF [(0,4,1),(1,4,1),(2,4,1),(3,4,1),(4,4,1),(5,4,1)],6,6,[.bool false,.bool false,.bool false,.bool false,.bool false,.bool false],[]⟩),
 (312,⟨.aQ,1,8,[.aF],[]⟩),
 (313,⟨.aQ,1,8,[.aF],[]⟩),
 (314,⟨.aQ,1,8,[.aF],[]⟩),
 (315,⟨.aQ,1,8,[.aF],[]⟩),
 (316,⟨.aQ,1,8,[.aF],[]⟩),
 (317,⟨.aQ,1,8,[.aF],[]⟩),
 (319,⟨.aQ,1,8,[.aF],[]⟩),
 (320,⟨.aQ,1,8,[.aF],[]⟩),
 (321,⟨.aQ,1,8,[.aF],[]⟩),
 (322,⟨.aQ,1,8,[.aF],[]⟩),
 (323,⟨.aQ,1,8,[.aF],[]⟩),
 (324,⟨.ptr,1,8,[.dD],[]⟩),
 (325,⟨.bF [(0,9,1),(1,3,1),(2,37,1)],3,32,[.str ([]:ae7),.int .i64 0,.int .i64 0],[]⟩),
 (326,⟨.bF [(0,9,1),(1,3,1),(2,37,1)],3,32,[.str ([]:ae7),.int .i64 0,.int .i64 0],[]⟩),
 (327,⟨.aQ,1,8,[.aF],[]⟩),
 (328,⟨.aQ,1,8,[.aF],[]⟩),
 (329,⟨.aQ,1,8,[.aF],[]⟩),
 (330,⟨.aQ,1,8,[.aF],[]⟩),
 (331,⟨.bF [(0,3,1),(1,37,1)],2,16,[.int .i64 0,.int .i64 0],[]⟩),
 (332,⟨.bF [(0,3,1),(1,37,1)],2,16,[.int .i64 0,.int .i64 0],[]⟩),
 (334,⟨.bF [(0,235,1),(1,3,1)],2,32,[af 4 cn ([]:List Token),.int .i64 0],[]⟩),
 (335,⟨.bF [(0,235,1),(1,3,1)],2,32,[af 4 cn ([]:List Token),.int .i64 0],[]⟩),
 (336,⟨.aQ,1,8,[.aF],[]⟩),
 (337,⟨.aQ,1,8,[.aF],[]⟩),
 (338,⟨.aQ,1,8,[.aF],[]⟩),
 (339,⟨.aQ,1,8,[.aF],[]⟩),
 (340,⟨.aQ,1,8,[.aF],[]⟩),
 (341,⟨.aQ,1,8,[.aF],[]⟩),
 (343,⟨.aQ,1,8,[.aF],[]⟩),
 (344,⟨.aQ,1,8,[.aF],[]⟩),
 (345,⟨.aQ,1,8,[.aF],[]⟩),
 (347,⟨.aQ,1,8,[.aF],[]⟩),
 (348,⟨.aQ,1,8,[.aF],[]⟩),
 (349,⟨.aQ,1,8,[.aF],[]⟩),
 (350,⟨.aQ,1,8,[.aF],[]⟩),
 (351,⟨.aQ,1,8,[.aF],[]⟩),
 (352,⟨.aQ,1,8,[.aF],[]⟩),
 (353,⟨.aQ,1,8,[.aF],[]⟩),
 (354,⟨.aQ,1,8,[.aF],[]⟩),
 (355,⟨.aQ,1,8,[.aF],[]⟩),
 (356,⟨.aQ,1,8,[.aF],[]⟩),
 (357,⟨.aQ,1,8,[.aF],[]⟩),
 (359,⟨.aQ,1,8,[.aF],[]⟩),
 (360,⟨.aQ,1,8,[.aF],[]⟩),
 (362,⟨.aQ,1,8,[.aF],[]⟩),
 (363,⟨.aQ,1,8,[.aF],[]⟩),
 (364,⟨.aQ,1,8,[.aF],[]⟩),
 (365,⟨.aQ,1,8,[.aF],[]⟩),
 (366,⟨.aQ,1,8,[.aF],[]⟩),
 (367,⟨.bm 3,1,24,[af 1 Wr ([]:List Int)],[]⟩),
 (368,⟨.aQ,1,8,[.aF],[]⟩),
 (369,⟨.aQ,1,8,[.aF],[]⟩),
 (370,⟨.aQ,1,8,[.aF],[]⟩),
 (371,⟨.aQ,1,8,[.aF],[]⟩),
 (372,⟨.aQ,1,8,[.aF],[]⟩),
 (374,⟨.aQ,1,8,[.aF],[]⟩),
 (376,⟨.aQ,1,8,[.aF],[]⟩),
 (377,⟨.aQ,1,8,[.aF],[]⟩),
 (379,⟨.aQ,1,8,[.aF],[]⟩),
 (381,⟨.aQ,1,8,[.aF],[]⟩),
 (382,⟨.aQ,1,8,[.aF],[]⟩),
 (383,⟨.aQ,1,8,[.aF],[]⟩),
 (385,⟨.int .u32,1,4,[.int .u32 0],[]⟩),
 (387,⟨.aQ,1,8,[.aF],[]⟩),
 (388,⟨.aQ,1,8,[.aF],[]⟩),
 (389,⟨.aQ,1,8,[.aF],[]⟩),
 (390,⟨.int .i64,1,8,[.int .i64 0],[]⟩),
 (392,⟨.aQ,1,8,[.aF],[]⟩),
 (393,⟨.ptr,1,8,[.dD],[]⟩),
 (394,⟨.aQ,1,8,[.aF],[]⟩),
 (395,⟨.aQ,1,8,[.aF],[]⟩),
 (398,⟨.aQ,1,8,[.aF],[]⟩),
 (399,⟨.bF [(0,9,1),(1,9,1),(2,122,1)],3,48,[.str ([]:ae7),.str ([]:ae7),.gF],[]⟩),
 (400,⟨.bF [(0,9,1),(1,9,1),(2,122,1)],3,48,[.str ([]:ae7),.str ([]:ae7),.gF],[]⟩),
 (401,⟨.aQ,1,8,[.aF],[]⟩),
 (402,⟨.ptr,1,8,[.dD],[]⟩),
 (403,⟨.bF [(0,9,1)],1,16,[.str ([]:ae7)],[]⟩),
 (404,⟨.bF [(0,9,1)],1,16,[.str ([]:ae7)],[]⟩),
 (405,⟨.bF [(0,17,1),(1,17,1),(2,17,1),(3,9,1)],4,40,[.dD,.dD,.dD,.str ([]:ae7)],[]⟩),
 (406,⟨.bF [(0,17,1),(1,17,1),(2,17,1),(3,9,1)],4,40,[.dD,.dD,.dD,.str ([]:ae7)],[]⟩),
 (410,⟨.int .u8,1,1,[.int .u8 0],[]⟩),
 (411,⟨.int .u8,1,1,[.int .u8 0],[]⟩),
 (412,⟨.aQ,1,8,[.aF],[]⟩),
 (413,⟨.int .i32,1,4,[.int .i32 0],[]⟩),
 (414,⟨.int .i32,1,4,[.int .i32 0],[]⟩),
 (415,⟨.bF [(0,12,1),(1,12,1),(2,385,1),(3,410,1),(4,5,1),(5,5,1),(6,411,1),(7,412,1),(8,191,1),(9,413,1),(10,414,1)],11,48,[.int .u64 0,.int .u64 0,.int .u32 0,.int .u8 0,.int .u8 0,.int .u8 0,.int .u8 0,.aF,.dD,.int .i32 0,.int .i32 0],[]⟩),
 (416,⟨.bF [(0,12,1),(1,12,1),(2,385,1),(3,410,1),(4,5,1),(5,5,1),(6,411,1),(7,412,1),(8,191,1),(9,413,1),(10,414,1)],11,48,[.int .u64 0,.int .u64 0,.int .u32 0,.int .u8 0,.int .u8 0,.int .u8 0,.int .u8 0,.aF,.dD,.int .i32 0,.int .i32 0],[]⟩)]
def gI:eI Tryz.prog tt=true:=by kernel_rfl
def wq:Tryz.prog.follows .mixedOrders=true:=by kernel_rfl
end Go.Ab.Y
namespace Go.Ab.Y.T
open Go Go.Ab Go.Proofs
structure aY(f:FuncId)(args:List D)(dw:List (Nat×TypeId))(H:List (List aM)){ρ:Type}(F:Option ρ)(out:ρ→Out)(ch:ρ→List (List aM)):Prop where
 of:∀{r:ρ},F=some r→fK Tryz.prog f args dw H (out r) (ch r)
def rE(E:Nat)(rs:List ResultVar){ρ:Type}(out:ρ→Out)(ch:ρ→List (List aM))(r:ρ):bY→az→Prop:=pK tt E rs λo bq=>o=out r∧bq=ch r
def fP(s st:az):Option az:=(qF (s.env.map (·.1)) (s.H.map (·.1)) s.aJ st.env st.H st.aJ).map (fit s)
noncomputable abbrev gJ(N:Nat)(ops:Array Oper)(rs:List eD)(st:az):=ry (h6 Tryz.prog) tt N ops.toList rs st
noncomputable abbrev zJ(N:Nat)(ops:Array Oper)(rs:List (Nat×List eD))(st:az):=zq (h6 Tryz.prog) tt N ops.toList (spread ops.toList.length 0 rs) st
noncomputable abbrev Mu(N:Nat)(ops:Array Oper)(fo:Nat)(rs:List (Nat×List eD))(st:az):=wc (h6 Tryz.prog) tt N ops.toList fo (st.aJ+ops.toList.length) (spread ops.toList.length 0 rs) st
abbrev ae(x:Int):aM:=⟨.v (.int .i64 x),none⟩
abbrev dr(x:Bool):aM:=⟨.v (.bool x),none⟩
abbrev bc(x:ae7):aM:=⟨.v (.str x),none⟩
abbrev ay{α:Type}[Inhabited α](k:Nat)(e:α→V)(l:List α):aM:=⟨.v (af k e l),none⟩
abbrev ba(r o:Nat):aM:=⟨.ptr r o,none⟩
abbrev f5(x:V):aM:=⟨.v x,none⟩
abbrev bh(x:Int):D:=.v (.int .i64 x)
abbrev cu(x:Bool):D:=.v (.bool x)
abbrev cV(x:ae7):D:=.v (.str x)
abbrev dY{α:Type}[Inhabited α](k:Nat)(e:α→V)(l:List α):D:=.v (af k e l)
abbrev aU(d:D):Out:=.ret d none
def WC(n:Nat):gh (n:Int) n=true:=T4 ⟨Int.natCast_nonneg n,Int.le_refl _⟩
abbrev au:=all_nil
def ag{p:Prop}{l:List Prop}(h:p)(ab:i7 l):i7 (p::l):=⟨h,ab⟩
section
variable {N E:Nat} {st:az} {Q:bY→az→Prop} {next:az→Prop} {x y:Code} {id i j:Nat} {ops:Array Oper}
def tr{x:V}(h:Q (.aW x) st):bY.then next Q (.aW x) st:=h
def ce(h:Q .normal st):bY.inBlock i Q (.exit i) st:=bY.Vf h
def tu(h:Q (.exit j) st)(dt:Nat.beq j i=false:=by kernel_rfl):bY.inBlock i Q (.exit j) st:=bY.Vg dt h
def WD{x:V}(h:Q (.aW x) st):bY.inBlock i Q (.aW x) st:=h
def ao(h:aS Tryz.prog N E x (bY.then (aS Tryz.prog N E y Q) Q) st):aS Tryz.prog N E (.seq x y) Q st:=aS.seq h
def av(h:Q .normal st):aS Tryz.prog N E .skip Q st:=aS.skip h
def Mv{r:Nat}(h:Q .ret (wk r st)):EG r Q .ret st:=h
def Mw(r:Nat)(h:aS Tryz.prog N E x (EG r Q) st):aS Tryz.prog N E x Q st:=aS.mh r h
def tv(l2:List Nat)(h:aS Tryz.prog N E x Q {env:=forget l2 st.env,H:=st.H,aJ:=st.aJ}):aS Tryz.prog N E x Q st:=aS.forget l2 h
def WE{l:Nat}(h:Q .normal st):aS Tryz.prog N E (.label l) Q st:=aS.label h
def cf(h:Q (.exit i) st):aS Tryz.prog N E (.exit i) Q st:=aS.exit h
def ER(h:Q .ret st):aS Tryz.prog N E .ret Q st:=aS.ret h
def WF(h:aS Tryz.prog N E x Q st):aS Tryz.prog N E (.scope x) Q st:=aS.scope h
def aT(h:aS Tryz.prog N E x (bY.inBlock i Q) st):aS Tryz.prog N E (.block i x) Q st:=aS.block h
def gd(rs:List eD){b9:List Prop}(b5:i7 b9)(dq:Q .normal (h_ (gJ N ops rs st)))(ai:kn (gJ N ops rs st)=some b9:=by kernel_rfl):aS Tryz.prog N E (.region id ops false) Q st:=aS.rg gI rs ai b5 dq
def bG(dq:Q .normal (h_ (gJ N ops [] st)))(ai:kn (gJ N ops [] st)=some []:=by kernel_rfl):aS Tryz.prog N E (.region id ops false) Q st:=gd [] au dq ai
def G(dq:aS Tryz.prog N E y Q (h_ (gJ N ops [] st)))(ai:kn (gJ N ops [] st)=some []:=by kernel_rfl):aS Tryz.prog N E (.seq (.region id ops false) y) Q st:=ao (bG (Q:=bY.then (aS Tryz.prog N E y Q) Q) dq ai)
def a8(rs:List eD){b9:List Prop}(b5:i7 b9)(dq:aS Tryz.prog N E y Q (h_ (gJ N ops rs st)))(ai:kn (gJ N ops rs st)=some b9:=by kernel_rfl):aS Tryz.prog N E (.seq (.region id ops false) y) Q st:=ao (gd (Q:=bY.then (aS Tryz.prog N E y Q) Q) rs b5 dq ai)
section
variable {f:FuncId} {args:List D} {dw:List (Nat×TypeId)} {H ch:List (List aM)} {out:Out}
def jx(p:fK Tryz.prog f args dw H out ch)(dq:Q .normal (h_ (gJ N ops [bi p []] st)))(ai:kn (gJ N ops [bi p []] st)=some [fK Tryz.prog f args dw H out ch]:=by kernel_rfl):aS Tryz.prog N E (.region id ops false) Q st:=gd [bi p []] (ag p au) dq ai
def iJ(p:fK Tryz.prog f args dw H out ch)(dq:Q .normal (h_ (gJ N ops [bg p []] st)))(ai:kn (gJ N ops [bg p []] st)=some [fK Tryz.prog f args dw H out ch]:=by kernel_rfl):aS Tryz.prog N E (.region id ops false) Q st:=gd [bg p []] (ag p au) dq ai
def b8(p:fK Tryz.prog f args dw H out ch)(dq:aS Tryz.prog N E y Q (h_ (gJ N ops [bi p []] st)))(ai:kn (gJ N ops [bi p []] st)=some [fK Tryz.prog f args dw H out ch]:=by kernel_rfl):aS Tryz.prog N E (.seq (.region id ops false) y) Q st:=a8 [bi p []] (ag p au) dq ai
def cC(p:fK Tryz.prog f args dw H out ch)(dq:aS Tryz.prog N E y Q (h_ (gJ N ops [bg p []] st)))(ai:kn (gJ N ops [bg p []] st)=some [fK Tryz.prog f args dw H out ch]:=by kernel_rfl):aS Tryz.prog N E (.seq (.region id ops false) y) Q st:=a8 [bg p []] (ag p au) dq ai
end
def jy(rs:List (Nat×List eD)){b9:List Prop}(b5:i7 b9)(dq:Q .normal (h_ (zJ N ops rs st)))(ai:kn (zJ N ops rs st)=some b9:=by kernel_rfl):aS Tryz.prog N E (.region id ops true) Q st:=aS.zt gI wq rs ai b5 dq
def cD(rs:List (Nat×List eD)){b9:List Prop}(b5:i7 b9)(dq:aS Tryz.prog N E y Q (h_ (zJ N ops rs st)))(ai:kn (zJ N ops rs st)=some b9:=by kernel_rfl):aS Tryz.prog N E (.seq (.region id ops true) y) Q st:=ao (jy (Q:=bY.then (aS Tryz.prog N E y Q) Q) rs b5 dq ai)
def di(x:V)(rs:List eD){b9:List Prop}(b5:i7 b9)(dq:Q (.aW x) (h_ (gJ N ops rs st)))(ai:El (gJ N ops rs st)=some (x,b9):=by kernel_rfl):aS Tryz.prog N E (.region id ops false) Q st:=aS.Em gI rs ai b5 dq
def oZ(fo:Nat)(x:V)(rs:List (Nat×List eD)){b9:List Prop}(b5:i7 b9)(dq:∀n,Q (.aW x) {env:=[],H:=EA (Mu N ops fo rs st),aJ:=n})(ai:Ez (Mu N ops fo rs st)=some (x,b9):=by kernel_rfl):aS Tryz.prog N E (.region id ops true) Q st:=aS.VY gI wq fo rs ai b5 dq
def C{α:Type}{b:Bool}{p q:Option α}{r:α}{c:Nat}(h:(bif b then p else q)=some r)(bH:p=some r→aS Tryz.prog N E x Q st)(a7:q=some r→aS Tryz.prog N E y Q st)(hc:(look st.env c).map (·.d)=some (.v (.bool b)):=by kernel_rfl):aS Tryz.prog N E (.cond (.tmp c) x y) Q st:=aS.Eo h hc bH a7
section
variable {ρ:Type} {a r:ρ} {out:ρ→Out} {ch:ρ→List (List aM)} {rs:List ResultVar}
def zn(h:some a=some r)(ab:leave tt E rs st=some (out a,ch a):=by kernel_rfl):rE E rs out ch r .ret st:=by
 obtain rfl:=Option.some.inj h;exact Vi ab
def b1{Q:bY→az→Prop}(h:some a=some r)(ax:rE E rs out ch r .ret st=Q .ret st:=by rfl)(ab:leave tt E rs st=some (out a,ch a):=by kernel_rfl):aS Tryz.prog N E .ret Q st:=ER (ax ▸ zn h ab)
def bu{Q:bY→az→Prop}{id:Nat}{ops:Array Oper}(h:some a=some r)(ax:rE E rs out ch r .ret (h_ (gJ N ops [] st))=Q .ret (h_ (gJ N ops [] st)):=by rfl)(ab:leave tt E rs (h_ (gJ N ops [] st))=some (out a,ch a):=by kernel_rfl)(ai:kn (gJ N ops [] st)=some []:=by kernel_rfl):aS Tryz.prog N E (.seq (.region id ops false) .ret) Q st:=G (b1 h ax ab) ai
def aC{Q:bY→az→Prop}{id:Nat}{ops:Array Oper}{b:Bool}{q:Option ρ}{c:Nat}{y:Code}(h:(bif b then some a else q)=some r)(a7:q=some r→aS Tryz.prog N E y Q st)(ax:rE E rs out ch r .ret (h_ (gJ N ops [] st))=Q .ret (h_ (gJ N ops [] st)):=by rfl)(ab:leave tt E rs (h_ (gJ N ops [] st))=some (out a,ch a):=by kernel_rfl)(ai:kn (gJ N ops [] st)=some []:=by kernel_rfl)(hc:(look st.env c).map (·.d)=some (.v (.bool b)):=by kernel_rfl):aS Tryz.prog N E (.cond (.tmp c) (.seq (.region id ops false) .ret) y) Q st:=C h (λh=>bu h ax ab ai) a7 hc
def iK(h:some a=some r)(ab:leave tt E rs st=some (out a,ch a):=by kernel_rfl):rE E rs out ch r .normal st:=by
 obtain rfl:=Option.some.inj h;exact D' ab
def cW{x:V}(h:some a=some r)(ab:(y5 E st.H).map lV=some (ch a):=by kernel_rfl)(hx:out a = .aW x:=by kernel_rfl):rE E rs out ch r (.aW x) st:=by
 obtain rfl:=Option.some.inj h;show pK tt E rs _ _ _
 rw [hx];exact Vj ab
end
def aZ{f:FuncId}{fn:Func}{c:Code}{args:List D}{dw:List (Nat×TypeId)}{H:List (List aM)}{ρ:Type}{F:Option ρ}{out:ρ→Out}{ch:ρ→List (List aM)}(a7:Tryz.prog.funcs[f]? = some fn)(hb:fn.body=some c)
 (h : ∀ {r : ρ}, F = some r → aS Tryz.prog fn.ntmps H.length c (rE H.length fn.results.toList out ch r) { env := gj args dw, H := cl 0 H, aJ := H.length }) (h7 : decide (fn.name = "runtime.NumGoroutine") = false := by rfl) (ha : Nat.ble args.length fn.ntmps = true := by rfl) : aY f args dw H F out ch :=
 ⟨λh0=>Vh gI a7 hb h7 ha (h h0)⟩
end
section
variable {α β c6 f7:Type} {p:Prop}
def dC{q:Prop}(a:p)(k:p→q):q:=k a
def pV{Mx:Type}{X:Option Mx}(c:α ⊕ β→Mx){x:α ⊕ β}{f:α→Option c6}{g:β→Option c6}{r:c6}(q:X=some (c x))(h:gB.on x f g=some r)(cq:∀a,X=some (c (.inl a))→f a=some r→p)(aq:∀b,X=some (c (.inr b))→g b=some r→p):p:=
 match x,q,h with
 |.inl a,q,h=>cq a q h
 |.inr b,q,h=>aq b q h
def ja{r:α}(h:none=some r):p:=by cases h
def aN{b:Bool}{x:Option α}{r:α}(h:aI b x=some r)(k:b=true→x=some r→p):p:=k (oW h).1 (oW h).2
def an{x:Option α}{f:α→Option β}{r:β}(h:Option.bind x f=some r)(k:∀a,x=some a→f a=some r→p):p:=let ⟨a,Z,ad⟩:=bind_some h;k a Z ad
def dc{x:Option (aA α β)}{f:α→β→Option c6}{g:V→β→Option c6}{r:c6}(h:Option.bind x (λz=>aA.on z f g)=some r)(cq:∀a b,x=some (.ret a b)→f a b=some r→p)(aq:∀y b,x=some (.aW y b)→g y b=some r→p):p:=
 let ⟨z,Z,ad⟩:=bind_some h
 match z,Z,ad with
 |.ret a b,Z,ad=>cq a b Z ad
 |.aW y b,Z,ad=>aq y b Z ad
end
section
variable {ρ:Type} {r:ρ} {N E:Nat} {st:az} {Q:bY→az→Prop} {x y:Code}
def cN{bU:az}{f:Option ρ}(h:f=some r)(ai:fP (bU) st=some (bU):=by kernel_rfl):fP (bU) st=some (bU)∧f=some r:=⟨ai,h⟩
def cQ(bU:az)(f:Option ρ)(Z:aS Tryz.prog N E x (bY.then (λbD=>fP (bU) bD=some (bU)∧f=some r) Q) st)(ad:f=some r→aS Tryz.prog N E y Q (bU))(b7:Nat.ble E (bU).aJ=true:=by intros;kernel_rfl):aS Tryz.prog N E (.seq x y) Q st:=
 aS.cut _ Z λbD ⟨ai,h⟩=>aS.nZ _ _ _ _ ai (b7) (ad h)
end
section
variable {α:Type} {ρ:Type} {r:ρ} {N E:Nat} {st:az} {Q:bY→az→Prop} {x y:Code}
def bk{bU:α→az}{f:α→Option ρ}{a0:_}(h:f a0=some r)(ai:fP (bU a0) st=some (bU a0):=by kernel_rfl):∃a0,fP (bU a0) st=some (bU a0)∧f a0=some r:=⟨a0,ai,h⟩
def eZ(bU:α→az)(f:α→Option ρ)(Z:aS Tryz.prog N E x (bY.then (λbD=>∃a0,fP (bU a0) bD=some (bU a0)∧f a0=some r) Q) st)(ad:∀a0,f a0=some r→aS Tryz.prog N E y Q (bU a0))(b7:∀a0,Nat.ble E (bU a0).aJ=true:=by intros;kernel_rfl):aS Tryz.prog N E (.seq x y) Q st:=
 aS.cut _ Z λbD ⟨a0,ai,h⟩=>aS.nZ _ _ _ _ ai (b7 a0) (ad a0 h)
def ec(bU:α→az)(F:Nat→α→Option ρ)(B:(α→Option ρ)→α→Option ρ){n:Nat}{a0:_}(h:F n a0=some r)(body:∀k a0,B k a0=some r→aS Tryz.prog N E x (bY.then (λbD=>∃a0,fP (bU a0) bD=some (bU a0)∧k a0=some r) Q) (bU a0))(hi:fP (bU a0) st=some (bU a0):=by kernel_rfl)(b7:∀a0,Nat.ble E (bU a0).aJ=true:=by intros;kernel_rfl)(h0:∀a0,F 0 a0=none:=by intros;rfl)(hs:∀m a0,F (m+1) a0=B (F m) a0:=by intros;rfl):aS Tryz.prog N E (.loop x) Q st:=by
 refine aS.loop (σ:=α) (λm (s:α) st=>fP (bU s) st=some (bU s)∧F m s=some r) ?_ (n:=n) (s:=a0) ⟨hi,h⟩
 rintro m a0 bD ⟨ai,h⟩
 cases m with
 |zero=>have ad:=(h0 a0).symm.trans h;cases ad
 |succ m=>
  refine⟨m,rfl,aS.nZ _ _ _ _ ai (b7 a0) ((body (F m) a0 ((hs m a0).symm.trans h)).mono ?_)⟩
  intro eQ zK ax;cases eQ with
  |normal=>obtain⟨a0,g1,g2⟩:=ax;exact⟨a0,g1,g2⟩
  |exit i=>exact ax
  |ret=>exact ax
  |aW x=>exact ax
end
section
variable {α β:Type} {ρ:Type} {r:ρ} {N E:Nat} {st:az} {Q:bY→az→Prop} {x y:Code}
def en{bU:α→β→az}{f:α→β→Option ρ}{a0 aR:_}(h:f a0 aR=some r)(ai:fP (bU a0 aR) st=some (bU a0 aR):=by kernel_rfl):∃a0 aR,fP (bU a0 aR) st=some (bU a0 aR)∧f a0 aR=some r:=⟨a0,aR,ai,h⟩
def l3(bU:α→β→az)(f:α→β→Option ρ)(Z:aS Tryz.prog N E x (bY.then (λbD=>∃a0 aR,fP (bU a0 aR) bD=some (bU a0 aR)∧f a0 aR=some r) Q) st)(ad:∀a0 aR,f a0 aR=some r→aS Tryz.prog N E y Q (bU a0 aR))(b7:∀a0 aR,Nat.ble E (bU a0 aR).aJ=true:=by intros;kernel_rfl):aS Tryz.prog N E (.seq x y) Q st:=
 aS.cut _ Z λbD ⟨a0,aR,ai,h⟩=>aS.nZ _ _ _ _ ai (b7 a0 aR) (ad a0 aR h)
def hl(bU:α→β→az)(F:Nat→α→β→Option ρ)(B:(α→β→Option ρ)→α→β→Option ρ){n:Nat}{a0 aR:_}(h:F n a0 aR=some r)(body:∀k a0 aR,B k a0 aR=some r→aS Tryz.prog N E x (bY.then (λbD=>∃a0 aR,fP (bU a0 aR) bD=some (bU a0 aR)∧k a0 aR=some r) Q) (bU a0 aR))(hi:fP (bU a0 aR) st=some (bU a0 aR):=by kernel_rfl)(b7:∀a0 aR,Nat.ble E (bU a0 aR).aJ=true:=by intros;kernel_rfl)(h0:∀a0 aR,F 0 a0 aR=none:=by intros;rfl)(hs:∀m a0 aR,F (m+1) a0 aR=B (F m) a0 aR:=by intros;rfl):aS Tryz.prog N E (.loop x) Q st:=by
 refine aS.loop (σ:=α×β) (λm (s:α×β) st=>fP (bU s.1 s.2) st=some (bU s.1 s.2)∧F m s.1 s.2=some r) ?_ (n:=n) (s:=(a0,aR)) ⟨hi,h⟩
 rintro m ⟨a0,aR⟩ bD ⟨ai,h⟩
 cases m with
 |zero=>have ad:=(h0 a0 aR).symm.trans h;cases ad
 |succ m=>
  refine⟨m,rfl,aS.nZ _ _ _ _ ai (b7 a0 aR) ((body (F m) a0 aR ((hs m a0 aR).symm.trans h)).mono ?_)⟩
  intro eQ zK ax;cases eQ with
  |normal=>obtain⟨a0,aR,g1,g2⟩:=ax;exact⟨(a0,aR),g1,g2⟩
  |exit i=>exact ax
  |ret=>exact ax
  |aW x=>exact ax
end
section
variable {α β c6:Type} {ρ:Type} {r:ρ} {N E:Nat} {st:az} {Q:bY→az→Prop} {x y:Code}
def hQ{bU:α→β→c6→az}{f:α→β→c6→Option ρ}{a0 aR a2:_}(h:f a0 aR a2=some r)(ai:fP (bU a0 aR a2) st=some (bU a0 aR a2):=by kernel_rfl):∃a0 aR a2,fP (bU a0 aR a2) st=some (bU a0 aR a2)∧f a0 aR a2=some r:=⟨a0,aR,a2,ai,h⟩
def pW(bU:α→β→c6→az)(f:α→β→c6→Option ρ)(Z:aS Tryz.prog N E x (bY.then (λbD=>∃a0 aR a2,fP (bU a0 aR a2) bD=some (bU a0 aR a2)∧f a0 aR a2=some r) Q) st)(ad:∀a0 aR a2,f a0 aR a2=some r→aS Tryz.prog N E y Q (bU a0 aR a2))(b7:∀a0 aR a2,Nat.ble E (bU a0 aR a2).aJ=true:=by intros;kernel_rfl):aS Tryz.prog N E (.seq x y) Q st:=
 aS.cut _ Z λbD ⟨a0,aR,a2,ai,h⟩=>aS.nZ _ _ _ _ ai (b7 a0 aR a2) (ad a0 aR a2 h)
def wu(bU:α→β→c6→az)(F:Nat→α→β→c6→Option ρ)(B:(α→β→c6→Option ρ)→α→β→c6→Option ρ){n:Nat}{a0 aR a2:_}(h:F n a0 aR a2=some r)(body:∀k a0 aR a2,B k a0 aR a2=some r→aS Tryz.prog N E x (bY.then (λbD=>∃a0 aR a2,fP (bU a0 aR a2) bD=some (bU a0 aR a2)∧k a0 aR a2=some r) Q) (bU a0 aR a2))(hi:fP (bU a0 aR a2) st=some (bU a0 aR a2):=by kernel_rfl)(b7:∀a0 aR a2,Nat.ble E (bU a0 aR a2).aJ=true:=by intros;kernel_rfl)(h0:∀a0 aR a2,F 0 a0 aR a2=none:=by intros;rfl)(hs:∀m a0 aR a2,F (m+1) a0 aR a2=B (F m) a0 aR a2:=by intros;rfl):aS Tryz.prog N E (.loop x) Q st:=by
 refine aS.loop (σ:=α×β×c6) (λm (s:α×β×c6) st=>fP (bU s.1 s.2.1 s.2.2) st=some (bU s.1 s.2.1 s.2.2)∧F m s.1 s.2.1 s.2.2=some r) ?_ (n:=n) (s:=(a0,aR,a2)) ⟨hi,h⟩
 rintro m ⟨a0,aR,a2⟩ bD ⟨ai,h⟩
 cases m with
 |zero=>have ad:=(h0 a0 aR a2).symm.trans h;cases ad
 |succ m=>
  refine⟨m,rfl,aS.nZ _ _ _ _ ai (b7 a0 aR a2) ((body (F m) a0 aR a2 ((hs m a0 aR a2).symm.trans h)).mono ?_)⟩
  intro eQ zK ax;cases eQ with
  |normal=>obtain⟨a0,aR,a2,g1,g2⟩:=ax;exact⟨(a0,aR,a2),g1,g2⟩
  |exit i=>exact ax
  |ret=>exact ax
  |aW x=>exact ax
end
section
variable {α β c6 f7:Type} {ρ:Type} {r:ρ} {N E:Nat} {st:az} {Q:bY→az→Prop} {x y:Code}
def n0{bU:α→β→c6→f7→az}{f:α→β→c6→f7→Option ρ}{a0 aR a2 a3:_}(h:f a0 aR a2 a3=some r)(ai:fP (bU a0 aR a2 a3) st=some (bU a0 aR a2 a3):=by kernel_rfl):∃a0 aR a2 a3,fP (bU a0 aR a2 a3) st=some (bU a0 aR a2 a3)∧f a0 aR a2 a3=some r:=⟨a0,aR,a2,a3,ai,h⟩
def WG(bU:α→β→c6→f7→az)(f:α→β→c6→f7→Option ρ)(Z:aS Tryz.prog N E x (bY.then (λbD=>∃a0 aR a2 a3,fP (bU a0 aR a2 a3) bD=some (bU a0 aR a2 a3)∧f a0 aR a2 a3=some r) Q) st)(ad:∀a0 aR a2 a3,f a0 aR a2 a3=some r→aS Tryz.prog N E y Q (bU a0 aR a2 a3))(b7:∀a0 aR a2 a3,Nat.ble E (bU a0 aR a2 a3).aJ=true:=by intros;kernel_rfl):aS Tryz.prog N E (.seq x y) Q st:=
 aS.cut _ Z λbD ⟨a0,aR,a2,a3,ai,h⟩=>aS.nZ _ _ _ _ ai (b7 a0 aR a2 a3) (ad a0 aR a2 a3 h)
def pX(bU:α→β→c6→f7→az)(F:Nat→α→β→c6→f7→Option ρ)(B:(α→β→c6→f7→Option ρ)→α→β→c6→f7→Option ρ){n:Nat}{a0 aR a2 a3:_}(h:F n a0 aR a2 a3=some r)(body:∀k a0 aR a2 a3,B k a0 aR a2 a3=some r→aS Tryz.prog N E x (bY.then (λbD=>∃a0 aR a2 a3,fP (bU a0 aR a2 a3) bD=some (bU a0 aR a2 a3)∧k a0 aR a2 a3=some r) Q) (bU a0 aR a2 a3))(hi:fP (bU a0 aR a2 a3) st=some (bU a0 aR a2 a3):=by kernel_rfl)(b7:∀a0 aR a2 a3,Nat.ble E (bU a0 aR a2 a3).aJ=true:=by intros;kernel_rfl)(h0:∀a0 aR a2 a3,F 0 a0 aR a2 a3=none:=by intros;rfl)(hs:∀m a0 aR a2 a3,F (m+1) a0 aR a2 a3=B (F m) a0 aR a2 a3:=by intros;rfl):aS Tryz.prog N E (.loop x) Q st:=by
 refine aS.loop (σ:=α×β×c6×f7) (λm (s:α×β×c6×f7) st=>fP (bU s.1 s.2.1 s.2.2.1 s.2.2.2) st=some (bU s.1 s.2.1 s.2.2.1 s.2.2.2)∧F m s.1 s.2.1 s.2.2.1 s.2.2.2=some r) ?_ (n:=n) (s:=(a0,aR,a2,a3)) ⟨hi,h⟩
 rintro m ⟨a0,aR,a2,a3⟩ bD ⟨ai,h⟩
 cases m with
 |zero=>have ad:=(h0 a0 aR a2 a3).symm.trans h;cases ad
 |succ m=>
  refine⟨m,rfl,aS.nZ _ _ _ _ ai (b7 a0 aR a2 a3) ((body (F m) a0 aR a2 a3 ((hs m a0 aR a2 a3).symm.trans h)).mono ?_)⟩
  intro eQ zK ax;cases eQ with
  |normal=>obtain⟨a0,aR,a2,a3,g1,g2⟩:=ax;exact⟨(a0,aR,a2,a3),g1,g2⟩
  |exit i=>exact ax
  |ret=>exact ax
  |aW x=>exact ax
end
section
variable {α β c6 f7 o0:Type} {ρ:Type} {r:ρ} {N E:Nat} {st:az} {Q:bY→az→Prop} {x y:Code}
def WH{bU:α→β→c6→f7→o0→az}{f:α→β→c6→f7→o0→Option ρ}{a0 aR a2 a3 a4:_}(h:f a0 aR a2 a3 a4=some r)(ai:fP (bU a0 aR a2 a3 a4) st=some (bU a0 aR a2 a3 a4):=by kernel_rfl):∃a0 aR a2 a3 a4,fP (bU a0 aR a2 a3 a4) st=some (bU a0 aR a2 a3 a4)∧f a0 aR a2 a3 a4=some r:=⟨a0,aR,a2,a3,a4,ai,h⟩
def WI(bU:α→β→c6→f7→o0→az)(F:Nat→α→β→c6→f7→o0→Option ρ)(B:(α→β→c6→f7→o0→Option ρ)→α→β→c6→f7→o0→Option ρ){n:Nat}{a0 aR a2 a3 a4:_}(h:F n a0 aR a2 a3 a4=some r)(body:∀k a0 aR a2 a3 a4,B k a0 aR a2 a3 a4=some r→aS Tryz.prog N E x (bY.then (λbD=>∃a0 aR a2 a3 a4,fP (bU a0 aR a2 a3 a4) bD=some (bU a0 aR a2 a3 a4)∧k a0 aR a2 a3 a4=some r) Q) (bU a0 aR a2 a3 a4))(hi:fP (bU a0 aR a2 a3 a4) st=some (bU a0 aR a2 a3 a4):=by kernel_rfl)(b7:∀a0 aR a2 a3 a4,Nat.ble E (bU a0 aR a2 a3 a4).aJ=true:=by intros;kernel_rfl)(h0:∀a0 aR a2 a3 a4,F 0 a0 aR a2 a3 a4=none:=by intros;rfl)(hs:∀m a0 aR a2 a3 a4,F (m+1) a0 aR a2 a3 a4=B (F m) a0 aR a2 a3 a4:=by intros;rfl):aS Tryz.prog N E (.loop x) Q st:=by
 refine aS.loop (σ:=α×β×c6×f7×o0) (λm (s:α×β×c6×f7×o0) st=>fP (bU s.1 s.2.1 s.2.2.1 s.2.2.2.1 s.2.2.2.2) st=some (bU s.1 s.2.1 s.2.2.1 s.2.2.2.1 s.2.2.2.2)∧F m s.1 s.2.1 s.2.2.1 s.2.2.2.1 s.2.2.2.2=some r) ?_ (n:=n) (s:=(a0,aR,a2,a3,a4)) ⟨hi,h⟩
 rintro m ⟨a0,aR,a2,a3,a4⟩ bD ⟨ai,h⟩
 cases m with
 |zero=>have ad:=(h0 a0 aR a2 a3 a4).symm.trans h;cases ad
 |succ m=>
  refine⟨m,rfl,aS.nZ _ _ _ _ ai (b7 a0 aR a2 a3 a4) ((body (F m) a0 aR a2 a3 a4 ((hs m a0 aR a2 a3 a4).symm.trans h)).mono ?_)⟩
  intro eQ zK ax;cases eQ with
  |normal=>obtain⟨a0,aR,a2,a3,a4,g1,g2⟩:=ax;exact⟨(a0,aR,a2,a3,a4),g1,g2⟩
  |exit i=>exact ax
  |ret=>exact ax
  |aW x=>exact ax
end
section
variable {α β c6 f7 o0 ad9:Type} {ρ:Type} {r:ρ} {N E:Nat} {st:az} {Q:bY→az→Prop} {x y:Code}
end
end Go.Ab.Y.T
namespace Go.Ab.Y
open Go Go.Ab Go.Proofs
def ES(n:Nat)(s:ae7):Option ae7:=aI (decide (s.length≤281474976710656))<|some s
def ET(n:Nat)(s:ae7)(c:Int):Option Int:=some (Lib.indexByte s c.toNat.toUInt8)
def tw(n:Nat)(s:ae7):Option Int:=aI (decide (s.length≤140737488351232))<|some (kN s)
def My(s:ae7):Int ⊕ Int:=
 match Lib.parseIntB 64 s with
 |.ok v=>.inl v
 |.range=>.inr (Lib.intSat 64 s)
 |_=>.inr 0
def EU(n:Nat)(s:ae7)(base:Int)(zL:Int):Option (Int ⊕ Int):=
 aI (decide (base=10∧zL=64∧s.length≤281474976710656))<|some (My s)
def zM(n:Nat)(i:Int)(base:Int):Option ae7:=aI (decide (base=10 ∧ -9223372036854775808≤i∧i≤9223372036854775807))<|some (Lib.itoa i)
def zN(n:Nat)(elems:List ae7)(sep:ae7):Option ae7:=aI (decide (elems.length≤140737488355328∧(Lib.join elems sep).length≤140737488355328))<|some (Lib.join elems sep)
open Go Go.Ab Go.Proofs
def WJ{n:Nat}{s:ae7}{r:ae7}(h:ES n s=some r):fK Tryz.prog 326 [.v (.str s)] [] [] (.ret (.v (.str r)) none) []:=by
 unfold ES at h;obtain⟨g,h⟩:=oW h;obtain rfl:=Option.some.inj h;refine rx (fd:=Tryz.f326) Tryz.func326 rfl rfl (vsOf:=λvs=>vs=[.string ⟨⟨s⟩⟩]) (λM β vs ab ai=>?_) (λvs w ar hg=>?_)
 ·match vs,ab with
  |[v],_=>
   have:=kG (ai 0 v _ rfl rfl)
   rw [this]
 ·subst ar;refine(Tryz.stringslite_Clone ⟨⟨s⟩⟩ w (show s.length≤281474976710656 from of_decide_eq_true g)).mono ?_
  rintro e w' ⟨rfl,hb⟩
  refine⟨_,rfl,λM β=>.v _ _ (.str _),λb aL h=>?_,by rw [hb.os,hb.output]⟩
  rw [hb.block b (Array.getElem?_eq_some_iff.1 h).1];exact h
def WK{n:Nat}{s:ae7}{c:Int}{r:Int}(h:ET n s c=some r):fK Tryz.prog 352 [.v (.str s),.v (.int .u8 c)] [] [] (.ret (.v (.int .i64 r)) none) []:=by
 unfold ET at h;obtain rfl:=Option.some.inj h;refine rx (fd:=Tryz.f352) Tryz.func352 rfl rfl (vsOf:=λvs=>vs=[.string ⟨⟨s⟩⟩,.int .u8 c]) (λM β vs ab ai=>?_) (λvs w ar hg=>?_)
 ·match vs,ab with
  |[v,u],_=>
   have Z:=kG (ai 0 v _ rfl rfl);have ad:=ke (ai 1 u _ rfl rfl);rw [Z,ad]
 ·subst ar;refine(Tryz.stringslite_IndexByte ⟨⟨s⟩⟩ c w).mono ?_
  rintro e w' ⟨rfl,rfl⟩
  exact⟨_,rfl,λM β=>.v _ _ (.int _ _),λb aL h=>h,rfl⟩
def Mz{n:Nat}{s:ae7}{r:Int}(h:tw n s=some r):fK Tryz.prog 174 [.v (.str s)] [] [] (.ret (.v (.int .i64 r)) none) []:=by
 unfold tw at h;obtain⟨g,h⟩:=oW h;obtain rfl:=Option.some.inj h;refine rx (fd:=Tryz.f174) Tryz.func174 rfl rfl (vsOf:=λvs=>vs=[.string ⟨⟨s⟩⟩]) (λM β vs ab ai=>?_) (λvs w ar hg=>?_)
 ·match vs,ab with
  |[v],_=>
   have:=kG (ai 0 v _ rfl rfl)
   rw [this]
 ·subst ar;refine(Wq ⟨⟨s⟩⟩ w (show s.length≤140737488351232 from of_decide_eq_true g)).mono ?_
  rintro e w' ⟨rfl,pos,rfl⟩
  refine⟨_,rfl,λM β=>.v _ _ (.int _ _),λb aL h=>?_,rfl⟩
  rw [World.iter,Go.RowKit.Below.heap_alloc w _ b (Array.getElem?_eq_some_iff.1 h).1];exact h
def WL(w:World)(e:TypeId)(t:ByteArray):((Lib.bytesWorld w e t).os,(Lib.bytesWorld w e t).output)=(w.os,w.output):=by
 rw [(Lib.bytesWorld_below w e t).os,(Lib.bytesWorld_below w e t).output]
def EV:CQ Tryz.prog=[4,5]:=by kernel_rfl
def MA{n:Nat}{s:ae7}{base:Int}{zL:Int}{r:(Int ⊕ Int)}(h:EU n s base zL=some r):fK Tryz.prog 351 [.v (.str s),.v (.int .i64 base),.v (.int .i64 zL)] [] [] (gB.on r (λMB=>.ret (.cc [.v (.int .i64 MB),.v (.gF)]) none) (λMC=>.ret (.cc [.v (.int .i64 MC),.v ((.iface 393 .any))]) none)) []:=by
 unfold EU at h;obtain⟨g,h⟩:=oW h;obtain rfl:=Option.some.inj h;obtain⟨rfl,rfl,ab⟩:=of_decide_eq_true g
 have eJ:∀(M:Mem) (β:Nat→Option Nat) (vs:List Value),vs.length=3→(∀(i:Nat) v a,vs[i]? = some v→[D.v (.str s),.v (.int .i64 10),.v (.int .i64 64)][i]? = some a→b3 M β v a)→vs=[.string ⟨⟨s⟩⟩,.int .i64 10,.int .i64 64]:=by
  intro M β vs ab ai
  match vs,ab with
  |[v,u,t],_=>
   have Z:=kG (ai 0 v _ rfl rfl);have ad:=ke (ai 1 u _ rfl rfl);have al:=ke (ai 2 t _ rfl rfl);rw [Z,ad,al]
 unfold My;rcases hp:Lib.parseIntB 64 s with v|_|_
 ·
   refine rx (fd:=Tryz.f351) Tryz.func351 rfl rfl (vsOf:=λvs=>vs=[.string ⟨⟨s⟩⟩,.int .i64 10,.int .i64 64]) (λM β vs ab ai=>eJ M β vs ab ai) (λvs w ar hg=>?_)
   subst ar;refine(Tryz.strconv_ParseInt_10_at64_ok ⟨⟨s⟩⟩ (show s.length≤9223372036854775806 by omega) v hp w).mono ?_
   rintro e w' ⟨rfl,hw⟩
   refine⟨_,rfl,λM β=>.cc [_,_] _ rfl λi v c hi hc=>?_,λb aL h=>?_,by rcases hw with rfl|⟨t,rfl⟩;rfl;exact WL _ _ _⟩
   ·match i with
    | 0=>cases hi;cases hc;exact .v _ _ (.int _ _)
    | 1=>cases hi;cases hc;exact .v _ _ .gF
    |i+2=>simp at hi
   ·rcases hw with rfl|⟨t,rfl⟩
    ·exact h
    ·rw [Lib.bytesWorld_at_old _ _ _ _ (Array.getElem?_eq_some_iff.1 h).1];exact h
 ·
   refine rx (fd:=Tryz.f351) Tryz.func351 rfl rfl (vsOf:=λvs=>vs=[.string ⟨⟨s⟩⟩,.int .i64 10,.int .i64 64]) (λM β vs ab ai=>eJ M β vs ab ai) (λvs w ar hg=>?_)
   subst ar;obtain⟨eP,Z,ad⟩:=hg.1 4 (by rw [EV];simp)
   refine(Tryz.strconv_ParseInt_10_at64_syntax ⟨⟨s⟩⟩ ab (by constructor;intro v;rw [show Lib.parseIntB 64 (⟨⟨s⟩⟩:ByteArray).data.toList=_ from hp];intro e;cases e;rw [show Lib.parseIntB 64 (⟨⟨s⟩⟩:ByteArray).data.toList=_ from hp];intro e;cases e) eP w Z ad).mono ?_
   rintro e w' ⟨N,rfl,bA,gz,hb⟩
   refine⟨_,rfl,λM β=>.cc [_,_] _ rfl λi v c hi hc=>?_,λb aL h=>?_,by rw [hb.os,hb.output]⟩
   ·match i with
    | 0=>cases hi;cases hc;exact .v _ _ (.int _ _)
    | 1=>cases hi;cases hc;exact .v _ _ (.iface _ _ _ (.any _ rfl))
    |i+2=>simp at hi
   ·rw [hb.block b (Array.getElem?_eq_some_iff.1 h).1];exact h
 ·
   refine rx (fd:=Tryz.f351) Tryz.func351 rfl rfl (vsOf:=λvs=>vs=[.string ⟨⟨s⟩⟩,.int .i64 10,.int .i64 64]) (λM β vs ab ai=>eJ M β vs ab ai) (λvs w ar hg=>?_)
   subst ar;obtain⟨eP,Z,ad⟩:=hg.1 5 (by rw [EV];simp)
   refine(Tryz.strconv_ParseInt_10_at64_range ⟨⟨s⟩⟩ ab hp eP w Z ad).mono ?_
   rintro e w' ⟨N,rfl,bA,gz,hb⟩
   refine⟨_,rfl,λM β=>.cc [_,_] _ rfl λi v c hi hc=>?_,λb aL h=>?_,by rw [hb.os,hb.output]⟩
   ·match i with
    | 0=>cases hi;cases hc;exact .v _ _ (.int _ _)
    | 1=>cases hi;cases hc;exact .v _ _ (.iface _ _ _ (.any _ rfl))
    |i+2=>simp at hi
   ·rw [hb.block b (Array.getElem?_eq_some_iff.1 h).1];exact h
def zO : Tryz.prog.globalNamed "internal/strconv.uint64pow10" = some 1 := by kernel_rfl
def MD:(Lib.pow10Tab.map λz=>Value.int .u64 z).toArray=CR:=by kernel_rfl
def WM {w : World} (h : zo Tryz.prog w) : Lib.TabIs Tryz.prog w "internal/strconv.uint64pow10" .u64 Lib.pow10Tab := by
 obtain⟨t,iU,Z⟩:=h.2 1 zO;unfold Lib.TabIs World.var?;rw [zO,Option.bind_some,Z,MD]
def WN{n:Nat}{i:Int}{base:Int}{r:ae7}(h:zM n i base=some r):fK Tryz.prog 320 [.v (.int .i64 i),.v (.int .i64 base)] [] [] (.ret (.v (.str r)) none) []:=by
 unfold zM at h;obtain⟨g,h⟩:=oW h;obtain rfl:=Option.some.inj h;obtain⟨rfl,h0,Z⟩:=of_decide_eq_true g;refine rx (fd:=Tryz.f320) Tryz.func320 rfl rfl (vsOf:=λvs=>vs=[.int .i64 i,.int .i64 10]) (λM β vs ab ai=>?_) (λvs w ar hg=>?_)
 ·match vs,ab with
  |[v,u],_=>
   have g1:=ke (ai 0 v _ rfl rfl);have g2:=ke (ai 1 u _ rfl rfl);rw [g1,g2]
 ·subst ar;refine(Tryz.strconv_FormatInt_10 i h0 Z w (WM hg)).mono ?_
  rintro e w' ⟨rfl,k,os,rfl⟩
  exact⟨_,rfl,λM β=>.v _ _ (.str _),λb aL h=>(Lib.heap_grow_old w k os b (Array.getElem?_eq_some_iff.1 h).1).trans h,rfl⟩
def ME{b:List Int}(g:(mv b&&decide (b.length≤9223372036854775807))=true):b.length=(jv b).length∧∀i,i<(jv b).length→(λi=>cm (b.getD i default)) i = .int .u8 (((jv b).getD i 0).toNat:Int):=by
 simp only [Bool.and_eq_true]at g;obtain⟨Z,ad⟩:=zu g.1;exact⟨Z.symm,λi hi=>ad i (by omega)⟩
def MF{b:List Int}(g:(mv b&&decide (b.length≤9223372036854775807))=true):(jv b).length≤9223372036854775807:=by
 simp only [Bool.and_eq_true,decide_eq_true_eq]at g;rw [(zu g.1).1];exact g.2
def EW:Go.Proofs.Builder.Extra Tryz.prog Tryz.Mg where
 sizeBuilder:=by kernel_rfl
 liesBuilder:=by kernel_rfl
 t5:=Tryz.underlying5
 a5:=Tryz.isAgg5
 z5:=Tryz.sizeOf5
 v5:=Tryz.zeroValue5
 infoByte:=by kernel_rfl
 cellsByte:=by kernel_rfl
 sizeByte:=by kernel_rfl
 neB5:=by decide
def MG{n:Nat}{elems:List ae7}{sep:ae7}{r:ae7}(h:zN n elems sep=some r):fK Tryz.prog 119 [.v (af 1 bp elems),.v (.str sep)] [] [] (.ret (.v (.str r)) none) []:=by
 unfold zN at h;obtain⟨g,h⟩:=oW h;obtain rfl:=Option.some.inj h;obtain⟨bA,lh⟩:=of_decide_eq_true g
 have MH:(elems.map λs=>(⟨⟨s⟩⟩:ByteArray)).map (·.data.toList)=elems:=by
  rw [List.map_map];conv=>rhs;rw [←List.map_id elems]
  rfl
 refine LO (fd:=Tryz.f119) Tryz.func119 rfl rfl (vsOf:=λw vs=>(∃a,vs=[.slice a 0 0,.string ⟨⟨sep⟩⟩]∧elems=[])∨∃tx o c,vs=[.slice (some ⟨tx,o,none⟩) elems.length c,.string ⟨⟨sep⟩⟩]∧elems.length≤c∧∀(j:Nat) x,elems[j]? = some x→w.cell? ⟨tx,o+j,none⟩=some (.string ⟨⟨x⟩⟩)) (λw M β vs hm ab ai=>?_) (λvs w ar hg=>?_)
 ·match vs,ab with
  |[v,u],_=>
   have g2:=kG (ai 1 u _ rfl rfl);have g1:=ai 0 v _ rfl rfl;rw [g2];rcases pu (k:=1) (n:=elems.length) (get:=λi=>bp (elems.getD i default)) g1 with⟨Z,ad⟩|⟨b,off,cap,val,Z,hc,hk,cr,hz,fA⟩
   ·rcases Z with Z|⟨a,Z⟩
    ·exact .inl ⟨none,by rw [Z],List.eq_nil_of_length_eq_zero ad⟩
    ·exact .inl ⟨some a,by rw [Z],List.eq_nil_of_length_eq_zero ad⟩
   ·refine .inr ⟨b,off,cap,by rw [Z],hc,λj x hx=>?_⟩
    have hj:j<elems.length:=(List.getElem?_eq_some_iff.1 hx).1;have e1:=hm _ _ _ (cr j 0 hj (by omega))
    have e2:=fA j 0 (.str x) hj (by
     have:elems.getD j default=x:=by simp [List.getD,hx]
     rw [this];rfl)
    rw [show off+j*1+0=off+j by omega]at e1
    rw [e1];generalize val j 0=y at e2 ⊢
    cases e2;rfl
 ·rcases ar with⟨a,rfl,rfl⟩|⟨tx,o,c,rfl,hc,m4⟩
  ·refine(Any.strings_Join_none Tryz.EI EW a 0 ⟨⟨sep⟩⟩ w).mono ?_
   rintro e w' ⟨rfl,rfl⟩
   exact⟨_,rfl,λM β=>.v _ _ (.str _),λb aL h=>h,rfl⟩
  ·cases elems with
   |nil=>
    refine(Any.strings_Join_none Tryz.EI EW (some ⟨tx,o,none⟩) c ⟨⟨sep⟩⟩ w).mono ?_
    rintro e w' ⟨rfl,rfl⟩
    exact⟨_,rfl,λM β=>.v _ _ (.str _),λb aL h=>h,rfl⟩
   |cons fm WO=>
    have WP:tx<w.heap.size:=lt_of_cell (m4 0 fm rfl)
    have hj:=Any.strings_Join Tryz.EI EW tx o c ((fm::WO).map λs=>(⟨⟨s⟩⟩:ByteArray)) ⟨⟨sep⟩⟩ w (λj x hx=>by
     rw [List.getElem?_map,Option.map_eq_some_iff]at hx;obtain⟨y,bX,rfl⟩:=hx;exact m4 j y bX) WP (by simpa using bA) (by simpa using hc) (by rw [MH];exact lh)
    rw [List.length_map]at hj;refine hj.mono ?_
    rintro e w' ⟨rfl,hb⟩
    refine⟨_,rfl,λM β=>?_,λb aL h=>?_,by rw [hb.os,hb.output]⟩
    ·rw [MH];exact .v _ _ (.str _)
    ·rw [hb.block b (Array.getElem?_eq_some_iff.1 h).1];exact h
end Go.Ab.Y
namespace Go.Ab.Y
open Go Go.Ab Go.Proofs T
abbrev afc{ρ:Type}(i:FuncId)(a:List D)(F:Option ρ)(o:ρ→Out):Prop:=aY i a [] [] F o λ_=>[]
abbrev afd(i:FuncId)(a:List D)(F:Option Bool):Prop:=afc i a F λr=>aU (cu r)
abbrev afe(i:FuncId)(a:List D)(F:Option Int):Prop:=afc i a F λr=>aU (bh r)
end Go.Ab.Y

/- The types of this claim, and the contracts that were written by hand. -/
import Derived.Test.YtcjbfnojhpfchaaGreatDoorProg
import Derived.WalkKit
import Derived.Lib.Builder
import Derived.Lib.UnsafeStr
import Derived.Laws.Externs
import Derived.Shelf.RegionOpenPlain
import Derived.Lib.Join
import Derived.Lib.Bytealg
import Derived.Lib.ItoaNum
import Derived.Lib.ParseIntBCases
import Derived.Lib.AppendIntMem
import Derived.Lib.AtoiErrMem
import Derived.Test.YtcjbfnojhpfchaaGreatDoorShelf
set_option linter.all false
namespace Go.Ab
abbrev ar0(x:Int):Int:=IntKind.i64.wrap x
abbrev ar1{α:Type}[Inhabited α](l:List α)(i:Int):α:=l.getD i.toNat default
abbrev ar2:=Option Bool
abbrev ar3:=Option Int
abbrev V.ar4(x:Int):V:=.int .i64 x
end Go.Ab
namespace Go.Ab.Y
open Go Go.Proofs
def ih(c:UInt8):Bool:=decide ((97≤c.toNat∧c.toNat≤122)∨(48≤c.toNat∧c.toNat≤57)∨c.toNat=95)
def gN(s:arY):Nat:=(s.takeWhile ih).length
def O7{s:arY}{k:Nat}(hk:k≤s.length)(h:∀(j:Nat) c,j<k→s[j]? = some c→ih c=true)(he:∀c,s[k]? = some c→ih c=false):gN s=k:=by
 unfold gN;induction s generalizing k with
 |nil=>simp at hk ⊢;omega
 |cons c s aR=>
  cases k with
  |zero=>
   have:=he c rfl
   simp [List.takeWhile,this]
  |succ k=>
   have h0:=h 0 c (by omega) rfl
   simp only [List.takeWhile,h0,List.length_cons];rw [aR (by simpa using hk) (λj c hj hc=>h (j+1) c (by omega) (by simpa using hc)) (λc hc=>he c (by simpa using hc))]
def O8(s:ByteArray)(k:Nat)(h:k<s.size):s.data.toList[k]? = some (s[k]'h):=by
 have:k<s.data.toList.length:=by simpa using h
 rw [List.getElem?_eq_getElem this];rfl
def HP(s:ByteArray)(k:Nat):Prop:=∀(j:Nat) c,j<k→s.data.toList[j]? = some c→ih c=true
def HP.succ{s:ByteArray}{k:Nat}(h:HP s k)(hk:k<s.size)(hc:ih (s[k]'hk)=true):HP s (k+1):=by
 intro j c hj ku;by_cases e:j=k
 ·subst e;rw [O8 s j hk]at ku;cases ku;exact hc
 ·exact h j c (by omega) ku
set_option maxRecDepth 100000 in
def ahc(s:ByteArray)(w:World)(hs:s.size≤140737488351232):
 Calls Tryz.prog 174 #[.string s] w λe w'=>e = .returned (.int .i64 (gN s.data.toList))∧∃pos,w'=w.iter s pos:=by
 go_enter Tryz.func174,Tryz.ntmps174
 go_wp2
 go_loopw [] (λw'=>∃k:Nat,w'=w.iter s k∧k≤s.size∧HP s k) (λw'=>s.size-w'.iterPos w.heap.size)
 case atStart=>exact⟨0,rfl,by omega,λj c hj=>by omega⟩
 case round=>
  obtain⟨k,rfl,hk,hin⟩:=hrel;by_cases hp:k<s.size
  ·by_cases ha:(s[k]'hp).toNat<128
   ·have hnx:∀ty,(Instr.next (.pointer (some ⟨w.heap.size,0,none⟩)) true ty).run Tryz.prog (w.iter s k)=_:=λty=>run_next_ascii w s k ty hp ha
    cases hw:ih (s[k]'hp)
    ·have hlen:=O7 (s:=s.data.toList) (k:=k) (by simpa using hk) hin (λc hc=>by rw [O8 s k hp]at hc;cases hc;exact hw)
     have hc:=of_decide_eq_false hw;clear hw
     go_wp2
     all_goals first
      |(exfalso;simp at *;omega)
      |(go_ret;exact⟨by first |rfl |(rw [hlen];rfl),_,rfl⟩)
    ·have hc:=of_decide_eq_true hw;have hin2:=hin.succ hp hw;clear hw hin
     go_wp2
     all_goals first
      |(exfalso;simp at *;omega)
      |(
       go_roundw
       case rel=>exact⟨k+1,rfl,hp,hin2⟩
       case measure=>simp;omega)
   ·have hnx:∀ty,(Instr.next (.pointer (some ⟨w.heap.size,0,none⟩)) true ty).run Tryz.prog (w.iter s k)=_:=λty=>run_next_any w s k ty hp
    have hd:=(decode_high s k hp (by omega)).1
    have hle:=decode_le s k
    have hlen:=O7 (s:=s.data.toList) (k:=k) (by simpa using hk) hin (λc hc=>by
     rw [O8 s k hp]at hc;cases hc;exact decide_eq_false (by omega))
    generalize Utf8.decode s k=d at hnx hd hle
    go_wp2
    all_goals first
     |(exfalso;simp at *;omega)
     |(go_ret;exact⟨by first |rfl |(rw [hlen];rfl),_,rfl⟩)
  ·have hnx:∀ty,(Instr.next (.pointer (some ⟨w.heap.size,0,none⟩)) true ty).run Tryz.prog (w.iter s k)=_:=λty=>run_next_end w s k ty hp
   have hlen:=O7 (s:=s.data.toList) (k:=k) (by simpa using hk) hin (λc hc=>by
    have:=(List.getElem?_eq_some_iff.1 hc).1
    simp at this;omega)
   obtain rfl:k=s.size:=by omega
   go_wp2
   go_ret
   exact⟨by first|rfl|(rw [hlen];rfl),_,rfl⟩
open Go Go.Proofs Go.RowKit
def XS:(Tryz.prog.info? 120).map (·.size)=some 2:=by kernel_rfl
set_option maxHeartbeats 1000000 in
set_option maxRecDepth 100000 in
def XT(b:Nat)(w:World)(h0:w.cell? ⟨b,0,none⟩=some (.pointer (some ⟨b,0,none⟩))):
 Calls Tryz.prog 113 #[.pointer (some ⟨b,0,none⟩)] w λe w'=>e = .returned (.tuple #[])∧w'=w:=by
 obtain⟨j,hj,_⟩:=Option.map_eq_some_iff.1 XS
 go_enter Tryz.func113,Tryz.ntmps113
 go_wp2
 rw [Lib.run_neq_ptr_same w _ Tryz.underlying117 hj]
 go_wp2
 go_end0
 exact⟨rfl,rfl⟩
set_option maxHeartbeats 1000000 in
set_option maxRecDepth 100000 in
def XU(b:Nat)(w:World)(T:TypeId)(k:Nat)(h0:w.cell? ⟨b,0,none⟩=some (.pointer none))(hsh:w.shape? b=some (T,k))(hk:0<k)(hlies:liesAt Tryz.prog Tryz.prog.depth T (k / Tryz.prog.cellsOf T) 0 120 1=true)(hfz:w.frozen? ⟨b,0,none⟩=false):
 Calls Tryz.prog 113 #[.pointer (some ⟨b,0,none⟩)] w λe w'=>e = .returned (.tuple #[])∧w'=w.setCell ⟨b,0,none⟩ (.pointer (some ⟨b,0,none⟩)):=by
 obtain⟨j,hj,hjs⟩:=Option.map_eq_some_iff.1 XS
 go_enter Tryz.func113,Tryz.ntmps113
 go_wp2
 rw [Lib.run_to_unsafe w ⟨b,0,none⟩ Tryz.underlying117 Tryz.underlying256 hj (by rw [hjs];decide) hsh hk]
 simp only [Result.andThen];rw [Oper.upon_value]
 go_wp2
 rw [run_callFunc_extern Tryz.func184 (by kernel_rfl) (by kernel_rfl) (by kernel_rfl) (e:=Extern.AbiNoEscape.same) (by kernel_rfl)]
 rw [Lib.run_noEscape];simp only [Result.andThen];rw [Oper.upon_value]
 go_wp2
 rw [Lib.run_from_unsafe w ⟨b,0,none⟩ Tryz.underlying256 Tryz.underlying117 hj hsh hlies];simp only [Result.andThen];rw [Oper.upon_value]
 go_wp2
 go_end0
 exact⟨rfl,rfl⟩
def cellsByte:Tryz.prog.cellsOf 5=1:=by kernel_rfl
set_option maxHeartbeats 2000000 in
set_option maxRecDepth 100000 in
def XV(b:Nat)(w:World)(h:w.cell? ⟨b,1,none⟩=some (.slice none 0 0)):
 Calls Tryz.prog 66 #[.pointer (some ⟨b,0,none⟩)] w λe w'=>e = .returned (.string ⟨#[]⟩)∧w'=w.drew:=by
 have hUS:(Builtin.unsafeString_ #[191,3] 9 #[.pointer none,.int .i64 0]).run Tryz.prog w.drew = .ok (.string .empty) w.drew:=Lib.run_unsafeString_none w.drew _ _ _ none;have c1:w.drew.cell? ⟨b,1,none⟩=some (.slice none 0 0):=h;have hSD:(Builtin.unsafeSliceData_ #[118] 191 #[.slice none 0 0]).run Tryz.prog w.drew = .ok (.pointer none) w.drew:=rfl;have mixed:Tryz.prog.follows .mixedOrders=true:=by kernel_rfl
 go_enter Tryz.func66,Tryz.ntmps66
 go_wp2
 go_region_o
 all_goals (go_wp2;go_ret;exact⟨rfl,rfl⟩)
set_option maxHeartbeats 2000000 in
set_option maxRecDepth 100000 in
def XW(b g cap:Nat)(w:World)(hc0:cap≠0)(h:w.cell? ⟨b,1,none⟩=some (.slice (some ⟨g,0,none⟩) 0 cap)):
 Calls Tryz.prog 66 #[.pointer (some ⟨b,0,none⟩)] w λe w'=>e = .returned (.string ⟨#[]⟩)∧w'=w.drew:=by
 have hUS:(Builtin.unsafeString_ #[191,3] 9 #[.pointer (some ⟨g,0,none⟩),.int .i64 0]).run Tryz.prog w.drew = .ok (.string .empty) w.drew:=Lib.run_unsafeString_none w.drew _ _ _ _;have c1:w.drew.cell? ⟨b,1,none⟩=some (.slice (some ⟨g,0,none⟩) 0 cap):=h;have hSD:(Builtin.unsafeSliceData_ #[118] 191 #[.slice (some ⟨g,0,none⟩) 0 cap]).run Tryz.prog w.drew = .ok (.pointer (some ⟨g,0,none⟩)) w.drew:=Lib.run_unsafeSliceData_row _ _ _ _ _ _ hc0;clear hc0;have mixed:Tryz.prog.follows .mixedOrders=true:=by kernel_rfl
 go_enter Tryz.func66,Tryz.ntmps66
 go_wp2
 go_region_o
 all_goals (go_wp2;go_ret;exact⟨rfl,rfl⟩)
set_option maxHeartbeats 2000000 in
set_option maxRecDepth 100000 in
def XX(b g:Nat)(w:World)(vs:List Value)(h:w.cell? ⟨b,1,none⟩=some (.slice (some ⟨g,0,none⟩) 0 0))(hb:b<w.heap.size)(hg:w.heap[g]? = some (.cells ⟨vs⟩ 5 (0,0))):
 Calls Tryz.prog 66 #[.pointer (some ⟨b,0,none⟩)] w λe w'=>e = .returned (.string ⟨#[]⟩)∧w'=(w.drew.alloc (.view ⟨g,0,none⟩ 5)):=by
 have hUS:∀(q:Option Addr) (W:World),(Builtin.unsafeString_ #[191,3] 9 #[.pointer q,.int .i64 0]).run Tryz.prog W = .ok (.string .empty) W:=λq W=>Lib.run_unsafeString_none W _ _ _ q
 have c1:w.drew.cell? ⟨b,1,none⟩=some (.slice (some ⟨g,0,none⟩) 0 0):=h
 have hSD:(Builtin.unsafeSliceData_ #[118] 191 #[.slice (some ⟨g,0,none⟩) 0 0]).run Tryz.prog w.drew = .ok (.pointer (some ⟨w.drew.heap.size,0,none⟩)) (w.drew.alloc (.view ⟨g,0,none⟩ 5)):=
  Lib.run_unsafeSliceData_zero w.drew _ _ 5 Tryz.underlying191 ⟨g,0,none⟩ 0 (5,vs.length) (by have hg':w.drew.heap[g]? = some (.cells ⟨vs⟩ 5 (0,0)):=hg;simp [World.shape?,hg'])
 have c2:(w.drew.alloc (.view ⟨g,0,none⟩ 5)).cell? ⟨b,1,none⟩=some (.slice (some ⟨g,0,none⟩) 0 0):=by
  unfold World.cell? at h ⊢;rw [show(w.drew.alloc (.view ⟨g,0,none⟩ 5)).heap[b]? = w.heap[b]? from Lib.alloc_old w.drew _ b hb];exact h
 have c3:(w.alloc (.view ⟨g,0,none⟩ 5)).drew.cell? ⟨b,1,none⟩=some (.slice (some ⟨g,0,none⟩) 0 0):=c2;have mixed:Tryz.prog.follows .mixedOrders=true:=by kernel_rfl
 go_enter Tryz.func66,Tryz.ntmps66
 go_wp2
 go_region_o
 all_goals (go_wp2;go_ret;exact⟨rfl,rfl⟩)
set_option maxHeartbeats 2000000 in
set_option maxRecDepth 100000 in
def XY(b g cap:Nat)(w:World)(vs:List Value)(l:arY)(h0:l≠[])(h:w.cell? ⟨b,1,none⟩=some (.slice (some ⟨g,0,none⟩) l.length cap))(hg:w.heap[g]? = some (.cells ⟨vs⟩ 5 (0,0)))
 (hn:l.length≤cap) (hcap:cap≤vs.length) (h63:l.length≤9223372036854775807) (hc:∀(j:Nat) (x:UInt8),l[j]? = some x→vs[j]? = some (Value.int .u8 x.toNat)):
 Calls Tryz.prog 66 #[.pointer (some ⟨b,0,none⟩)] w λe w'=>e = .returned (.string ⟨l.toArray⟩)∧w'=w.drew.freeze ⟨g,0,none⟩ l.length:=by
 have hl0:l.length≠0:=by simpa using h0
 have c1:w.drew.cell? ⟨b,1,none⟩=some (.slice (some ⟨g,0,none⟩) l.length cap):=h;have hg':w.drew.heap[g]? = some (.cells ⟨vs⟩ 5 (0,0)):=hg;have hSD:(Builtin.unsafeSliceData_ #[118] 191 #[.slice (some ⟨g,0,none⟩) l.length cap]).run Tryz.prog w.drew = .ok (.pointer (some ⟨g,0,none⟩)) w.drew:=Lib.run_unsafeSliceData_row _ _ _ _ _ _ (by omega)
 have hUS:(Builtin.unsafeString_ #[191,3] 9 #[.pointer (some ⟨g,0,none⟩),.int .i64 l.length]).run Tryz.prog w.drew = .ok (.string ⟨l.toArray⟩) (w.drew.freeze ⟨g,0,none⟩ l.length):=
  Lib.run_unsafeString_row w.drew 191 3 9 5 Tryz.underlying191 cellsByte g vs.length (by simp [World.shape?,hg']) l h0 (by omega) h63 (λj x hx=>by
   have:=hc j x hx
   rw [show(⟨g,0,none⟩:Addr).add j=⟨g,j,none⟩by unfold Addr.add;split<;>simp_all,Go.Ab.cell_of_heap hg',this])
 have mixed:Tryz.prog.follows .mixedOrders=true:=by kernel_rfl
 go_enter Tryz.func66,Tryz.ntmps66
 go_wp2
 go_region_o
 all_goals (go_wp2;go_ret;exact⟨rfl,rfl⟩)
open Go Go.Ab Go.Proofs
abbrev aq2(x:Int):V:=.int .i32 x
abbrev oq(x:Int):V:=.int .i64 x
abbrev aq3(x:Int):V:=.int .u32 x
abbrev aq4(x:Int):V:=.int .u64 x
abbrev cU(x:Int):V:=.int .u8 x
def aq5{α β dq:Type}{a:α}{f:α→dq}{g:β→dq}{r:dq}(h:iw.on (.inl a) f g=r):f a=r:=h
def aq6{α β dq:Type}{b:β}{f:α→dq}{g:β→dq}{r:dq}(h:iw.on (.inr b) f g=r):g b=r:=h
abbrev aq7(x:Bool):V:=.bool x
abbrev bo(x:arY):V:=.str x
structure bk where
 Kind:Int
 N:Int
 S:arY
instance:Inhabited bk:=⟨⟨0,0,([]:arY)⟩⟩
def dv(x:bk):V:=.agg [.int .i64 x.Kind,.int .i64 x.N,.str x.S]
structure Version where
 fY:Int
 bY:bk
instance:Inhabited Version:=⟨⟨0,(⟨0,0,([]:arY)⟩:bk)⟩⟩
def jt(x:Version):V:=.agg [.int .i64 x.fY,.int .i64 x.bY.Kind,.int .i64 x.bY.N,.str x.bY.S]
structure Row where
 Key:arY
 ce:List Version
instance:Inhabited Row:=⟨⟨([]:arY),([]:List Version)⟩⟩
def dD(x:Row):V:=.agg [.str x.Key,ag 4 jt x.ce]
structure be where
 dI:Int
 c_:Int
 Rows:List Row
instance:Inhabited be:=⟨⟨0,0,([]:List Row)⟩⟩
def aq8(x:be):V:=.agg [.int .i64 x.dI,.int .i64 x.c_,ag 2 dD x.Rows]
structure Param where
 Name:arY
 fS:Int
instance:Inhabited Param:=⟨⟨([]:arY),0⟩⟩
def dY(x:Param):V:=.agg [.str x.Name,.int .i64 x.fS]
structure Expr where
 Op:Int
 N:Int
 S:arY
 au:List Expr
instance:Inhabited Expr:=⟨⟨0,0,([]:arY),([]:List Expr)⟩⟩
mutual
def bB:Expr→V
 |⟨Op,N,S,au⟩=>.agg [.int .i64 Op,.int .i64 N,.str S,.bS 4 au.length λi=>(CJ au).getD i .eC]
def CJ:List Expr→List V
 |[]=>[]
 |x::l=>bB x::CJ l
end
def XZ:∀l:List Expr,CJ l=l.map bB
 |[]=>rfl
 |x::l=>by rw [CJ,XZ l];rfl
def X0(l:List Expr)(i:Nat)(h:i<l.length):(CJ l).getD i .eC=bB (l.getD i default):=by
 rw [XZ];simp [List.getD,List.getElem?_eq_getElem h]
def ahd(x:Expr):lm (bB x).cells [.int .i64 x.Op,.int .i64 x.N,.str x.S,ag 4 bB x.au]:=by
 cases x;exact .cons (ig _) (.cons (ig _) (.cons (ig _) (.cons (q3 λi hi=>X0 _ i hi) (lm.nil))))
def ud(x:Expr):lm [.int .i64 x.Op,.int .i64 x.N,.str x.S,ag 4 bB x.au] (bB x).cells:=by
 cases x;exact .cons (ig _) (.cons (ig _) (.cons (ig _) (.cons (q3 λi hi=>(X0 _ i hi).symm) (lm.nil))))
def f'(x:Expr):hC (bB x) (.agg [.int .i64 x.Op,.int .i64 x.N,.str x.S,ag 4 bB x.au]):=by
 have h:=ahd x;cases x;exact W8 h
structure Stmt where
 Op:Int
 Name:arY
 Max:Int
 A:Expr
 B:Expr
 Body:List Stmt
 bK:List Stmt
instance:Inhabited Stmt:=⟨⟨0,([]:arY),0,(⟨0,0,([]:arY),([]:List Expr)⟩:Expr),(⟨0,0,([]:arY),([]:List Expr)⟩:Expr),([]:List Stmt),([]:List Stmt)⟩⟩
mutual
def bE:Stmt→V
 |⟨Op,Name,Max,A,B,Body,bK⟩=>.agg [.int .i64 Op,.str Name,.int .i64 Max,.int .i64 A.Op,.int .i64 A.N,.str A.S,ag 4 bB A.au,.int .i64 B.Op,.int .i64 B.N,.str B.S,ag 4 bB B.au,.bS 13 Body.length λi=>(yT Body).getD i .eC,.bS 13 bK.length λi=>(yT bK).getD i .eC]
def yT:List Stmt→List V
 |[]=>[]
 |x::l=>bE x::yT l
end
def X1:∀l:List Stmt,yT l=l.map bE
 |[]=>rfl
 |x::l=>by rw [yT,X1 l];rfl
def HQ(l:List Stmt)(i:Nat)(h:i<l.length):(yT l).getD i .eC=bE (l.getD i default):=by
 rw [X1];simp [List.getD,List.getElem?_eq_getElem h]
def ahe(x:Stmt):lm (bE x).cells [.int .i64 x.Op,.str x.Name,.int .i64 x.Max,.int .i64 x.A.Op,.int .i64 x.A.N,.str x.A.S,ag 4 bB x.A.au,.int .i64 x.B.Op,.int .i64 x.B.N,.str x.B.S,ag 4 bB x.B.au,ag 13 bE x.Body,ag 13 bE x.bK]:=by
 cases x;exact .cons (ig _) (.cons (ig _) (.cons (ig _) (.cons (ig _) (.cons (ig _) (.cons (ig _) (.cons (ig _) (.cons (ig _) (.cons (ig _) (.cons (ig _) (.cons (ig _) (.cons (q3 λi hi=>HQ _ i hi) (.cons (q3 λi hi=>HQ _ i hi) (lm.nil)))))))))))))
def X2(x:Stmt):lm [.int .i64 x.Op,.str x.Name,.int .i64 x.Max,.int .i64 x.A.Op,.int .i64 x.A.N,.str x.A.S,ag 4 bB x.A.au,.int .i64 x.B.Op,.int .i64 x.B.N,.str x.B.S,ag 4 bB x.B.au,ag 13 bE x.Body,ag 13 bE x.bK] (bE x).cells:=by
 cases x;exact .cons (ig _) (.cons (ig _) (.cons (ig _) (.cons (ig _) (.cons (ig _) (.cons (ig _) (.cons (ig _) (.cons (ig _) (.cons (ig _) (.cons (ig _) (.cons (ig _) (.cons (q3 λi hi=>(HQ _ i hi).symm) (.cons (q3 λi hi=>(HQ _ i hi).symm) (lm.nil)))))))))))))
def ju(x:Stmt):hC (bE x) (.agg [.int .i64 x.Op,.str x.Name,.int .i64 x.Max,.int .i64 x.A.Op,.int .i64 x.A.N,.str x.A.S,ag 4 bB x.A.au,.int .i64 x.B.Op,.int .i64 x.B.N,.str x.B.S,ag 4 bB x.B.au,ag 13 bE x.Body,ag 13 bE x.bK]):=by
 have h:=ahe x;cases x;exact W8 h
structure a_ where
 Name:arY
 Params:List Param
 Body:List Stmt
instance:Inhabited a_:=⟨⟨([]:arY),([]:List Param),([]:List Stmt)⟩⟩
def es(x:a_):V:=.agg [.str x.Name,ag 2 dY x.Params,ag 13 bE x.Body]
structure Outcome where
 Status:Int
 Code:Int
 Out:List bk
instance:Inhabited Outcome:=⟨⟨0,0,([]:List bk)⟩⟩
def aq9(x:Outcome):V:=.agg [.int .i64 x.Status,.int .i64 x.Code,ag 3 dv x.Out]
structure dS where
 Client:Int
 Seq:Int
 Outcome:Outcome
instance:Inhabited dS:=⟨⟨0,0,(⟨0,0,([]:List bk)⟩:Outcome)⟩⟩
def gO(x:dS):V:=.agg [.int .i64 x.Client,.int .i64 x.Seq,.int .i64 x.Outcome.Status,.int .i64 x.Outcome.Code,ag 3 dv x.Outcome.Out]
structure bH where
 Client:Int
 Next:Int
 cK:List dS
instance:Inhabited bH:=⟨⟨0,0,([]:List dS)⟩⟩
def ed(x:bH):V:=.agg [.int .i64 x.Client,.int .i64 x.Next,ag 5 gO x.cK]
structure Part where
 Id:Int
 eJ:arY
 Node:Int
 fN:Int
 ii:arY
instance:Inhabited Part:=⟨⟨0,([]:arY),0,0,([]:arY)⟩⟩
def dn(x:Part):V:=.agg [.int .i64 x.Id,.str x.eJ,.int .i64 x.Node,.int .i64 x.fN,.str x.ii]
structure cp where
 Version:Int
 aV:List Part
instance:Inhabited cp:=⟨⟨0,([]:List Part)⟩⟩
def aq'(x:cp):V:=.agg [.int .i64 x.Version,ag 5 dn x.aV]
structure bz where
 Key:arY
 Count:Int
instance:Inhabited bz:=⟨⟨([]:arY),0⟩⟩
def eA(x:bz):V:=.agg [.str x.Key,.int .i64 x.Count]
structure eT where
 eg:Bool
 Reads:List arY
 dw:List arY
instance:Inhabited eT:=⟨⟨false,([]:List arY),([]:List arY)⟩⟩
def aq_(x:eT):V:=.agg [.bool x.eg,ag 1 bo x.Reads,ag 1 bo x.dw]
structure Request where
 Client:Int
 Seq:Int
 a_:arY
 au:List bk
 ff:Bool
 bD:eT
instance:Inhabited Request:=⟨⟨0,0,([]:arY),([]:List bk),false,(⟨false,([]:List arY),([]:List arY)⟩:eT)⟩⟩
def eK(x:Request):V:=.agg [.int .i64 x.Client,.int .i64 x.Seq,.str x.a_,ag 3 dv x.au,.bool x.ff,.bool x.bD.eg,ag 1 bo x.bD.Reads,ag 1 bo x.bD.dw]
structure dg where
 Pos:Int
 be:be
 fk:List a_
 fr:List bH
 Place:cp
 bz:List bz
 Queue:List Request
 fl:Int
instance:Inhabited dg:=⟨⟨0,(⟨0,0,([]:List Row)⟩:be),([]:List a_),([]:List bH),(⟨0,([]:List Part)⟩:cp),([]:List bz),([]:List Request),0⟩⟩
def ara(x:dg):V:=.agg [.int .i64 x.Pos,.int .i64 x.be.dI,.int .i64 x.be.c_,ag 2 dD x.be.Rows,ag 3 es x.fk,ag 3 ed x.fr,.int .i64 x.Place.Version,ag 5 dn x.Place.aV,ag 2 eA x.bz,ag 8 eK x.Queue,.int .u64 x.fl]
structure bG where
 Key:arY
 bY:bk
instance:Inhabited bG:=⟨⟨([]:arY),(⟨0,0,([]:arY)⟩:bk)⟩⟩
def eF(x:bG):V:=.agg [.str x.Key,.int .i64 x.bY.Kind,.int .i64 x.bY.N,.str x.bY.S]
structure fs where
 s:arY
 at_:Int
 e:Int
instance:Inhabited fs:=⟨⟨([]:arY),0,0⟩⟩
def arb(x:fs):V:=.agg [.str x.s,.int .i64 x.at_,.int .i64 x.e]
structure pe where
 gj:dg
 O9:List bG
 sources:List arY
instance:Inhabited pe:=⟨⟨(⟨0,(⟨0,0,([]:List Row)⟩:be),([]:List a_),([]:List bH),(⟨0,([]:List Part)⟩:cp),([]:List bz),([]:List Request),0⟩:dg),([]:List bG),([]:List arY)⟩⟩
def arc(x:pe):V:=.agg [.int .i64 x.gj.Pos,.int .i64 x.gj.be.dI,.int .i64 x.gj.be.c_,ag 2 dD x.gj.be.Rows,ag 3 es x.gj.fk,ag 3 ed x.gj.fr,.int .i64 x.gj.Place.Version,ag 5 dn x.gj.Place.aV,ag 2 eA x.gj.bz,ag 8 eK x.gj.Queue,.int .u64 x.gj.fl,ag 4 eF x.O9,ag 1 bo x.sources]
structure Token where
 Kind:Int
 Text:arY
 N:Int
 lp:Int
instance:Inhabited Token:=⟨⟨0,([]:arY),0,0⟩⟩
def b6(x:Token):V:=.agg [.int .i64 x.Kind,.str x.Text,.int .i64 x.N,.int .i64 x.lp]
structure X3 where
 ahf:Int
 seq:Int
instance:Inhabited X3:=⟨⟨0,0⟩⟩
def ard(x:X3):V:=.agg [.int .i64 x.ahf,.int .i64 x.seq]
structure cy where
 qb:Bool
 Stmt:Stmt
 CK:Int
 Expr:Expr
 ahg:Bool
instance:Inhabited cy:=⟨⟨false,(⟨0,([]:arY),0,(⟨0,0,([]:arY),([]:List Expr)⟩:Expr),(⟨0,0,([]:arY),([]:List Expr)⟩:Expr),([]:List Stmt),([]:List Stmt)⟩:Stmt),0,(⟨0,0,([]:arY),([]:List Expr)⟩:Expr),false⟩⟩
def jv(x:cy):V:=.agg [.bool x.qb,.int .i64 x.Stmt.Op,.str x.Stmt.Name,.int .i64 x.Stmt.Max,.int .i64 x.Stmt.A.Op,.int .i64 x.Stmt.A.N,.str x.Stmt.A.S,ag 4 bB x.Stmt.A.au,.int .i64 x.Stmt.B.Op,.int .i64 x.Stmt.B.N,.str x.Stmt.B.S,ag 4 bB x.Stmt.B.au,ag 13 bE x.Stmt.Body,ag 13 bE x.Stmt.bK,.int .i64 x.CK,.int .i64 x.Expr.Op,.int .i64 x.Expr.N,.str x.Expr.S,ag 4 bB x.Expr.au,.bool x.ahg]
structure a1 where
 tokens:List Token
 at_:Int
instance:Inhabited a1:=⟨⟨([]:List Token),0⟩⟩
def are(x:a1):V:=.agg [ag 4 b6 x.tokens,.int .i64 x.at_]
structure X4 where
 line:Int
 code:Int
instance:Inhabited X4:=⟨⟨0,0⟩⟩
def arf(x:X4):V:=.agg [.int .i64 x.line,.int .i64 x.code]
structure lq where
 s:arY
 at_:Int
 e:Int
instance:Inhabited lq:=⟨⟨([]:arY),0,0⟩⟩
def arh(x:lq):V:=.agg [.str x.s,.int .i64 x.at_,.int .i64 x.e]
structure pf where
 s:arY
 at_:Int
 e:Int
instance:Inhabited pf:=⟨⟨([]:arY),0,0⟩⟩
def ari(x:pf):V:=.agg [.str x.s,.int .i64 x.at_,.int .i64 x.e]
structure lr where
 name:Bool
 a:Bool
 b:Bool
 max:Bool
 body:Bool
 other:Bool
instance:Inhabited lr:=⟨⟨false,false,false,false,false,false⟩⟩
def arj(x:lr):V:=.agg [.bool x.name,.bool x.a,.bool x.b,.bool x.max,.bool x.body,.bool x.other]
structure h4 where
 s:arY
 at_:Int
 e:Int
instance:Inhabited h4:=⟨⟨([]:arY),0,0⟩⟩
def ark(x:h4):V:=.agg [.str x.s,.int .i64 x.at_,.int .i64 x.e]
def tt:dT:=[
 (1,⟨.bf,1,8,[.aX],[]⟩),
 (2,⟨.int .i64,1,8,[.int .i64 0],[]⟩),
 (3,⟨.int .i64,1,8,[.int .i64 0],[]⟩),
 (4,⟨.bool,1,1,[.bool false],[]⟩),
 (5,⟨.int .u8,1,1,[.int .u8 0],[]⟩),
 (6,⟨.int .u8,1,1,[.int .u8 0],[]⟩),
 (7,⟨.ch [(0,2,1),(1,3,1),(2,4,1),(3,6,1)],4,24,[.int .i64 0,.int .i64 0,.bool false,.int .u8 0],[]⟩),
 (8,⟨.ch [(0,2,1),(1,3,1),(2,4,1),(3,6,1)],4,24,[.int .i64 0,.int .i64 0,.bool false,.int .u8 0],[]⟩),
 (9,⟨.str,1,16,[.str ([]:arY)],[]⟩),
 (10,⟨.str,1,16,[.str ([]:arY)],[]⟩),
 (11,⟨.str,1,16,[.str ([]:arY)],[]⟩),
 (12,⟨.int .u64,1,8,[.int .u64 0],[]⟩),
 (13,⟨.ch [(0,9,1),(1,12,1)],2,24,[.str ([]:arY),.int .u64 0],[]⟩),
 (14,⟨.ch [(0,9,1),(1,12,1)],2,24,[.str ([]:arY),.int .u64 0],[]⟩),
 (15,⟨.ptr,1,8,[.eC],[]⟩),
 (16,⟨.ptr,1,8,[.eC],[]⟩),
 (17,⟨.ptr,1,8,[.eC],[]⟩),
 (18,⟨.ch [(0,17,1)],1,8,[.eC],[]⟩),
 (19,⟨.ch [(0,17,1)],1,8,[.eC],[]⟩),
 (20,⟨.oX,1,16,[.iF],[]⟩),
 (21,⟨.int .i32,1,4,[.int .i32 0],[]⟩),
 (22,⟨.bS 68,1,24,[ag 2 dD ([]:List Row)],[]⟩),
 (23,⟨.ch [(0,2,1),(1,2,1),(2,22,1)],3,40,[.int .i64 0,.int .i64 0,ag 2 dD ([]:List Row)],[]⟩),
 (24,⟨.ch [(0,2,1),(1,2,1),(2,22,1)],3,40,[.int .i64 0,.int .i64 0,ag 2 dD ([]:List Row)],[]⟩),
 (25,⟨.bS 52,1,24,[ag 3 es ([]:List a_)],[]⟩),
 (26,⟨.bS 101,1,24,[ag 3 ed ([]:List bH)],[]⟩),
 (27,⟨.bS 61,1,24,[ag 5 dn ([]:List Part)],[]⟩),
 (28,⟨.ch [(0,2,1),(1,27,1)],2,32,[.int .i64 0,ag 5 dn ([]:List Part)],[]⟩),
 (29,⟨.ch [(0,2,1),(1,27,1)],2,32,[.int .i64 0,ag 5 dn ([]:List Part)],[]⟩),
 (30,⟨.bS 107,1,24,[ag 2 eA ([]:List bz)],[]⟩),
 (31,⟨.bS 59,1,24,[ag 8 eK ([]:List Request)],[]⟩),
 (32,⟨.int .u64,1,8,[.int .u64 0],[]⟩),
 (33,⟨.ch [(0,2,1),(1,24,3),(4,25,1),(5,26,1),(6,29,2),(8,30,1),(9,31,1),(10,32,1)],11,184,[.int .i64 0,.int .i64 0,.int .i64 0,ag 2 dD ([]:List Row),ag 3 es ([]:List a_),ag 3 ed ([]:List bH),.int .i64 0,ag 5 dn ([]:List Part),ag 2 eA ([]:List bz),ag 8 eK ([]:List Request),.int .u64 0],[]⟩),
 (34,⟨.ch [(0,2,1),(1,24,3),(4,25,1),(5,26,1),(6,29,2),(8,30,1),(9,31,1),(10,32,1)],11,184,[.int .i64 0,.int .i64 0,.int .i64 0,ag 2 dD ([]:List Row),ag 3 es ([]:List a_),ag 3 ed ([]:List bH),.int .i64 0,ag 5 dn ([]:List Part),ag 2 eA ([]:List bz),ag 8 eK ([]:List Request),.int .u64 0],[]⟩),
 (35,⟨.bf,1,8,[.aX],[]⟩),
 (36,⟨.bf,1,8,[.aX],[]⟩),
 (37,⟨.int .i64,1,8,[.int .i64 0],[]⟩),
 (39,⟨.bf,1,8,[.aX],[]⟩),
 (41,⟨.bf,1,8,[.aX],[]⟩),
 (42,⟨.bf,1,8,[.aX],[]⟩),
 (43,⟨.bf,1,8,[.aX],[]⟩),
 (44,⟨.bf,1,8,[.aX],[]⟩),
 (45,⟨.bf,1,8,[.aX],[]⟩),
 (46,⟨.bf,1,8,[.aX],[]⟩),
 (47,⟨.bf,1,8,[.aX],[]⟩),
 (48,⟨.bf,1,8,[.aX],[]⟩),
 (49,⟨.bS 109,1,24,[ag 2 dY ([]:List Param)],[]⟩),
 (50,⟨.bS 167,1,24,[ag 13 bE ([]:List Stmt)],[]⟩),
 (51,⟨.ch [(0,9,1),(1,49,1),(2,50,1)],3,64,[.str ([]:arY),ag 2 dY ([]:List Param),ag 13 bE ([]:List Stmt)],[]⟩),
 (52,⟨.ch [(0,9,1),(1,49,1),(2,50,1)],3,64,[.str ([]:arY),ag 2 dY ([]:List Param),ag 13 bE ([]:List Stmt)],[]⟩),
 (53,⟨.bf,1,8,[.aX],[]⟩),
 (54,⟨.bS 63,1,24,[ag 3 dv ([]:List bk)],[]⟩),
 (55,⟨.bS 9,1,24,[ag 1 bo ([]:List arY)],[]⟩),
 (56,⟨.ch [(0,4,1),(1,55,1),(2,55,1)],3,56,[.bool false,ag 1 bo ([]:List arY),ag 1 bo ([]:List arY)],[]⟩),
 (57,⟨.ch [(0,4,1),(1,55,1),(2,55,1)],3,56,[.bool false,ag 1 bo ([]:List arY),ag 1 bo ([]:List arY)],[]⟩),
 (58,⟨.ch [(0,3,1),(1,2,1),(2,9,1),(3,54,1),(4,4,1),(5,57,3)],8,120,[.int .i64 0,.int .i64 0,.str ([]:arY),ag 3 dv ([]:List bk),.bool false,.bool false,ag 1 bo ([]:List arY),ag 1 bo ([]:List arY)],[]⟩),
 (59,⟨.ch [(0,3,1),(1,2,1),(2,9,1),(3,54,1),(4,4,1),(5,57,3)],8,120,[.int .i64 0,.int .i64 0,.str ([]:arY),ag 3 dv ([]:List bk),.bool false,.bool false,ag 1 bo ([]:List arY),ag 1 bo ([]:List arY)],[]⟩),
 (60,⟨.ch [(0,3,1),(1,9,1),(2,3,1),(3,3,1),(4,9,1)],5,56,[.int .i64 0,.str ([]:arY),.int .i64 0,.int .i64 0,.str ([]:arY)],[]⟩),
 (61,⟨.ch [(0,3,1),(1,9,1),(2,3,1),(3,3,1),(4,9,1)],5,56,[.int .i64 0,.str ([]:arY),.int .i64 0,.int .i64 0,.str ([]:arY)],[]⟩),
 (62,⟨.ch [(0,3,1),(1,2,1),(2,9,1)],3,32,[.int .i64 0,.int .i64 0,.str ([]:arY)],[]⟩),
 (63,⟨.ch [(0,3,1),(1,2,1),(2,9,1)],3,32,[.int .i64 0,.int .i64 0,.str ([]:arY)],[]⟩),
 (64,⟨.ch [(0,2,1),(1,63,3)],4,40,[.int .i64 0,.int .i64 0,.int .i64 0,.str ([]:arY)],[]⟩),
 (65,⟨.ch [(0,2,1),(1,63,3)],4,40,[.int .i64 0,.int .i64 0,.int .i64 0,.str ([]:arY)],[]⟩),
 (66,⟨.bS 65,1,24,[ag 4 jt ([]:List Version)],[]⟩),
 (67,⟨.ch [(0,9,1),(1,66,1)],2,40,[.str ([]:arY),ag 4 jt ([]:List Version)],[]⟩),
 (68,⟨.ch [(0,9,1),(1,66,1)],2,40,[.str ([]:arY),ag 4 jt ([]:List Version)],[]⟩),
 (69,⟨.bf,1,8,[.aX],[]⟩),
 (71,⟨.bf,1,8,[.aX],[]⟩),
 (72,⟨.bS 149,1,24,[ag 4 eF ([]:List bG)],[]⟩),
 (74,⟨.bf,1,8,[.aX],[]⟩),
 (76,⟨.bf,1,8,[.aX],[]⟩),
 (78,⟨.bf,1,8,[.aX],[]⟩),
 (80,⟨.bf,1,8,[.aX],[]⟩),
 (82,⟨.bf,1,8,[.aX],[]⟩),
 (84,⟨.bf,1,8,[.aX],[]⟩),
 (86,⟨.bf,1,8,[.aX],[]⟩),
 (88,⟨.bf,1,8,[.aX],[]⟩),
 (90,⟨.bf,1,8,[.aX],[]⟩),
 (91,⟨.bf,1,8,[.aX],[]⟩),
 (92,⟨.bf,1,8,[.aX],[]⟩),
 (93,⟨.bf,1,8,[.aX],[]⟩),
 (94,⟨.bf,1,8,[.aX],[]⟩),
 (95,⟨.bf,1,8,[.aX],[]⟩),
 (96,⟨.bf,1,8,[.aX],[]⟩),
 (98,⟨.bf,1,8,[.aX],[]⟩),
 (99,⟨.bS 105,1,24,[ag 5 gO ([]:List dS)],[]⟩),
 (100,⟨.ch [(0,3,1),(1,2,1),(2,99,1)],3,40,[.int .i64 0,.int .i64 0,ag 5 gO ([]:List dS)],[]⟩),
 (101,⟨.ch [(0,3,1),(1,2,1),(2,99,1)],3,40,[.int .i64 0,.int .i64 0,ag 5 gO ([]:List dS)],[]⟩),
 (102,⟨.ch [(0,3,1),(1,3,1),(2,54,1)],3,40,[.int .i64 0,.int .i64 0,ag 3 dv ([]:List bk)],[]⟩),
 (103,⟨.ch [(0,3,1),(1,3,1),(2,54,1)],3,40,[.int .i64 0,.int .i64 0,ag 3 dv ([]:List bk)],[]⟩),
 (104,⟨.ch [(0,3,1),(1,2,1),(2,103,3)],5,56,[.int .i64 0,.int .i64 0,.int .i64 0,.int .i64 0,ag 3 dv ([]:List bk)],[]⟩),
 (105,⟨.ch [(0,3,1),(1,2,1),(2,103,3)],5,56,[.int .i64 0,.int .i64 0,.int .i64 0,.int .i64 0,ag 3 dv ([]:List bk)],[]⟩),
 (106,⟨.ch [(0,9,1),(1,2,1)],2,24,[.str ([]:arY),.int .i64 0],[]⟩),
 (107,⟨.ch [(0,9,1),(1,2,1)],2,24,[.str ([]:arY),.int .i64 0],[]⟩),
 (108,⟨.ch [(0,9,1),(1,3,1)],2,24,[.str ([]:arY),.int .i64 0],[]⟩),
 (109,⟨.ch [(0,9,1),(1,3,1)],2,24,[.str ([]:arY),.int .i64 0],[]⟩),
 (110,⟨.bf,1,8,[.aX],[]⟩),
 (111,⟨.bf,1,8,[.aX],[]⟩),
 (112,⟨.bf,1,8,[.aX],[]⟩),
 (113,⟨.bf,1,8,[.aX],[]⟩),
 (114,⟨.bf,1,8,[.aX],[]⟩),
 (115,⟨.bf,1,8,[.aX],[]⟩),
 (116,⟨.bf,1,8,[.aX],[]⟩),
 (117,⟨.ptr,1,8,[.eC],[]⟩),
 (118,⟨.bS 5,1,24,[ag 1 cU ([]:List Int)],[]⟩),
 (119,⟨.ch [(0,117,1),(1,118,1)],2,32,[.eC,ag 1 cU ([]:List Int)],[]⟩),
 (120,⟨.ch [(0,117,1),(1,118,1)],2,32,[.eC,ag 1 cU ([]:List Int)],[(0,120)]⟩),
 (121,⟨.oX,1,16,[.iF],[]⟩),
 (122,⟨.oX,1,16,[.iF],[]⟩),
 (124,⟨.bf,1,8,[.aX],[]⟩),
 (125,⟨.bf,1,8,[.aX],[]⟩),
 (126,⟨.bf,1,8,[.aX],[]⟩),
 (127,⟨.bf,1,8,[.aX],[]⟩),
 (128,⟨.bf,1,8,[.aX],[]⟩),
 (129,⟨.bf,1,8,[.aX],[]⟩),
 (130,⟨.bf,1,8,[.aX],[]⟩),
 (131,⟨.bf,1,8,[.aX],[]⟩),
 (132,⟨.bf,1,8,[.aX],[]⟩),
 (133,⟨.bf,1,8,[.aX],[]⟩),
 (134,⟨.bf,1,8,[.aX],[]⟩),
 (135,⟨.ptr,1,8,[.eC],[]⟩),
 (136,⟨.ch [(0,9,1),(1,3,1),(2,37,1)],3,32,[.str ([]:arY),.int .i64 0,.int .i64 0],[]⟩),
 (137,⟨.ch [(0,9,1),(1,3,1),(2,37,1)],3,32,[.str ([]:arY),.int .i64 0,.int .i64 0],[]⟩),
 (138,⟨.ch [(0,34,11),(11,72,1),(12,55,1)],13,232,[.int .i64 0,.int .i64 0,.int .i64 0,ag 2 dD ([]:List Row),ag 3 es ([]:List a_),ag 3 ed ([]:List bH),.int .i64 0,ag 5 dn ([]:List Part),ag 2 eA ([]:List bz),ag 8 eK ([]:List Request),.int .u64 0,ag 4 eF ([]:List bG),ag 1 bo ([]:List arY)],[]⟩),
 (139,⟨.ch [(0,34,11),(11,72,1),(12,55,1)],13,232,[.int .i64 0,.int .i64 0,.int .i64 0,ag 2 dD ([]:List Row),ag 3 es ([]:List a_),ag 3 ed ([]:List bH),.int .i64 0,ag 5 dn ([]:List Part),ag 2 eA ([]:List bz),ag 8 eK ([]:List Request),.int .u64 0,ag 4 eF ([]:List bG),ag 1 bo ([]:List arY)],[]⟩),
 (140,⟨.bf,1,8,[.aX],[]⟩),
 (141,⟨.bf,1,8,[.aX],[]⟩),
 (143,⟨.bf,1,8,[.aX],[]⟩),
 (145,⟨.bf,1,8,[.aX],[]⟩),
 (147,⟨.bf,1,8,[.aX],[]⟩),
 (148,⟨.ch [(0,9,1),(1,63,3)],4,48,[.str ([]:arY),.int .i64 0,.int .i64 0,.str ([]:arY)],[]⟩),
 (149,⟨.ch [(0,9,1),(1,63,3)],4,48,[.str ([]:arY),.int .i64 0,.int .i64 0,.str ([]:arY)],[]⟩),
 (150,⟨.bf,1,8,[.aX],[]⟩),
 (152,⟨.bf,1,8,[.aX],[]⟩),
 (154,⟨.bf,1,8,[.aX],[]⟩),
 (156,⟨.bf,1,8,[.aX],[]⟩),
 (158,⟨.bf,1,8,[.aX],[]⟩),
 (159,⟨.bf,1,8,[.aX],[]⟩),
 (160,⟨.bf,1,8,[.aX],[]⟩),
 (161,⟨.bf,1,8,[.aX],[]⟩),
 (162,⟨.bf,1,8,[.aX],[]⟩),
 (163,⟨.bS 165,1,24,[ag 4 bB ([]:List Expr)],[]⟩),
 (164,⟨.ch [(0,3,1),(1,2,1),(2,9,1),(3,163,1)],4,56,[.int .i64 0,.int .i64 0,.str ([]:arY),ag 4 bB ([]:List Expr)],[]⟩),
 (165,⟨.ch [(0,3,1),(1,2,1),(2,9,1),(3,163,1)],4,56,[.int .i64 0,.int .i64 0,.str ([]:arY),ag 4 bB ([]:List Expr)],[]⟩),
 (166,⟨.ch [(0,3,1),(1,9,1),(2,3,1),(3,165,4),(7,165,4),(11,50,1),(12,50,1)],13,192,[.int .i64 0,.str ([]:arY),.int .i64 0,.int .i64 0,.int .i64 0,.str ([]:arY),ag 4 bB ([]:List Expr),.int .i64 0,.int .i64 0,.str ([]:arY),ag 4 bB ([]:List Expr),ag 13 bE ([]:List Stmt),ag 13 bE ([]:List Stmt)],[]⟩),
 (167,⟨.ch [(0,3,1),(1,9,1),(2,3,1),(3,165,4),(7,165,4),(11,50,1),(12,50,1)],13,192,[.int .i64 0,.str ([]:arY),.int .i64 0,.int .i64 0,.int .i64 0,.str ([]:arY),ag 4 bB ([]:List Expr),.int .i64 0,.int .i64 0,.str ([]:arY),ag 4 bB ([]:List Expr),ag 13 bE ([]:List Stmt),ag 13 bE ([]:List Stmt)],[]⟩),
 (168,⟨.bf,1,8,[.aX],[]⟩),
 (169,⟨.bf,1,8,[.aX],[]⟩),
 (170,⟨.bf,1,8,[.aX],[]⟩),
 (171,⟨.bf,1,8,[.aX],[]⟩),
 (172,⟨.bf,1,8,[.aX],[]⟩),
 (173,⟨.bf,1,8,[.aX],[]⟩),
 (174,⟨.bf,1,8,[.aX],[]⟩),
 (175,⟨.bf,1,8,[.aX],[]⟩),
 (176,⟨.bf,1,8,[.aX],[]⟩),
 (177,⟨.bf,1,8,[.aX],[]⟩),
 (178,⟨.bf,1,8,[.aX],[]⟩),
 (179,⟨.int .u64,1,8,[.int .u64 0],[]⟩),
 (180,⟨.bf,1,8,[.aX],[]⟩),
 (181,⟨.bf,1,8,[.aX],[]⟩),
 (182,⟨.bf,1,8,[.aX],[]⟩),
 (183,⟨.bf,1,8,[.aX],[]⟩),
 (184,⟨.ptr,1,8,[.eC],[]⟩),
 (185,⟨.ch [(0,120,2),(2,3,1)],3,40,[.eC,ag 1 cU ([]:List Int),.int .i64 0],[(0,120)]⟩),
 (186,⟨.ch [(0,120,2),(2,3,1)],3,40,[.eC,ag 1 cU ([]:List Int),.int .i64 0],[(0,120)]⟩),
 (187,⟨.bf,1,8,[.aX],[]⟩),
 (188,⟨.bf,1,8,[.aX],[]⟩),
 (189,⟨.bf,1,8,[.aX],[]⟩),
 (190,⟨.bf,1,8,[.aX],[]⟩),
 (191,⟨.ptr,1,8,[.eC],[]⟩),
 (192,⟨.bf,1,8,[.aX],[]⟩),
 (193,⟨.bf,1,8,[.aX],[]⟩),
 (194,⟨.bf,1,8,[.aX],[]⟩),
 (195,⟨.bf,1,8,[.aX],[]⟩),
 (196,⟨.ch [(0,71,1)],1,8,[.aX],[]⟩),
 (197,⟨.ch [(0,71,1)],1,8,[.aX],[]⟩),
 (198,⟨.bf,1,8,[.aX],[]⟩),
 (199,⟨.ch [(0,74,1)],1,8,[.aX],[]⟩),
 (200,⟨.ch [(0,74,1)],1,8,[.aX],[]⟩),
 (201,⟨.bf,1,8,[.aX],[]⟩),
 (202,⟨.bf,1,8,[.aX],[]⟩),
 (203,⟨.ch [(0,202,1)],1,8,[.aX],[]⟩),
 (204,⟨.ch [(0,202,1)],1,8,[.aX],[]⟩),
 (205,⟨.bf,1,8,[.aX],[]⟩),
 (206,⟨.bf,1,8,[.aX],[]⟩),
 (207,⟨.bf,1,8,[.aX],[]⟩),
 (208,⟨.ch [(0,207,1)],1,8,[.aX],[]⟩),
 (209,⟨.ch [(0,207,1)],1,8,[.aX],[]⟩),
 (210,⟨.bf,1,8,[.aX],[]⟩),
 (211,⟨.bf,1,8,[.aX],[]⟩),
 (212,⟨.ch [(0,78,1)],1,8,[.aX],[]⟩),
 (213,⟨.ch [(0,78,1)],1,8,[.aX],[]⟩),
 (214,⟨.bf,1,8,[.aX],[]⟩),
 (215,⟨.ch [(0,80,1)],1,8,[.aX],[]⟩),
 (216,⟨.ch [(0,80,1)],1,8,[.aX],[]⟩),
 (217,⟨.bf,1,8,[.aX],[]⟩),
 (218,⟨.ch [(0,84,1)],1,8,[.aX],[]⟩),
 (219,⟨.ch [(0,84,1)],1,8,[.aX],[]⟩),
 (220,⟨.bf,1,8,[.aX],[]⟩),
 (221,⟨.ch [(0,86,1)],1,8,[.aX],[]⟩),
 (222,⟨.ch [(0,86,1)],1,8,[.aX],[]⟩),
 (223,⟨.bf,1,8,[.aX],[]⟩),
 (224,⟨.bf,1,8,[.aX],[]⟩),
 (225,⟨.bf,1,8,[.aX],[]⟩),
 (226,⟨.bf,1,8,[.aX],[]⟩),
 (228,⟨.bf,1,8,[.aX],[]⟩),
 (230,⟨.bf,1,8,[.aX],[]⟩),
 (232,⟨.bf,1,8,[.aX],[]⟩),
 (234,⟨.bf,1,8,[.aX],[]⟩),
 (235,⟨.bS 292,1,24,[ag 4 b6 ([]:List Token)],[]⟩),
 (237,⟨.bf,1,8,[.aX],[]⟩),
 (238,⟨.bf,1,8,[.aX],[]⟩),
 (239,⟨.bf,1,8,[.aX],[]⟩),
 (240,⟨.bf,1,8,[.aX],[]⟩),
 (241,⟨.bf,1,8,[.aX],[]⟩),
 (242,⟨.bf,1,8,[.aX],[]⟩),
 (243,⟨.bf,1,8,[.aX],[]⟩),
 (244,⟨.bf,1,8,[.aX],[]⟩),
 (245,⟨.bf,1,8,[.aX],[]⟩),
 (246,⟨.bf,1,8,[.aX],[]⟩),
 (247,⟨.bf,1,8,[.aX],[]⟩),
 (248,⟨.bf,1,8,[.aX],[]⟩),
 (249,⟨.bf,1,8,[.aX],[]⟩),
 (250,⟨.ch [(0,3,1),(1,2,1)],2,16,[.int .i64 0,.int .i64 0],[]⟩),
 (251,⟨.ch [(0,3,1),(1,2,1)],2,16,[.int .i64 0,.int .i64 0],[]⟩),
 (252,⟨.bf,1,8,[.aX],[]⟩),
 (253,⟨.bf,1,8,[.aX],[]⟩),
 (254,⟨.bf,1,8,[.aX],[]⟩),
 (255,⟨.bf,1,8,[.aX],[]⟩),
 (257,⟨.bf,1,8,[.aX],[]⟩),
 (258,⟨.bf,1,8,[.aX],[]⟩),
 (259,⟨.bf,1,8,[.aX],[]⟩),
 (260,⟨.bf,1,8,[.aX],[]⟩),
 (261,⟨.bf,1,8,[.aX],[]⟩),
 (262,⟨.bf,1,8,[.aX],[]⟩),
 (263,⟨.bf,1,8,[.aX],[]⟩),
 (264,⟨.bf,1,8,[.aX],[]⟩),
 (265,⟨.bf,1,8,[.aX],[]⟩),
 (266,⟨.bf,1,8,[.aX],[]⟩),
 (267,⟨.bf,1,8,[.aX],[]⟩),
 (268,⟨.bf,1,8,[.aX],[]⟩),
 (269,⟨.bS 272,1,24,[ag 20 jv ([]:List cy)],[]⟩),
 (270,⟨.bf,1,8,[.aX],[]⟩),
 (271,⟨.ch [(0,4,1),(1,167,13),(14,3,1),(15,165,4),(19,4,1)],20,272,[.bool false,.int .i64 0,.str ([]:arY),.int .i64 0,.int .i64 0,.int .i64 0,.str ([]:arY),ag 4 bB ([]:List Expr),.int .i64 0,.int .i64 0,.str ([]:arY),ag 4 bB ([]:List Expr),ag 13 bE ([]:List Stmt),ag 13 bE ([]:List Stmt),.int .i64 0,.int .i64 0,.int .i64 0,.str ([]:arY),ag 4 bB ([]:List Expr),.bool false],[]⟩),
 (272,⟨.ch [(0,4,1),(1,167,13),(14,3,1),(15,165,4),(19,4,1)],20,272,[.bool false,.int .i64 0,.str ([]:arY),.int .i64 0,.int .i64 0,.int .i64 0,.str ([]:arY),ag 4 bB ([]:List Expr),.int .i64 0,.int .i64 0,.str ([]:arY),ag 4 bB ([]:List Expr),ag 13 bE ([]:List Stmt),ag 13 bE ([]:List Stmt),.int .i64 0,.int .i64 0,.int .i64 0,.str ([]:arY),ag 4 bB ([]:List Expr),.bool false],[]⟩),
 (273,⟨.bf,1,8,[.aX],[]⟩),
 (274,⟨.ptr,1,8,[.eC],[]⟩),
 (275,⟨.ch [(0,9,1),(1,3,1),(2,37,1)],3,32,[.str ([]:arY),.int .i64 0,.int .i64 0],[]⟩),
 (276,⟨.ch [(0,9,1),(1,3,1),(2,37,1)],3,32,[.str ([]:arY),.int .i64 0,.int .i64 0],[]⟩),
 (277,⟨.bf,1,8,[.aX],[]⟩),
 (278,⟨.ptr,1,8,[.eC],[]⟩),
 (279,⟨.ch [(0,9,1),(1,3,1),(2,37,1)],3,32,[.str ([]:arY),.int .i64 0,.int .i64 0],[]⟩),
 (280,⟨.ch [(0,9,1),(1,3,1),(2,37,1)],3,32,[.str ([]:arY),.int .i64 0,.int .i64 0],[]⟩),
 (281,⟨.bf,1,8,[.aX],[]⟩),
 (282,⟨.bf,1,8,[.aX],[]⟩),
 (284,⟨.bf,1,8,[.aX],[]⟩),
 (285,⟨.ptr,1,8,[.eC],[]⟩),
 (286,⟨.bf,1,8,[.aX],[]⟩),
 (287,⟨.bf,1,8,[.aX],[]⟩),
 (288,⟨.bf,1,8,[.aX],[]⟩),
 (289,⟨.bf,1,8,[.aX],[]⟩),
 (290,⟨.bf,1,8,[.aX],[]⟩),
 (291,⟨.ch [(0,3,1),(1,9,1),(2,2,1),(3,3,1)],4,40,[.int .i64 0,.str ([]:arY),.int .i64 0,.int .i64 0],[]⟩),
 (292,⟨.ch [(0,3,1),(1,9,1),(2,2,1),(3,3,1)],4,40,[.int .i64 0,.str ([]:arY),.int .i64 0,.int .i64 0],[]⟩),
 (294,⟨.bf,1,8,[.aX],[]⟩),
 (295,⟨.bf,1,8,[.aX],[]⟩),
 (296,⟨.bf,1,8,[.aX],[]⟩),
 (298,⟨.bf,1,8,[.aX],[]⟩),
 (300,⟨.bf,1,8,[.aX],[]⟩),
 (301,⟨.bf,1,8,[.aX],[]⟩),
 (302,⟨.bf,1,8,[.aX],[]⟩),
 (303,⟨.bf,1,8,[.aX],[]⟩),
 (304,⟨.bf,1,8,[.aX],[]⟩),
 (305,⟨.ptr,1,8,[.eC],[]⟩),
 (306,⟨.ch [(0,3,1),(1,261,1),(2,262,1)],3,24,[.int .i64 0,.aX,.aX],[]⟩),
 (307,⟨.ch [(0,3,1),(1,261,1),(2,262,1)],3,24,[.int .i64 0,.aX,.aX],[]⟩),
 (308,⟨.bf,1,8,[.aX],[]⟩),
 (309,⟨.ch [(0,4,1),(1,4,1),(2,4,1),(3,4,1),(4,4,1),(5,4,1)],6,6,[.bool false,.bool false,.bool false,.bool false,.bool false,.bool false],[]⟩),
 (310,⟨.ch [(0,4,1),(1,4,1),(2,4,1),(3,4,1),(4,4,1),(5,4,1)],6,6,[.bool false,.bool false,.bool false,.bool false,.bool false,.bool false],[]⟩),
 (312,⟨.bf,1,8,[.aX],[]⟩),
 (313,⟨.bf,1,8,[.aX],[]⟩),
 (314,⟨.bf,1,8,[.aX],[]⟩),
 (315,⟨.bf,1,8,[.aX],[]⟩),
 (316,⟨.bf,1,8,[.aX],[]⟩),
 (317,⟨.bf,1,8,[.aX],[]⟩),
 (319,⟨.bf,1,8,[.aX],[]⟩),
 (320,⟨.bf,1,8,[.aX],[]⟩),
 (321,⟨.bf,1,8,[.aX],[]⟩),
 (322,⟨.bf,1,8,[.aX],[]⟩),
 (323,⟨.bf,1,8,[.aX],[]⟩),
 (324,⟨.ptr,1,8,[.eC],[]⟩),
 (325,⟨.ch [(0,9,1),(1,3,1),(2,37,1)],3,32,[.str ([]:arY),.int .i64 0,.int .i64 0],[]⟩),
 (326,⟨.ch [(0,9,1),(1,3,1),(2,37,1)],3,32,[.str ([]:arY),.int .i64 0,.int .i64 0],[]⟩),
 (327,⟨.bf,1,8,[.aX],[]⟩),
 (328,⟨.bf,1,8,[.aX],[]⟩),
 (329,⟨.bf,1,8,[.aX],[]⟩),
 (330,⟨.bf,1,8,[.aX],[]⟩),
 (331,⟨.ch [(0,3,1),(1,37,1)],2,16,[.int .i64 0,.int .i64 0],[]⟩),
 (332,⟨.ch [(0,3,1),(1,37,1)],2,16,[.int .i64 0,.int .i64 0],[]⟩),
 (334,⟨.ch [(0,235,1),(1,3,1)],2,32,[ag 4 b6 ([]:List Token),.int .i64 0],[]⟩),
 (335,⟨.ch [(0,235,1),(1,3,1)],2,32,[ag 4 b6 ([]:List Token),.int .i64 0],[]⟩),
 (336,⟨.bf,1,8,[.aX],[]⟩),
 (337,⟨.bf,1,8,[.aX],[]⟩),
 (338,⟨.bf,1,8,[.aX],[]⟩),
 (339,⟨.bf,1,8,[.aX],[]⟩),
 (340,⟨.bf,1,8,[.aX],[]⟩),
 (341,⟨.bf,1,8,[.aX],[]⟩),
 (343,⟨.bf,1,8,[.aX],[]⟩),
 (344,⟨.bf,1,8,[.aX],[]⟩),
 (345,⟨.bf,1,8,[.aX],[]⟩),
 (347,⟨.bf,1,8,[.aX],[]⟩),
 (348,⟨.bf,1,8,[.aX],[]⟩),
 (349,⟨.bf,1,8,[.aX],[]⟩),
 (350,⟨.bf,1,8,[.aX],[]⟩),
 (351,⟨.bf,1,8,[.aX],[]⟩),
 (352,⟨.bf,1,8,[.aX],[]⟩),
 (353,⟨.bf,1,8,[.aX],[]⟩),
 (354,⟨.bf,1,8,[.aX],[]⟩),
 (355,⟨.bf,1,8,[.aX],[]⟩),
 (356,⟨.bf,1,8,[.aX],[]⟩),
 (357,⟨.bf,1,8,[.aX],[]⟩),
 (359,⟨.bf,1,8,[.aX],[]⟩),
 (360,⟨.bf,1,8,[.aX],[]⟩),
 (362,⟨.bf,1,8,[.aX],[]⟩),
 (363,⟨.bf,1,8,[.aX],[]⟩),
 (364,⟨.bf,1,8,[.aX],[]⟩),
 (365,⟨.bf,1,8,[.aX],[]⟩),
 (366,⟨.bf,1,8,[.aX],[]⟩),
 (367,⟨.bS 3,1,24,[ag 1 oq ([]:List Int)],[]⟩),
 (368,⟨.bf,1,8,[.aX],[]⟩),
 (369,⟨.bf,1,8,[.aX],[]⟩),
 (370,⟨.bf,1,8,[.aX],[]⟩),
 (371,⟨.bf,1,8,[.aX],[]⟩),
 (372,⟨.bf,1,8,[.aX],[]⟩),
 (374,⟨.bf,1,8,[.aX],[]⟩),
 (376,⟨.bf,1,8,[.aX],[]⟩),
 (377,⟨.bf,1,8,[.aX],[]⟩),
 (379,⟨.bf,1,8,[.aX],[]⟩),
 (381,⟨.bf,1,8,[.aX],[]⟩),
 (382,⟨.bf,1,8,[.aX],[]⟩),
 (383,⟨.bf,1,8,[.aX],[]⟩),
 (385,⟨.int .u32,1,4,[.int .u32 0],[]⟩),
 (387,⟨.bf,1,8,[.aX],[]⟩),
 (388,⟨.bf,1,8,[.aX],[]⟩),
 (389,⟨.bf,1,8,[.aX],[]⟩),
 (390,⟨.int .i64,1,8,[.int .i64 0],[]⟩),
 (392,⟨.bf,1,8,[.aX],[]⟩),
 (393,⟨.ptr,1,8,[.eC],[]⟩),
 (394,⟨.bf,1,8,[.aX],[]⟩),
 (395,⟨.bf,1,8,[.aX],[]⟩),
 (398,⟨.bf,1,8,[.aX],[]⟩),
 (399,⟨.ch [(0,9,1),(1,9,1),(2,122,1)],3,48,[.str ([]:arY),.str ([]:arY),.iF],[]⟩),
 (400,⟨.ch [(0,9,1),(1,9,1),(2,122,1)],3,48,[.str ([]:arY),.str ([]:arY),.iF],[]⟩),
 (401,⟨.bf,1,8,[.aX],[]⟩),
 (402,⟨.ptr,1,8,[.eC],[]⟩),
 (403,⟨.ch [(0,9,1)],1,16,[.str ([]:arY)],[]⟩),
 (404,⟨.ch [(0,9,1)],1,16,[.str ([]:arY)],[]⟩),
 (405,⟨.ch [(0,17,1),(1,17,1),(2,17,1),(3,9,1)],4,40,[.eC,.eC,.eC,.str ([]:arY)],[]⟩),
 (406,⟨.ch [(0,17,1),(1,17,1),(2,17,1),(3,9,1)],4,40,[.eC,.eC,.eC,.str ([]:arY)],[]⟩),
 (410,⟨.int .u8,1,1,[.int .u8 0],[]⟩),
 (411,⟨.int .u8,1,1,[.int .u8 0],[]⟩),
 (412,⟨.bf,1,8,[.aX],[]⟩),
 (413,⟨.int .i32,1,4,[.int .i32 0],[]⟩),
 (414,⟨.int .i32,1,4,[.int .i32 0],[]⟩),
 (415,⟨.ch [(0,12,1),(1,12,1),(2,385,1),(3,410,1),(4,5,1),(5,5,1),(6,411,1),(7,412,1),(8,191,1),(9,413,1),(10,414,1)],11,48,[.int .u64 0,.int .u64 0,.int .u32 0,.int .u8 0,.int .u8 0,.int .u8 0,.int .u8 0,.aX,.eC,.int .i32 0,.int .i32 0],[]⟩),
 (416,⟨.ch [(0,12,1),(1,12,1),(2,385,1),(3,410,1),(4,5,1),(5,5,1),(6,411,1),(7,412,1),(8,191,1),(9,413,1),(10,414,1)],11,48,[.int .u64 0,.int .u64 0,.int .u32 0,.int .u8 0,.int .u8 0,.int .u8 0,.int .u8 0,.aX,.eC,.int .i32 0,.int .i32 0],[]⟩)]
def iK:fH Tryz.prog tt=true:=by kernel_rfl
def CL:Tryz.prog.follows .mixedOrders=true:=by kernel_rfl
end Go.Ab.Y
namespace Go.Ab.Y.T
open Go Go.Ab Go.Proofs
structure aI(f:FuncId)(args:List D)(et:List (Nat×TypeId))(H:List (List a')){ρ:Type}(F:Option ρ)(out:ρ→Out)(cS:ρ→List (List a')):Prop where
 of:∀{r:ρ},F=some r→hq Tryz.prog f args et H (out r) (cS r)
def wy(E:Nat)(rs:List ResultVar){ρ:Type}(out:ρ→Out)(cS:ρ→List (List a'))(r:ρ):cu→aO→Prop:=tU tt E rs λo b0=>o=out r∧b0=cS r
def gA(s st:aO):Option aO:=(vw (s.env.map (·.1)) (s.H.map (·.1)) s.aZ st.env st.H st.aZ).map (fit s)
noncomputable abbrev iL(N:Nat)(ops:Array Oper)(rs:List fB)(st:aO):=wm (jZ Tryz.prog) tt N ops.toList rs st
noncomputable abbrev HR(N:Nat)(ops:Array Oper)(rs:List (Nat×List fB))(st:aO):=HC (jZ Tryz.prog) tt N ops.toList (spread ops.toList.length 0 rs) st
noncomputable abbrev X5(N:Nat)(ops:Array Oper)(gz:Nat)(rs:List (Nat×List fB))(st:aO):=CB (jZ Tryz.prog) tt N ops.toList gz (st.aZ+ops.toList.length) (spread ops.toList.length 0 rs) st
abbrev ad(x:Int):a':=⟨.v (.int .i64 x),none⟩
abbrev dx(x:Bool):a':=⟨.v (.bool x),none⟩
abbrev aP(x:arY):a':=⟨.v (.str x),none⟩
abbrev aE{α:Type}[Inhabited α](k:Nat)(e:α→V)(l:List α):a':=⟨.v (ag k e l),none⟩
abbrev bl(r o:Nat):a':=⟨.ptr r o,none⟩
abbrev gH(x:V):a':=⟨.v x,none⟩
abbrev aF(x:Int):D:=.v (.int .i64 x)
abbrev ci(x:Bool):D:=.v (.bool x)
abbrev b8(x:arY):D:=.v (.str x)
abbrev cC{α:Type}[Inhabited α](k:Nat)(e:α→V)(l:List α):D:=.v (ag k e l)
abbrev aH(d:D):Out:=.ret d none
def ahh(n:Nat):hv (n:Int) n=true:=aeW ⟨Int.natCast_nonneg n,Int.le_refl _⟩
abbrev al:=all_nil
def aa{p:Prop}{l:List Prop}(h:p)(ae:ll l):ll (p::l):=⟨h,ae⟩
section
variable {N E:Nat} {st:aO} {Q:cu→aO→Prop} {next:aO→Prop} {x y:Code} {id i j:Nat} {ops:Array Oper}
def yU{x:V}(h:Q (.aK x) st):cu.then next Q (.aK x) st:=h
def bT(h:Q .normal st):cu.inBlock i Q (.exit i) st:=cu.af7 h
def yV(h:Q (.exit j) st)(dQ:Nat.beq j i=false:=by kernel_rfl):cu.inBlock i Q (.exit j) st:=cu.af8 dQ h
def ahi{x:V}(h:Q (.aK x) st):cu.inBlock i Q (.aK x) st:=h
def ak(h:bd Tryz.prog N E x (cu.then (bd Tryz.prog N E y Q) Q) st):bd Tryz.prog N E (.seq x y) Q st:=bd.seq h
def ah(h:Q .normal st):bd Tryz.prog N E .skip Q st:=bd.skip h
def X6{r:Nat}(h:Q .ret (CG r st)):O2 r Q .ret st:=h
def X7(r:Nat)(h:bd Tryz.prog N E x (O2 r Q) st):bd Tryz.prog N E x Q st:=bd.o0 r h
def yW(qa:List Nat)(h:bd Tryz.prog N E x Q {env:=forget qa st.env,H:=st.H,aZ:=st.aZ}):bd Tryz.prog N E x Q st:=bd.forget qa h
def ahj{l:Nat}(h:Q .normal st):bd Tryz.prog N E (.label l) Q st:=bd.label h
def bU(h:Q (.exit i) st):bd Tryz.prog N E (.exit i) Q st:=bd.exit h
def O'(h:Q .ret st):bd Tryz.prog N E .ret Q st:=bd.ret h
def ahk(h:bd Tryz.prog N E x Q st):bd Tryz.prog N E (.scope x) Q st:=bd.scope h
def aG(h:bd Tryz.prog N E x (cu.inBlock i Q) st):bd Tryz.prog N E (.block i x) Q st:=bd.block h
def fZ(rs:List fB){bI:List Prop}(cv:ll bI)(eQ:Q .normal (kc (iL N ops rs st)))(ai:mB (iL N ops rs st)=some bI:=by kernel_rfl):bd Tryz.prog N E (.region id ops false) Q st:=bd.rg iK rs ai cv eQ
def bv(eQ:Q .normal (kc (iL N ops [] st)))(ai:mB (iL N ops [] st)=some []:=by kernel_rfl):bd Tryz.prog N E (.region id ops false) Q st:=fZ [] al eQ ai
def G(eQ:bd Tryz.prog N E y Q (kc (iL N ops [] st)))(ai:mB (iL N ops [] st)=some []:=by kernel_rfl):bd Tryz.prog N E (.seq (.region id ops false) y) Q st:=ak (bv (Q:=cu.then (bd Tryz.prog N E y Q) Q) eQ ai)
def aB(rs:List fB){bI:List Prop}(cv:ll bI)(eQ:bd Tryz.prog N E y Q (kc (iL N ops rs st)))(ai:mB (iL N ops rs st)=some bI:=by kernel_rfl):bd Tryz.prog N E (.seq (.region id ops false) y) Q st:=ak (fZ (Q:=cu.then (bd Tryz.prog N E y Q) Q) rs cv eQ ai)
section
variable {f:FuncId} {args:List D} {et:List (Nat×TypeId)} {H cS:List (List a')} {out:Out}
def kU(p:hq Tryz.prog f args et H out cS)(eQ:Q .normal (kc (iL N ops [bg p []] st)))(ai:mB (iL N ops [bg p []] st)=some [hq Tryz.prog f args et H out cS]:=by kernel_rfl):bd Tryz.prog N E (.region id ops false) Q st:=fZ [bg p []] (aa p al) eQ ai
def kV(p:hq Tryz.prog f args et H out cS)(eQ:Q .normal (kc (iL N ops [bN p []] st)))(ai:mB (iL N ops [bN p []] st)=some [hq Tryz.prog f args et H out cS]:=by kernel_rfl):bd Tryz.prog N E (.region id ops false) Q st:=fZ [bN p []] (aa p al) eQ ai
def bb(p:hq Tryz.prog f args et H out cS)(eQ:bd Tryz.prog N E y Q (kc (iL N ops [bg p []] st)))(ai:mB (iL N ops [bg p []] st)=some [hq Tryz.prog f args et H out cS]:=by kernel_rfl):bd Tryz.prog N E (.seq (.region id ops false) y) Q st:=aB [bg p []] (aa p al) eQ ai
def dy(p:hq Tryz.prog f args et H out cS)(eQ:bd Tryz.prog N E y Q (kc (iL N ops [bN p []] st)))(ai:mB (iL N ops [bN p []] st)=some [hq Tryz.prog f args et H out cS]:=by kernel_rfl):bd Tryz.prog N E (.seq (.region id ops false) y) Q st:=aB [bN p []] (aa p al) eQ ai
end
def kW(rs:List (Nat×List fB)){bI:List Prop}(cv:ll bI)(eQ:Q .normal (kc (HR N ops rs st)))(ai:mB (HR N ops rs st)=some bI:=by kernel_rfl):bd Tryz.prog N E (.region id ops true) Q st:=bd.HE iK CL rs ai cv eQ
def cz(rs:List (Nat×List fB)){bI:List Prop}(cv:ll bI)(eQ:bd Tryz.prog N E y Q (kc (HR N ops rs st)))(ai:mB (HR N ops rs st)=some bI:=by kernel_rfl):bd Tryz.prog N E (.seq (.region id ops true) y) Q st:=ak (kW (Q:=cu.then (bd Tryz.prog N E y Q) Q) rs cv eQ ai)
def eh(x:V)(rs:List fB){bI:List Prop}(cv:ll bI)(eQ:Q (.aK x) (kc (iL N ops rs st)))(ai:OK (iL N ops rs st)=some (x,bI):=by kernel_rfl):bd Tryz.prog N E (.region id ops false) Q st:=bd.OL iK rs ai cv eQ
def sn(gz:Nat)(x:V)(rs:List (Nat×List fB)){bI:List Prop}(cv:ll bI)(eQ:∀n,Q (.aK x) {env:=[],H:=OW (X5 N ops gz rs st),aZ:=n})(ai:OV (X5 N ops gz rs st)=some (x,bI):=by kernel_rfl):bd Tryz.prog N E (.region id ops true) Q st:=bd.agM iK CL gz rs ai cv eQ
def C{α:Type}{b:Bool}{p q:Option α}{r:α}{c:Nat}(h:(bif b then p else q)=some r)(aA:p=some r→bd Tryz.prog N E x Q st)(b5:q=some r→bd Tryz.prog N E y Q st)(hc:(look st.env c).map (·.d)=some (.v (.bool b)):=by kernel_rfl):bd Tryz.prog N E (.cond (.tmp c) x y) Q st:=bd.ON h hc aA b5
section
variable {ρ:Type} {a r:ρ} {out:ρ→Out} {cS:ρ→List (List a')} {rs:List ResultVar}
def Hz(h:some a=some r)(ae:leave tt E rs st=some (out a,cS a):=by kernel_rfl):wy E rs out cS r .ret st:=by
 obtain rfl:=Option.some.inj h;exact af' ae
def bj{Q:cu→aO→Prop}(h:some a=some r)(ao:wy E rs out cS r .ret st=Q .ret st:=by rfl)(ae:leave tt E rs st=some (out a,cS a):=by kernel_rfl):bd Tryz.prog N E .ret Q st:=O' (ao ▸ Hz h ae)
def bi{Q:cu→aO→Prop}{id:Nat}{ops:Array Oper}(h:some a=some r)(ao:wy E rs out cS r .ret (kc (iL N ops [] st))=Q .ret (kc (iL N ops [] st)):=by rfl)(ae:leave tt E rs (kc (iL N ops [] st))=some (out a,cS a):=by kernel_rfl)(ai:mB (iL N ops [] st)=some []:=by kernel_rfl):bd Tryz.prog N E (.seq (.region id ops false) .ret) Q st:=G (bj h ao ae) ai
def az{Q:cu→aO→Prop}{id:Nat}{ops:Array Oper}{b:Bool}{q:Option ρ}{c:Nat}{y:Code}(h:(bif b then some a else q)=some r)(b5:q=some r→bd Tryz.prog N E y Q st)(ao:wy E rs out cS r .ret (kc (iL N ops [] st))=Q .ret (kc (iL N ops [] st)):=by rfl)(ae:leave tt E rs (kc (iL N ops [] st))=some (out a,cS a):=by kernel_rfl)(ai:mB (iL N ops [] st)=some []:=by kernel_rfl)(hc:(look st.env c).map (·.d)=some (.v (.bool b)):=by kernel_rfl):bd Tryz.prog N E (.cond (.tmp c) (.seq (.region id ops false) .ret) y) Q st:=C h (λh=>bi h ao ae ai) b5 hc
def kX(h:some a=some r)(ae:leave tt E rs st=some (out a,cS a):=by kernel_rfl):wy E rs out cS r .normal st:=by
 obtain rfl:=Option.some.inj h;exact Ox ae
def dN{x:V}(h:some a=some r)(ae:(Hg E st.H).map oh=some (cS a):=by kernel_rfl)(hx:out a = .aK x:=by kernel_rfl):wy E rs out cS r (.aK x) st:=by
 obtain rfl:=Option.some.inj h;show tU tt E rs _ _ _
 rw [hx];exact af_ ae
end
def aJ{f:FuncId}{fn:Func}{c:Code}{args:List D}{et:List (Nat×TypeId)}{H:List (List a')}{ρ:Type}{F:Option ρ}{out:ρ→Out}{cS:ρ→List (List a')}(b5:Tryz.prog.funcs[f]? = some fn)(hb:fn.body=some c)
 (h : ∀ {r : ρ}, F = some r → bd Tryz.prog fn.ntmps H.length c (wy H.length fn.results.toList out cS r) { env := h2 args et, H := cZ 0 H, aZ := H.length }) (j_ : decide (fn.name = "runtime.NumGoroutine") = false := by rfl) (ha : Nat.ble args.length fn.ntmps = true := by rfl) : aI f args et H F out cS :=
 ⟨λh0=>af9 iK b5 hb j_ ha (h h0)⟩
end
section
variable {α β dq f0:Type} {p:Prop}
def da{q:Prop}(a:p)(k:p→q):q:=k a
def ue{X8:Type}{X:Option X8}(c:α ⊕ β→X8){x:α ⊕ β}{f:α→Option dq}{g:β→Option dq}{r:dq}(q:X=some (c x))(h:iw.on x f g=some r)(dM:∀a,X=some (c (.inl a))→f a=some r→p)(am:∀b,X=some (c (.inr b))→g b=some r→p):p:=
 match x,q,h with
 |.inl a,q,h=>dM a q h
 |.inr b,q,h=>am b q h
def hI{r:α}(h:none=some r):p:=by cases h
def ay{b:Bool}{x:Option α}{r:α}(h:av b x=some r)(k:b=true→x=some r→p):p:=k (sj h).1 (sj h).2
def aj{x:Option α}{f:α→Option β}{r:β}(h:Option.bind x f=some r)(k:∀a,x=some a→f a=some r→p):p:=let ⟨a,Z,ab⟩:=bind_some h;k a Z ab
def d_{x:Option (aC α β)}{f:α→β→Option dq}{g:V→β→Option dq}{r:dq}(h:Option.bind x (λz=>aC.on z f g)=some r)(dM:∀a b,x=some (.ret a b)→f a b=some r→p)(am:∀y b,x=some (.aK y b)→g y b=some r→p):p:=
 let ⟨z,Z,ab⟩:=bind_some h
 match z,Z,ab with
 |.ret a b,Z,ab=>dM a b Z ab
 |.aK y b,Z,ab=>am y b Z ab
end
section
variable {ρ:Type} {r:ρ} {N E:Nat} {st:aO} {Q:cu→aO→Prop} {x y:Code}
def cw{cf:aO}{f:Option ρ}(h:f=some r)(ai:gA (cf) st=some (cf):=by kernel_rfl):gA (cf) st=some (cf)∧f=some r:=⟨ai,h⟩
def cG(cf:aO)(f:Option ρ)(Z:bd Tryz.prog N E x (cu.then (λb_=>gA (cf) b_=some (cf)∧f=some r) Q) st)(ab:f=some r→bd Tryz.prog N E y Q (cf))(b3:Nat.ble E (cf).aZ=true:=by intros;kernel_rfl):bd Tryz.prog N E (.seq x y) Q st:=
 bd.cut _ Z λb_ ⟨ai,h⟩=>bd.pd _ _ _ _ ai (b3) (ab h)
end
section
variable {α:Type} {ρ:Type} {r:ρ} {N E:Nat} {st:aO} {Q:cu→aO→Prop} {x y:Code}
def a8{cf:α→aO}{f:α→Option ρ}{a0:_}(h:f a0=some r)(ai:gA (cf a0) st=some (cf a0):=by kernel_rfl):∃a0,gA (cf a0) st=some (cf a0)∧f a0=some r:=⟨a0,ai,h⟩
def dE(cf:α→aO)(f:α→Option ρ)(Z:bd Tryz.prog N E x (cu.then (λb_=>∃a0,gA (cf a0) b_=some (cf a0)∧f a0=some r) Q) st)(ab:∀a0,f a0=some r→bd Tryz.prog N E y Q (cf a0))(b3:∀a0,Nat.ble E (cf a0).aZ=true:=by intros;kernel_rfl):bd Tryz.prog N E (.seq x y) Q st:=
 bd.cut _ Z λb_ ⟨a0,ai,h⟩=>bd.pd _ _ _ _ ai (b3 a0) (ab a0 h)
def dO(cf:α→aO)(F:Nat→α→Option ρ)(B:(α→Option ρ)→α→Option ρ){n:Nat}{a0:_}(h:F n a0=some r)(body:∀k a0,B k a0=some r→bd Tryz.prog N E x (cu.then (λb_=>∃a0,gA (cf a0) b_=some (cf a0)∧k a0=some r) Q) (cf a0))(hi:gA (cf a0) st=some (cf a0):=by kernel_rfl)(b3:∀a0,Nat.ble E (cf a0).aZ=true:=by intros;kernel_rfl)(h0:∀a0,F 0 a0=none:=by intros;rfl)(hs:∀m a0,F (m+1) a0=B (F m) a0:=by intros;rfl):bd Tryz.prog N E (.loop x) Q st:=by
 refine bd.loop (σ:=α) (λm (s:α) st=>gA (cf s) st=some (cf s)∧F m s=some r) ?_ (n:=n) (s:=a0) ⟨hi,h⟩
 rintro m a0 b_ ⟨ai,h⟩
 cases m with
 |zero=>have ab:=(h0 a0).symm.trans h;cases ab
 |succ m=>
  refine⟨m,rfl,bd.pd _ _ _ _ ai (b3 a0) ((body (F m) a0 ((hs m a0).symm.trans h)).mono ?_)⟩
  intro fJ CM ao;cases fJ with
  |normal=>obtain⟨a0,g1,g2⟩:=ao;exact⟨a0,g1,g2⟩
  |exit i=>exact ao
  |ret=>exact ao
  |aK x=>exact ao
end
section
variable {α β:Type} {ρ:Type} {r:ρ} {N E:Nat} {st:aO} {Q:cu→aO→Prop} {x y:Code}
def dp{cf:α→β→aO}{f:α→β→Option ρ}{a0 aW:_}(h:f a0 aW=some r)(ai:gA (cf a0 aW) st=some (cf a0 aW):=by kernel_rfl):∃a0 aW,gA (cf a0 aW) st=some (cf a0 aW)∧f a0 aW=some r:=⟨a0,aW,ai,h⟩
def ix(cf:α→β→aO)(f:α→β→Option ρ)(Z:bd Tryz.prog N E x (cu.then (λb_=>∃a0 aW,gA (cf a0 aW) b_=some (cf a0 aW)∧f a0 aW=some r) Q) st)(ab:∀a0 aW,f a0 aW=some r→bd Tryz.prog N E y Q (cf a0 aW))(b3:∀a0 aW,Nat.ble E (cf a0 aW).aZ=true:=by intros;kernel_rfl):bd Tryz.prog N E (.seq x y) Q st:=
 bd.cut _ Z λb_ ⟨a0,aW,ai,h⟩=>bd.pd _ _ _ _ ai (b3 a0 aW) (ab a0 aW h)
def gk(cf:α→β→aO)(F:Nat→α→β→Option ρ)(B:(α→β→Option ρ)→α→β→Option ρ){n:Nat}{a0 aW:_}(h:F n a0 aW=some r)(body:∀k a0 aW,B k a0 aW=some r→bd Tryz.prog N E x (cu.then (λb_=>∃a0 aW,gA (cf a0 aW) b_=some (cf a0 aW)∧k a0 aW=some r) Q) (cf a0 aW))(hi:gA (cf a0 aW) st=some (cf a0 aW):=by kernel_rfl)(b3:∀a0 aW,Nat.ble E (cf a0 aW).aZ=true:=by intros;kernel_rfl)(h0:∀a0 aW,F 0 a0 aW=none:=by intros;rfl)(hs:∀m a0 aW,F (m+1) a0 aW=B (F m) a0 aW:=by intros;rfl):bd Tryz.prog N E (.loop x) Q st:=by
 refine bd.loop (σ:=α×β) (λm (s:α×β) st=>gA (cf s.1 s.2) st=some (cf s.1 s.2)∧F m s.1 s.2=some r) ?_ (n:=n) (s:=(a0,aW)) ⟨hi,h⟩
 rintro m ⟨a0,aW⟩ b_ ⟨ai,h⟩
 cases m with
 |zero=>have ab:=(h0 a0 aW).symm.trans h;cases ab
 |succ m=>
  refine⟨m,rfl,bd.pd _ _ _ _ ai (b3 a0 aW) ((body (F m) a0 aW ((hs m a0 aW).symm.trans h)).mono ?_)⟩
  intro fJ CM ao;cases fJ with
  |normal=>obtain⟨a0,aW,g1,g2⟩:=ao;exact⟨(a0,aW),g1,g2⟩
  |exit i=>exact ao
  |ret=>exact ao
  |aK x=>exact ao
end
section
variable {α β dq:Type} {ρ:Type} {r:ρ} {N E:Nat} {st:aO} {Q:cu→aO→Prop} {x y:Code}
def gB{cf:α→β→dq→aO}{f:α→β→dq→Option ρ}{a0 aW a2:_}(h:f a0 aW a2=some r)(ai:gA (cf a0 aW a2) st=some (cf a0 aW a2):=by kernel_rfl):∃a0 aW a2,gA (cf a0 aW a2) st=some (cf a0 aW a2)∧f a0 aW a2=some r:=⟨a0,aW,a2,ai,h⟩
def pg(cf:α→β→dq→aO)(f:α→β→dq→Option ρ)(Z:bd Tryz.prog N E x (cu.then (λb_=>∃a0 aW a2,gA (cf a0 aW a2) b_=some (cf a0 aW a2)∧f a0 aW a2=some r) Q) st)(ab:∀a0 aW a2,f a0 aW a2=some r→bd Tryz.prog N E y Q (cf a0 aW a2))(b3:∀a0 aW a2,Nat.ble E (cf a0 aW a2).aZ=true:=by intros;kernel_rfl):bd Tryz.prog N E (.seq x y) Q st:=
 bd.cut _ Z λb_ ⟨a0,aW,a2,ai,h⟩=>bd.pd _ _ _ _ ai (b3 a0 aW a2) (ab a0 aW a2 h)
def nv(cf:α→β→dq→aO)(F:Nat→α→β→dq→Option ρ)(B:(α→β→dq→Option ρ)→α→β→dq→Option ρ){n:Nat}{a0 aW a2:_}(h:F n a0 aW a2=some r)(body:∀k a0 aW a2,B k a0 aW a2=some r→bd Tryz.prog N E x (cu.then (λb_=>∃a0 aW a2,gA (cf a0 aW a2) b_=some (cf a0 aW a2)∧k a0 aW a2=some r) Q) (cf a0 aW a2))(hi:gA (cf a0 aW a2) st=some (cf a0 aW a2):=by kernel_rfl)(b3:∀a0 aW a2,Nat.ble E (cf a0 aW a2).aZ=true:=by intros;kernel_rfl)(h0:∀a0 aW a2,F 0 a0 aW a2=none:=by intros;rfl)(hs:∀m a0 aW a2,F (m+1) a0 aW a2=B (F m) a0 aW a2:=by intros;rfl):bd Tryz.prog N E (.loop x) Q st:=by
 refine bd.loop (σ:=α×β×dq) (λm (s:α×β×dq) st=>gA (cf s.1 s.2.1 s.2.2) st=some (cf s.1 s.2.1 s.2.2)∧F m s.1 s.2.1 s.2.2=some r) ?_ (n:=n) (s:=(a0,aW,a2)) ⟨hi,h⟩
 rintro m ⟨a0,aW,a2⟩ b_ ⟨ai,h⟩
 cases m with
 |zero=>have ab:=(h0 a0 aW a2).symm.trans h;cases ab
 |succ m=>
  refine⟨m,rfl,bd.pd _ _ _ _ ai (b3 a0 aW a2) ((body (F m) a0 aW a2 ((hs m a0 aW a2).symm.trans h)).mono ?_)⟩
  intro fJ CM ao;cases fJ with
  |normal=>obtain⟨a0,aW,a2,g1,g2⟩:=ao;exact⟨(a0,aW,a2),g1,g2⟩
  |exit i=>exact ao
  |ret=>exact ao
  |aK x=>exact ao
end
section
variable {α β dq f0:Type} {ρ:Type} {r:ρ} {N E:Nat} {st:aO} {Q:cu→aO→Prop} {x y:Code}
def ph{cf:α→β→dq→f0→aO}{f:α→β→dq→f0→Option ρ}{a0 aW a2 a3:_}(h:f a0 aW a2 a3=some r)(ai:gA (cf a0 aW a2 a3) st=some (cf a0 aW a2 a3):=by kernel_rfl):∃a0 aW a2 a3,gA (cf a0 aW a2 a3) st=some (cf a0 aW a2 a3)∧f a0 aW a2 a3=some r:=⟨a0,aW,a2,a3,ai,h⟩
def ahl(cf:α→β→dq→f0→aO)(f:α→β→dq→f0→Option ρ)(Z:bd Tryz.prog N E x (cu.then (λb_=>∃a0 aW a2 a3,gA (cf a0 aW a2 a3) b_=some (cf a0 aW a2 a3)∧f a0 aW a2 a3=some r) Q) st)(ab:∀a0 aW a2 a3,f a0 aW a2 a3=some r→bd Tryz.prog N E y Q (cf a0 aW a2 a3))(b3:∀a0 aW a2 a3,Nat.ble E (cf a0 aW a2 a3).aZ=true:=by intros;kernel_rfl):bd Tryz.prog N E (.seq x y) Q st:=
 bd.cut _ Z λb_ ⟨a0,aW,a2,a3,ai,h⟩=>bd.pd _ _ _ _ ai (b3 a0 aW a2 a3) (ab a0 aW a2 a3 h)
def rc(cf:α→β→dq→f0→aO)(F:Nat→α→β→dq→f0→Option ρ)(B:(α→β→dq→f0→Option ρ)→α→β→dq→f0→Option ρ){n:Nat}{a0 aW a2 a3:_}(h:F n a0 aW a2 a3=some r)(body:∀k a0 aW a2 a3,B k a0 aW a2 a3=some r→bd Tryz.prog N E x (cu.then (λb_=>∃a0 aW a2 a3,gA (cf a0 aW a2 a3) b_=some (cf a0 aW a2 a3)∧k a0 aW a2 a3=some r) Q) (cf a0 aW a2 a3))(hi:gA (cf a0 aW a2 a3) st=some (cf a0 aW a2 a3):=by kernel_rfl)(b3:∀a0 aW a2 a3,Nat.ble E (cf a0 aW a2 a3).aZ=true:=by intros;kernel_rfl)(h0:∀a0 aW a2 a3,F 0 a0 aW a2 a3=none:=by intros;rfl)(hs:∀m a0 aW a2 a3,F (m+1) a0 aW a2 a3=B (F m) a0 aW a2 a3:=by intros;rfl):bd Tryz.prog N E (.loop x) Q st:=by
 refine bd.loop (σ:=α×β×dq×f0) (λm (s:α×β×dq×f0) st=>gA (cf s.1 s.2.1 s.2.2.1 s.2.2.2) st=some (cf s.1 s.2.1 s.2.2.1 s.2.2.2)∧F m s.1 s.2.1 s.2.2.1 s.2.2.2=some r) ?_ (n:=n) (s:=(a0,aW,a2,a3)) ⟨hi,h⟩
 rintro m ⟨a0,aW,a2,a3⟩ b_ ⟨ai,h⟩
 cases m with
 |zero=>have ab:=(h0 a0 aW a2 a3).symm.trans h;cases ab
 |succ m=>
  refine⟨m,rfl,bd.pd _ _ _ _ ai (b3 a0 aW a2 a3) ((body (F m) a0 aW a2 a3 ((hs m a0 aW a2 a3).symm.trans h)).mono ?_)⟩
  intro fJ CM ao;cases fJ with
  |normal=>obtain⟨a0,aW,a2,a3,g1,g2⟩:=ao;exact⟨(a0,aW,a2,a3),g1,g2⟩
  |exit i=>exact ao
  |ret=>exact ao
  |aK x=>exact ao
end
section
variable {α β dq f0 ls:Type} {ρ:Type} {r:ρ} {N E:Nat} {st:aO} {Q:cu→aO→Prop} {x y:Code}
def O_{cf:α→β→dq→f0→ls→aO}{f:α→β→dq→f0→ls→Option ρ}{a0 aW a2 a3 a4:_}(h:f a0 aW a2 a3 a4=some r)(ai:gA (cf a0 aW a2 a3 a4) st=some (cf a0 aW a2 a3 a4):=by kernel_rfl):∃a0 aW a2 a3 a4,gA (cf a0 aW a2 a3 a4) st=some (cf a0 aW a2 a3 a4)∧f a0 aW a2 a3 a4=some r:=⟨a0,aW,a2,a3,a4,ai,h⟩
def ahm(cf:α→β→dq→f0→ls→aO)(f:α→β→dq→f0→ls→Option ρ)(Z:bd Tryz.prog N E x (cu.then (λb_=>∃a0 aW a2 a3 a4,gA (cf a0 aW a2 a3 a4) b_=some (cf a0 aW a2 a3 a4)∧f a0 aW a2 a3 a4=some r) Q) st)(ab:∀a0 aW a2 a3 a4,f a0 aW a2 a3 a4=some r→bd Tryz.prog N E y Q (cf a0 aW a2 a3 a4))(b3:∀a0 aW a2 a3 a4,Nat.ble E (cf a0 aW a2 a3 a4).aZ=true:=by intros;kernel_rfl):bd Tryz.prog N E (.seq x y) Q st:=
 bd.cut _ Z λb_ ⟨a0,aW,a2,a3,a4,ai,h⟩=>bd.pd _ _ _ _ ai (b3 a0 aW a2 a3 a4) (ab a0 aW a2 a3 a4 h)
def ahn(cf:α→β→dq→f0→ls→aO)(F:Nat→α→β→dq→f0→ls→Option ρ)(B:(α→β→dq→f0→ls→Option ρ)→α→β→dq→f0→ls→Option ρ){n:Nat}{a0 aW a2 a3 a4:_}(h:F n a0 aW a2 a3 a4=some r)(body:∀k a0 aW a2 a3 a4,B k a0 aW a2 a3 a4=some r→bd Tryz.prog N E x (cu.then (λb_=>∃a0 aW a2 a3 a4,gA (cf a0 aW a2 a3 a4) b_=some (cf a0 aW a2 a3 a4)∧k a0 aW a2 a3 a4=some r) Q) (cf a0 aW a2 a3 a4))(hi:gA (cf a0 aW a2 a3 a4) st=some (cf a0 aW a2 a3 a4):=by kernel_rfl)(b3:∀a0 aW a2 a3 a4,Nat.ble E (cf a0 aW a2 a3 a4).aZ=true:=by intros;kernel_rfl)(h0:∀a0 aW a2 a3 a4,F 0 a0 aW a2 a3 a4=none:=by intros;rfl)(hs:∀m a0 aW a2 a3 a4,F (m+1) a0 aW a2 a3 a4=B (F m) a0 aW a2 a3 a4:=by intros;rfl):bd Tryz.prog N E (.loop x) Q st:=by
 refine bd.loop (σ:=α×β×dq×f0×ls) (λm (s:α×β×dq×f0×ls) st=>gA (cf s.1 s.2.1 s.2.2.1 s.2.2.2.1 s.2.2.2.2) st=some (cf s.1 s.2.1 s.2.2.1 s.2.2.2.1 s.2.2.2.2)∧F m s.1 s.2.1 s.2.2.1 s.2.2.2.1 s.2.2.2.2=some r) ?_ (n:=n) (s:=(a0,aW,a2,a3,a4)) ⟨hi,h⟩
 rintro m ⟨a0,aW,a2,a3,a4⟩ b_ ⟨ai,h⟩
 cases m with
 |zero=>have ab:=(h0 a0 aW a2 a3 a4).symm.trans h;cases ab
 |succ m=>
  refine⟨m,rfl,bd.pd _ _ _ _ ai (b3 a0 aW a2 a3 a4) ((body (F m) a0 aW a2 a3 a4 ((hs m a0 aW a2 a3 a4).symm.trans h)).mono ?_)⟩
  intro fJ CM ao;cases fJ with
  |normal=>obtain⟨a0,aW,a2,a3,a4,g1,g2⟩:=ao;exact⟨(a0,aW,a2,a3,a4),g1,g2⟩
  |exit i=>exact ao
  |ret=>exact ao
  |aK x=>exact ao
end
section
variable {α β dq f0 ls uf:Type} {ρ:Type} {r:ρ} {N E:Nat} {st:aO} {Q:cu→aO→Prop} {x y:Code}
def aho{cf:α→β→dq→f0→ls→uf→aO}{f:α→β→dq→f0→ls→uf→Option ρ}{a0 aW a2 a3 a4 a5:_}(h:f a0 aW a2 a3 a4 a5=some r)(ai:gA (cf a0 aW a2 a3 a4 a5) st=some (cf a0 aW a2 a3 a4 a5):=by kernel_rfl):∃a0 aW a2 a3 a4 a5,gA (cf a0 aW a2 a3 a4 a5) st=some (cf a0 aW a2 a3 a4 a5)∧f a0 aW a2 a3 a4 a5=some r:=⟨a0,aW,a2,a3,a4,a5,ai,h⟩
def ahp(cf:α→β→dq→f0→ls→uf→aO)(F:Nat→α→β→dq→f0→ls→uf→Option ρ)(B:(α→β→dq→f0→ls→uf→Option ρ)→α→β→dq→f0→ls→uf→Option ρ){n:Nat}{a0 aW a2 a3 a4 a5:_}(h:F n a0 aW a2 a3 a4 a5=some r)(body:∀k a0 aW a2 a3 a4 a5,B k a0 aW a2 a3 a4 a5=some r→bd Tryz.prog N E x (cu.then (λb_=>∃a0 aW a2 a3 a4 a5,gA (cf a0 aW a2 a3 a4 a5) b_=some (cf a0 aW a2 a3 a4 a5)∧k a0 aW a2 a3 a4 a5=some r) Q) (cf a0 aW a2 a3 a4 a5))(hi:gA (cf a0 aW a2 a3 a4 a5) st=some (cf a0 aW a2 a3 a4 a5):=by kernel_rfl)(b3:∀a0 aW a2 a3 a4 a5,Nat.ble E (cf a0 aW a2 a3 a4 a5).aZ=true:=by intros;kernel_rfl)(h0:∀a0 aW a2 a3 a4 a5,F 0 a0 aW a2 a3 a4 a5=none:=by intros;rfl)(hs:∀m a0 aW a2 a3 a4 a5,F (m+1) a0 aW a2 a3 a4 a5=B (F m) a0 aW a2 a3 a4 a5:=by intros;rfl):bd Tryz.prog N E (.loop x) Q st:=by
 refine bd.loop (σ:=α×β×dq×f0×ls×uf) (λm (s:α×β×dq×f0×ls×uf) st=>gA (cf s.1 s.2.1 s.2.2.1 s.2.2.2.1 s.2.2.2.2.1 s.2.2.2.2.2) st=some (cf s.1 s.2.1 s.2.2.1 s.2.2.2.1 s.2.2.2.2.1 s.2.2.2.2.2)∧F m s.1 s.2.1 s.2.2.1 s.2.2.2.1 s.2.2.2.2.1 s.2.2.2.2.2=some r) ?_ (n:=n) (s:=(a0,aW,a2,a3,a4,a5)) ⟨hi,h⟩
 rintro m ⟨a0,aW,a2,a3,a4,a5⟩ b_ ⟨ai,h⟩
 cases m with
 |zero=>have ab:=(h0 a0 aW a2 a3 a4 a5).symm.trans h;cases ab
 |succ m=>
  refine⟨m,rfl,bd.pd _ _ _ _ ai (b3 a0 aW a2 a3 a4 a5) ((body (F m) a0 aW a2 a3 a4 a5 ((hs m a0 aW a2 a3 a4 a5).symm.trans h)).mono ?_)⟩
  intro fJ CM ao;cases fJ with
  |normal=>obtain⟨a0,aW,a2,a3,a4,a5,g1,g2⟩:=ao;exact⟨(a0,aW,a2,a3,a4,a5),g1,g2⟩
  |exit i=>exact ao
  |ret=>exact ao
  |aK x=>exact ao
end
end Go.Ab.Y.T
namespace Go.Ab.Y
open Go Go.Ab Go.Proofs
def HS(n:Nat)(s:arY):Option arY:=av (decide (s.length≤281474976710656))<|some s
def HT(n:Nat)(s:arY)(c:Int):Option Int:=some (Lib.indexByte s c.toNat.toUInt8)
def yX(n:Nat)(s:arY):Option Int:=av (decide (s.length≤140737488351232))<|some (gN s)
def CN(s:arY):Int ⊕ Int:=
 match Lib.parseIntB 64 s with
 |.ok v=>.inl v
 |.range=>.inr (Lib.intSat 64 s)
 |_=>.inr 0
def yY(n:Nat)(s:arY)(base:Int)(HU:Int):Option (Int ⊕ Int):=
 av (decide (base=10∧HU=64∧s.length≤281474976710656))<|some (CN s)
def HV(n:Nat)(i:Int)(base:Int):Option arY:=av (decide (base=10 ∧ -9223372036854775808≤i∧i≤9223372036854775807))<|some (Lib.itoa i)
def HW(n:Nat)(elems:List arY)(sep:arY):Option arY:=av (decide (elems.length≤140737488355328∧(Lib.join elems sep).length≤140737488355328))<|some (Lib.join elems sep)
open Go Go.Ab Go.Proofs
def ahq{n:Nat}{s:arY}{r:arY}(h:HS n s=some r):hq Tryz.prog 326 [.v (.str s)] [] [] (.ret (.v (.str r)) none) []:=by
 unfold HS at h;obtain⟨g,h⟩:=sj h;obtain rfl:=Option.some.inj h;refine wl (fd:=Tryz.f326) Tryz.func326 rfl rfl (vsOf:=λvs=>vs=[.string ⟨⟨s⟩⟩]) (λM β vs ae ai=>?_) (λvs w ax hg=>?_)
 ·match vs,ae with
  |[v],_=>
   have:=mU (ai 0 v _ rfl rfl)
   rw [this]
 ·subst ax;refine(Tryz.stringslite_Clone ⟨⟨s⟩⟩ w (show s.length≤281474976710656 from of_decide_eq_true g)).mono ?_
  rintro e w' ⟨rfl,hb⟩
  refine⟨_,rfl,λM β=>.v _ _ (.str _),λb a7 h=>?_,by rw [hb.os,hb.output]⟩
  rw [hb.block b (Array.getElem?_eq_some_iff.1 h).1];exact h
def ahr{n:Nat}{s:arY}{c:Int}{r:Int}(h:HT n s c=some r):hq Tryz.prog 352 [.v (.str s),.v (.int .u8 c)] [] [] (.ret (.v (.int .i64 r)) none) []:=by
 unfold HT at h;obtain rfl:=Option.some.inj h;refine wl (fd:=Tryz.f352) Tryz.func352 rfl rfl (vsOf:=λvs=>vs=[.string ⟨⟨s⟩⟩,.int .u8 c]) (λM β vs ae ai=>?_) (λvs w ax hg=>?_)
 ·match vs,ae with
  |[v,u],_=>
   have Z:=mU (ai 0 v _ rfl rfl);have ab:=mv (ai 1 u _ rfl rfl);rw [Z,ab]
 ·subst ax;refine(Tryz.stringslite_IndexByte ⟨⟨s⟩⟩ c w).mono ?_
  rintro e w' ⟨rfl,rfl⟩
  exact⟨_,rfl,λM β=>.v _ _ (.int _ _),λb a7 h=>h,rfl⟩
def X9{n:Nat}{s:arY}{r:Int}(h:yX n s=some r):hq Tryz.prog 174 [.v (.str s)] [] [] (.ret (.v (.int .i64 r)) none) []:=by
 unfold yX at h;obtain⟨g,h⟩:=sj h;obtain rfl:=Option.some.inj h;refine wl (fd:=Tryz.f174) Tryz.func174 rfl rfl (vsOf:=λvs=>vs=[.string ⟨⟨s⟩⟩]) (λM β vs ae ai=>?_) (λvs w ax hg=>?_)
 ·match vs,ae with
  |[v],_=>
   have:=mU (ai 0 v _ rfl rfl)
   rw [this]
 ·subst ax;refine(ahc ⟨⟨s⟩⟩ w (show s.length≤140737488351232 from of_decide_eq_true g)).mono ?_
  rintro e w' ⟨rfl,pos,rfl⟩
  refine⟨_,rfl,λM β=>.v _ _ (.int _ _),λb a7 h=>?_,rfl⟩
  rw [World.iter,Go.RowKit.Below.heap_alloc w _ b (Array.getElem?_eq_some_iff.1 h).1];exact h
def ahs(w:World)(e:TypeId)(t:ByteArray):((Lib.bytesWorld w e t).os,(Lib.bytesWorld w e t).output)=(w.os,w.output):=by
 rw [(Lib.bytesWorld_below w e t).os,(Lib.bytesWorld_below w e t).output]
def Pa:Nb Tryz.prog=[4,5]:=by kernel_rfl
def X'{n:Nat}{s:arY}{base:Int}{HU:Int}{r:(Int ⊕ Int)}(h:yY n s base HU=some r):hq Tryz.prog 351 [.v (.str s),.v (.int .i64 base),.v (.int .i64 HU)] [] [] (iw.on r (λX_=>.ret (.bW [.v (.int .i64 X_),.v (.iF)]) none) (λYa=>.ret (.bW [.v (.int .i64 Ya),.v ((.iface 393 .any))]) none)) []:=by
 unfold yY at h;obtain⟨g,h⟩:=sj h;obtain rfl:=Option.some.inj h;obtain⟨rfl,rfl,ae⟩:=of_decide_eq_true g
 have e7:∀(M:Mem) (β:Nat→Option Nat) (vs:List Value),vs.length=3→(∀(i:Nat) v a,vs[i]? = some v→[D.v (.str s),.v (.int .i64 10),.v (.int .i64 64)][i]? = some a→cE M β v a)→vs=[.string ⟨⟨s⟩⟩,.int .i64 10,.int .i64 64]:=by
  intro M β vs ae ai
  match vs,ae with
  |[v,u,t],_=>
   have Z:=mU (ai 0 v _ rfl rfl);have ab:=mv (ai 1 u _ rfl rfl);have aq:=mv (ai 2 t _ rfl rfl);rw [Z,ab,aq]
 unfold CN;rcases hp:Lib.parseIntB 64 s with v|_|_
 ·
   refine wl (fd:=Tryz.f351) Tryz.func351 rfl rfl (vsOf:=λvs=>vs=[.string ⟨⟨s⟩⟩,.int .i64 10,.int .i64 64]) (λM β vs ae ai=>e7 M β vs ae ai) (λvs w ax hg=>?_)
   subst ax;refine(Tryz.strconv_ParseInt_10_at64_ok ⟨⟨s⟩⟩ (show s.length≤9223372036854775806 by omega) v hp w).mono ?_
   rintro e w' ⟨rfl,hw⟩
   refine⟨_,rfl,λM β=>.bW [_,_] _ rfl λi v c hi hc=>?_,λb a7 h=>?_,by rcases hw with rfl|⟨t,rfl⟩;rfl;exact ahs _ _ _⟩
   ·match i with
    | 0=>cases hi;cases hc;exact .v _ _ (.int _ _)
    | 1=>cases hi;cases hc;exact .v _ _ .iF
    |i+2=>simp at hi
   ·rcases hw with rfl|⟨t,rfl⟩
    ·exact h
    ·rw [Lib.bytesWorld_at_old _ _ _ _ (Array.getElem?_eq_some_iff.1 h).1];exact h
 ·
   refine wl (fd:=Tryz.f351) Tryz.func351 rfl rfl (vsOf:=λvs=>vs=[.string ⟨⟨s⟩⟩,.int .i64 10,.int .i64 64]) (λM β vs ae ai=>e7 M β vs ae ai) (λvs w ax hg=>?_)
   subst ax;obtain⟨fR,Z,ab⟩:=hg.1 4 (by rw [Pa];simp)
   refine(Tryz.strconv_ParseInt_10_at64_syntax ⟨⟨s⟩⟩ ae (by constructor;intro v;rw [show Lib.parseIntB 64 (⟨⟨s⟩⟩:ByteArray).data.toList=_ from hp];intro e;cases e;rw [show Lib.parseIntB 64 (⟨⟨s⟩⟩:ByteArray).data.toList=_ from hp];intro e;cases e) fR w Z ab).mono ?_
   rintro e w' ⟨N,rfl,aY,iv,hb⟩
   refine⟨_,rfl,λM β=>.bW [_,_] _ rfl λi v c hi hc=>?_,λb a7 h=>?_,by rw [hb.os,hb.output]⟩
   ·match i with
    | 0=>cases hi;cases hc;exact .v _ _ (.int _ _)
    | 1=>cases hi;cases hc;exact .v _ _ (.iface _ _ _ (.any _ rfl))
    |i+2=>simp at hi
   ·rw [hb.block b (Array.getElem?_eq_some_iff.1 h).1];exact h
 ·
   refine wl (fd:=Tryz.f351) Tryz.func351 rfl rfl (vsOf:=λvs=>vs=[.string ⟨⟨s⟩⟩,.int .i64 10,.int .i64 64]) (λM β vs ae ai=>e7 M β vs ae ai) (λvs w ax hg=>?_)
   subst ax;obtain⟨fR,Z,ab⟩:=hg.1 5 (by rw [Pa];simp)
   refine(Tryz.strconv_ParseInt_10_at64_range ⟨⟨s⟩⟩ ae hp fR w Z ab).mono ?_
   rintro e w' ⟨N,rfl,aY,iv,hb⟩
   refine⟨_,rfl,λM β=>.bW [_,_] _ rfl λi v c hi hc=>?_,λb a7 h=>?_,by rw [hb.os,hb.output]⟩
   ·match i with
    | 0=>cases hi;cases hc;exact .v _ _ (.int _ _)
    | 1=>cases hi;cases hc;exact .v _ _ (.iface _ _ _ (.any _ rfl))
    |i+2=>simp at hi
   ·rw [hb.block b (Array.getElem?_eq_some_iff.1 h).1];exact h
def HX : Tryz.prog.globalNamed "internal/strconv.uint64pow10" = some 1 := by kernel_rfl
def Yb:(Lib.pow10Tab.map λz=>Value.int .u64 z).toArray=Nc:=by kernel_rfl
def aht {w : World} (h : HA Tryz.prog w) : Lib.TabIs Tryz.prog w "internal/strconv.uint64pow10" .u64 Lib.pow10Tab := by
 obtain⟨t,k_,Z⟩:=h.2 1 HX;unfold Lib.TabIs World.var?;rw [HX,Option.bind_some,Z,Yb]
def ahu{n:Nat}{i:Int}{base:Int}{r:arY}(h:HV n i base=some r):hq Tryz.prog 320 [.v (.int .i64 i),.v (.int .i64 base)] [] [] (.ret (.v (.str r)) none) []:=by
 unfold HV at h;obtain⟨g,h⟩:=sj h;obtain rfl:=Option.some.inj h;obtain⟨rfl,h0,Z⟩:=of_decide_eq_true g;refine wl (fd:=Tryz.f320) Tryz.func320 rfl rfl (vsOf:=λvs=>vs=[.int .i64 i,.int .i64 10]) (λM β vs ae ai=>?_) (λvs w ax hg=>?_)
 ·match vs,ae with
  |[v,u],_=>
   have g1:=mv (ai 0 v _ rfl rfl);have g2:=mv (ai 1 u _ rfl rfl);rw [g1,g2]
 ·subst ax;refine(Tryz.strconv_FormatInt_10 i h0 Z w (aht hg)).mono ?_
  rintro e w' ⟨rfl,k,os,rfl⟩
  exact⟨_,rfl,λM β=>.v _ _ (.str _),λb a7 h=>(Lib.heap_grow_old w k os b (Array.getElem?_eq_some_iff.1 h).1).trans h,rfl⟩
def Yc{b:List Int}(g:(ns b&&decide (b.length≤9223372036854775807))=true):b.length=(kd b).length∧∀i,i<(kd b).length→(λi=>cU (b.getD i default)) i = .int .u8 (((kd b).getD i 0).toNat:Int):=by
 simp only [Bool.and_eq_true]at g;obtain⟨Z,ab⟩:=Cv g.1;exact⟨Z.symm,λi hi=>ab i (by omega)⟩
def Yd{b:List Int}(g:(ns b&&decide (b.length≤9223372036854775807))=true):(kd b).length≤9223372036854775807:=by
 simp only [Bool.and_eq_true,decide_eq_true_eq]at g;rw [(Cv g.1).1];exact g.2
def Pb:Go.Proofs.Builder.Extra Tryz.prog Tryz.XR where
 sizeBuilder:=by kernel_rfl
 liesBuilder:=by kernel_rfl
 t5:=Tryz.underlying5
 a5:=Tryz.isAgg5
 z5:=Tryz.sizeOf5
 v5:=Tryz.zeroValue5
 infoByte:=by kernel_rfl
 cellsByte:=by kernel_rfl
 sizeByte:=by kernel_rfl
 neB5:=by decide
def Ye{n:Nat}{elems:List arY}{sep:arY}{r:arY}(h:HW n elems sep=some r):hq Tryz.prog 119 [.v (ag 1 bo elems),.v (.str sep)] [] [] (.ret (.v (.str r)) none) []:=by
 unfold HW at h;obtain⟨g,h⟩:=sj h;obtain rfl:=Option.some.inj h;obtain⟨aY,cO⟩:=of_decide_eq_true g
 have Yf:(elems.map λs=>(⟨⟨s⟩⟩:ByteArray)).map (·.data.toList)=elems:=by
  rw [List.map_map];conv=>rhs;rw [←List.map_id elems]
  rfl
 refine Xr (fd:=Tryz.f119) Tryz.func119 rfl rfl (vsOf:=λw vs=>(∃a,vs=[.slice a 0 0,.string ⟨⟨sep⟩⟩]∧elems=[])∨∃yZ o c,vs=[.slice (some ⟨yZ,o,none⟩) elems.length c,.string ⟨⟨sep⟩⟩]∧elems.length≤c∧∀(j:Nat) x,elems[j]? = some x→w.cell? ⟨yZ,o+j,none⟩=some (.string ⟨⟨x⟩⟩)) (λw M β vs hm ae ai=>?_) (λvs w ax hg=>?_)
 ·match vs,ae with
  |[v,u],_=>
   have g2:=mU (ai 1 u _ rfl rfl);have g1:=ai 0 v _ rfl rfl;rw [g2];rcases tE (k:=1) (n:=elems.length) (get:=λi=>bo (elems.getD i default)) g1 with⟨Z,ab⟩|⟨b,off,cap,val,Z,hc,hk,c8,jp,gR⟩
   ·rcases Z with Z|⟨a,Z⟩
    ·exact .inl ⟨none,by rw [Z],List.eq_nil_of_length_eq_zero ab⟩
    ·exact .inl ⟨some a,by rw [Z],List.eq_nil_of_length_eq_zero ab⟩
   ·refine .inr ⟨b,off,cap,by rw [Z],hc,λj x hx=>?_⟩
    have hj:j<elems.length:=(List.getElem?_eq_some_iff.1 hx).1;have e1:=hm _ _ _ (c8 j 0 hj (by omega))
    have e2:=gR j 0 (.str x) hj (by
     have:elems.getD j default=x:=by simp [List.getD,hx]
     rw [this];rfl)
    rw [show off+j*1+0=off+j by omega]at e1
    rw [e1];generalize val j 0=y at e2 ⊢
    cases e2;rfl
 ·rcases ax with⟨a,rfl,rfl⟩|⟨yZ,o,c,rfl,hc,r8⟩
  ·refine(Any.strings_Join_none Tryz.O4 Pb a 0 ⟨⟨sep⟩⟩ w).mono ?_
   rintro e w' ⟨rfl,rfl⟩
   exact⟨_,rfl,λM β=>.v _ _ (.str _),λb a7 h=>h,rfl⟩
  ·cases elems with
   |nil=>
    refine(Any.strings_Join_none Tryz.O4 Pb (some ⟨yZ,o,none⟩) c ⟨⟨sep⟩⟩ w).mono ?_
    rintro e w' ⟨rfl,rfl⟩
    exact⟨_,rfl,λM β=>.v _ _ (.str _),λb a7 h=>h,rfl⟩
   |cons r' ahv=>
    have ahw:yZ<w.heap.size:=lt_of_cell (r8 0 r' rfl)
    have hj:=Any.strings_Join Tryz.O4 Pb yZ o c ((r'::ahv).map λs=>(⟨⟨s⟩⟩:ByteArray)) ⟨⟨sep⟩⟩ w (λj x hx=>by
     rw [List.getElem?_map,Option.map_eq_some_iff]at hx;obtain⟨y,ck,rfl⟩:=hx;exact r8 j y ck) ahw (by simpa using aY) (by simpa using hc) (by rw [Yf];exact cO)
    rw [List.length_map]at hj;refine hj.mono ?_
    rintro e w' ⟨rfl,hb⟩
    refine⟨_,rfl,λM β=>?_,λb a7 h=>?_,by rw [hb.os,hb.output]⟩
    ·rw [Yf];exact .v _ _ (.str _)
    ·rw [hb.block b (Array.getElem?_eq_some_iff.1 h).1];exact h
end Go.Ab.Y
namespace Go.Ab.Y
open Go Go.Ab Go.Proofs T
abbrev ar5{ρ:Type}(i:FuncId)(a:List D)(F:Option ρ)(o:ρ→Out):Prop:=aI i a [] [] F o λ_=>[]
abbrev ar6(i:FuncId)(a:List D)(F:Option Bool):Prop:=ar5 i a F λr=>aH (ci r)
abbrev ar7(i:FuncId)(a:List D)(F:Option Int):Prop:=ar5 i a F λr=>aH (aF r)
end Go.Ab.Y

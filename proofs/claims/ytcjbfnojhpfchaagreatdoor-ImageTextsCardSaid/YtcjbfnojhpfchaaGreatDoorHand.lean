/- The types of this claim, and the contracts that were written by hand. -/
import Derived.Test.YtcjbfnojhpfchaaGreatDoorProg
import Derived.WalkKit
import Derived.Lib.Builder
import Derived.Lib.UnsafeStr
import Derived.Laws.Externs
import Derived.Shelf.RegionOpenPlain
import Derived.Lib.Join
import Derived.Lib.Bytealg
import Derived.Lib.ItoaNum
import Derived.Lib.ParseIntBCases
import Derived.Lib.AppendIntMem
import Derived.Lib.AtoiErrMem
import Derived.Test.YtcjbfnojhpfchaaGreatDoorShelf
set_option linter.all false
namespace Go.Ab
abbrev anq(x:Int):Int:=IntKind.i64.wrap x
abbrev anr{α:Type}[Inhabited α](l:List α)(i:Int):α:=l.getD i.toNat default
abbrev ans:=Option Bool
abbrev ant:=Option Int
abbrev V.anu(x:Int):V:=.int .i64 x
end Go.Ab
namespace Go.Ab.Y
open Go Go.Proofs
def hO(c:UInt8):Bool:=decide ((97≤c.toNat∧c.toNat≤122)∨(48≤c.toNat∧c.toNat≤57)∨c.toNat=95)
def gg(s:ano):Nat:=(s.takeWhile hO).length
def LP{s:ano}{k:Nat}(hk:k≤s.length)(h:∀(j:Nat) c,j<k→s[j]? = some c→hO c=true)(he:∀c,s[k]? = some c→hO c=false):gg s=k:=by
 unfold gg;induction s generalizing k with
 |nil=>simp at hk ⊢;omega
 |cons c s aF=>
  cases k with
  |zero=>
   have:=he c rfl
   simp [List.takeWhile,this]
  |succ k=>
   have h0:=h 0 c (by omega) rfl
   simp only [List.takeWhile,h0,List.length_cons];rw [aF (by simpa using hk) (λj c hj hc=>h (j+1) c (by omega) (by simpa using hc)) (λc hc=>he c (by simpa using hc))]
def LQ(s:ByteArray)(k:Nat)(h:k<s.size):s.data.toList[k]? = some (s[k]'h):=by
 have:k<s.data.toList.length:=by simpa using h
 rw [List.getElem?_eq_getElem this];rfl
def Fq(s:ByteArray)(k:Nat):Prop:=∀(j:Nat) c,j<k→s.data.toList[j]? = some c→hO c=true
def Fq.succ{s:ByteArray}{k:Nat}(h:Fq s k)(hk:k<s.size)(hc:hO (s[k]'hk)=true):Fq s (k+1):=by
 intro j c hj jG;by_cases e:j=k
 ·subst e;rw [LQ s j hk]at jG;cases jG;exact hc
 ·exact h j c (by omega) jG
set_option maxRecDepth 100000 in
def adl(s:ByteArray)(w:World)(hs:s.size≤140737488351232):
 Calls Tryz.prog 174 #[.string s] w λe w'=>e = .returned (.int .i64 (gg s.data.toList))∧∃pos,w'=w.iter s pos:=by
 go_enter Tryz.func174,Tryz.ntmps174
 go_wp2
 go_loopw [] (λw'=>∃k:Nat,w'=w.iter s k∧k≤s.size∧Fq s k) (λw'=>s.size-w'.iterPos w.heap.size)
 case atStart=>exact⟨0,rfl,by omega,λj c hj=>by omega⟩
 case round=>
  obtain⟨k,rfl,hk,hin⟩:=hrel;by_cases hp:k<s.size
  ·by_cases ha:(s[k]'hp).toNat<128
   ·have hnx:∀ty,(Instr.next (.pointer (some ⟨w.heap.size,0,none⟩)) true ty).run Tryz.prog (w.iter s k)=_:=λty=>run_next_ascii w s k ty hp ha
    cases hw:hO (s[k]'hp)
    ·have hlen:=LP (s:=s.data.toList) (k:=k) (by simpa using hk) hin (λc hc=>by rw [LQ s k hp]at hc;cases hc;exact hw)
     have hc:=of_decide_eq_false hw;clear hw
     go_wp2
     all_goals first
      |(exfalso;simp at *;omega)
      |(go_ret;exact⟨by first |rfl |(rw [hlen];rfl),_,rfl⟩)
    ·have hc:=of_decide_eq_true hw;have hin2:=hin.succ hp hw;clear hw hin
     go_wp2
     all_goals first
      |(exfalso;simp at *;omega)
      |(
       go_roundw
       case rel=>exact⟨k+1,rfl,hp,hin2⟩
       case measure=>simp;omega)
   ·have hnx:∀ty,(Instr.next (.pointer (some ⟨w.heap.size,0,none⟩)) true ty).run Tryz.prog (w.iter s k)=_:=λty=>run_next_any w s k ty hp
    have hd:=(decode_high s k hp (by omega)).1
    have hle:=decode_le s k
    have hlen:=LP (s:=s.data.toList) (k:=k) (by simpa using hk) hin (λc hc=>by
     rw [LQ s k hp]at hc;cases hc;exact decide_eq_false (by omega))
    generalize Utf8.decode s k=d at hnx hd hle
    go_wp2
    all_goals first
     |(exfalso;simp at *;omega)
     |(go_ret;exact⟨by first |rfl |(rw [hlen];rfl),_,rfl⟩)
  ·have hnx:∀ty,(Instr.next (.pointer (some ⟨w.heap.size,0,none⟩)) true ty).run Tryz.prog (w.iter s k)=_:=λty=>run_next_end w s k ty hp
   have hlen:=LP (s:=s.data.toList) (k:=k) (by simpa using hk) hin (λc hc=>by
    have:=(List.getElem?_eq_some_iff.1 hc).1
    simp at this;omega)
   obtain rfl:k=s.size:=by omega
   go_wp2
   go_ret
   exact⟨by first|rfl|(rw [hlen];rfl),_,rfl⟩
open Go Go.Proofs Go.RowKit
def T0:(Tryz.prog.info? 120).map (·.size)=some 2:=by kernel_rfl
set_option maxHeartbeats 1000000 in
set_option maxRecDepth 100000 in
def T1(b:Nat)(w:World)(h0:w.cell? ⟨b,0,none⟩=some (.pointer (some ⟨b,0,none⟩))):
 Calls Tryz.prog 113 #[.pointer (some ⟨b,0,none⟩)] w λe w'=>e = .returned (.tuple #[])∧w'=w:=by
 obtain⟨j,hj,_⟩:=Option.map_eq_some_iff.1 T0
 go_enter Tryz.func113,Tryz.ntmps113
 go_wp2
 rw [Lib.run_neq_ptr_same w _ Tryz.underlying117 hj]
 go_wp2
 go_end0
 exact⟨rfl,rfl⟩
set_option maxHeartbeats 1000000 in
set_option maxRecDepth 100000 in
def T2(b:Nat)(w:World)(T:TypeId)(k:Nat)(h0:w.cell? ⟨b,0,none⟩=some (.pointer none))(hsh:w.shape? b=some (T,k))(hk:0<k)(hlies:liesAt Tryz.prog Tryz.prog.depth T (k / Tryz.prog.cellsOf T) 0 120 1=true)(hfz:w.frozen? ⟨b,0,none⟩=false):
 Calls Tryz.prog 113 #[.pointer (some ⟨b,0,none⟩)] w λe w'=>e = .returned (.tuple #[])∧w'=w.setCell ⟨b,0,none⟩ (.pointer (some ⟨b,0,none⟩)):=by
 obtain⟨j,hj,hjs⟩:=Option.map_eq_some_iff.1 T0
 go_enter Tryz.func113,Tryz.ntmps113
 go_wp2
 rw [Lib.run_to_unsafe w ⟨b,0,none⟩ Tryz.underlying117 Tryz.underlying256 hj (by rw [hjs];decide) hsh hk]
 simp only [Result.andThen];rw [Oper.upon_value]
 go_wp2
 rw [run_callFunc_extern Tryz.func184 (by kernel_rfl) (by kernel_rfl) (by kernel_rfl) (e:=Extern.AbiNoEscape.same) (by kernel_rfl)]
 rw [Lib.run_noEscape];simp only [Result.andThen];rw [Oper.upon_value]
 go_wp2
 rw [Lib.run_from_unsafe w ⟨b,0,none⟩ Tryz.underlying256 Tryz.underlying117 hj hsh hlies];simp only [Result.andThen];rw [Oper.upon_value]
 go_wp2
 go_end0
 exact⟨rfl,rfl⟩
def cellsByte:Tryz.prog.cellsOf 5=1:=by kernel_rfl
set_option maxHeartbeats 2000000 in
set_option maxRecDepth 100000 in
def T3(b:Nat)(w:World)(h:w.cell? ⟨b,1,none⟩=some (.slice none 0 0)):
 Calls Tryz.prog 66 #[.pointer (some ⟨b,0,none⟩)] w λe w'=>e = .returned (.string ⟨#[]⟩)∧w'=w.drew:=by
 have hUS:(Builtin.unsafeString_ #[191,3] 9 #[.pointer none,.int .i64 0]).run Tryz.prog w.drew = .ok (.string .empty) w.drew:=Lib.run_unsafeString_none w.drew _ _ _ none;have c1:w.drew.cell? ⟨b,1,none⟩=some (.slice none 0 0):=h;have hSD:(Builtin.unsafeSliceData_ #[118] 191 #[.slice none 0 0]).run Tryz.prog w.drew = .ok (.pointer none) w.drew:=rfl;have mixed:Tryz.prog.follows .mixedOrders=true:=by kernel_rfl
 go_enter Tryz.func66,Tryz.ntmps66
 go_wp2
 go_region_o
 all_goals (go_wp2;go_ret;exact⟨rfl,rfl⟩)
set_option maxHeartbeats 2000000 in
set_option maxRecDepth 100000 in
def T4(b g cap:Nat)(w:World)(hc0:cap≠0)(h:w.cell? ⟨b,1,none⟩=some (.slice (some ⟨g,0,none⟩) 0 cap)):
 Calls Tryz.prog 66 #[.pointer (some ⟨b,0,none⟩)] w λe w'=>e = .returned (.string ⟨#[]⟩)∧w'=w.drew:=by
 have hUS:(Builtin.unsafeString_ #[191,3] 9 #[.pointer (some ⟨g,0,none⟩),.int .i64 0]).run Tryz.prog w.drew = .ok (.string .empty) w.drew:=Lib.run_unsafeString_none w.drew _ _ _ _;have c1:w.drew.cell? ⟨b,1,none⟩=some (.slice (some ⟨g,0,none⟩) 0 cap):=h;have hSD:(Builtin.unsafeSliceData_ #[118] 191 #[.slice (some ⟨g,0,none⟩) 0 cap]).run Tryz.prog w.drew = .ok (.pointer (some ⟨g,0,none⟩)) w.drew:=Lib.run_unsafeSliceData_row _ _ _ _ _ _ hc0;clear hc0;have mixed:Tryz.prog.follows .mixedOrders=true:=by kernel_rfl
 go_enter Tryz.func66,Tryz.ntmps66
 go_wp2
 go_region_o
 all_goals (go_wp2;go_ret;exact⟨rfl,rfl⟩)
set_option maxHeartbeats 2000000 in
set_option maxRecDepth 100000 in
def T6(b g:Nat)(w:World)(vs:List Value)(h:w.cell? ⟨b,1,none⟩=some (.slice (some ⟨g,0,none⟩) 0 0))(hb:b<w.heap.size)(hg:w.heap[g]? = some (.cells ⟨vs⟩ 5 (0,0))):
 Calls Tryz.prog 66 #[.pointer (some ⟨b,0,none⟩)] w λe w'=>e = .returned (.string ⟨#[]⟩)∧w'=(w.drew.alloc (.view ⟨g,0,none⟩ 5)):=by
 have hUS:∀(q:Option Addr) (W:World),(Builtin.unsafeString_ #[191,3] 9 #[.pointer q,.int .i64 0]).run Tryz.prog W = .ok (.string .empty) W:=λq W=>Lib.run_unsafeString_none W _ _ _ q
 have c1:w.drew.cell? ⟨b,1,none⟩=some (.slice (some ⟨g,0,none⟩) 0 0):=h
 have hSD:(Builtin.unsafeSliceData_ #[118] 191 #[.slice (some ⟨g,0,none⟩) 0 0]).run Tryz.prog w.drew = .ok (.pointer (some ⟨w.drew.heap.size,0,none⟩)) (w.drew.alloc (.view ⟨g,0,none⟩ 5)):=
  Lib.run_unsafeSliceData_zero w.drew _ _ 5 Tryz.underlying191 ⟨g,0,none⟩ 0 (5,vs.length) (by have hg':w.drew.heap[g]? = some (.cells ⟨vs⟩ 5 (0,0)):=hg;simp [World.shape?,hg'])
 have c2:(w.drew.alloc (.view ⟨g,0,none⟩ 5)).cell? ⟨b,1,none⟩=some (.slice (some ⟨g,0,none⟩) 0 0):=by
  unfold World.cell? at h ⊢;rw [show(w.drew.alloc (.view ⟨g,0,none⟩ 5)).heap[b]? = w.heap[b]? from Lib.alloc_old w.drew _ b hb];exact h
 have c3:(w.alloc (.view ⟨g,0,none⟩ 5)).drew.cell? ⟨b,1,none⟩=some (.slice (some ⟨g,0,none⟩) 0 0):=c2;have mixed:Tryz.prog.follows .mixedOrders=true:=by kernel_rfl
 go_enter Tryz.func66,Tryz.ntmps66
 go_wp2
 go_region_o
 all_goals (go_wp2;go_ret;exact⟨rfl,rfl⟩)
set_option maxHeartbeats 2000000 in
set_option maxRecDepth 100000 in
def T7(b g cap:Nat)(w:World)(vs:List Value)(l:ano)(h0:l≠[])(h:w.cell? ⟨b,1,none⟩=some (.slice (some ⟨g,0,none⟩) l.length cap))(hg:w.heap[g]? = some (.cells ⟨vs⟩ 5 (0,0)))
 (hn:l.length≤cap) (hcap:cap≤vs.length) (h63:l.length≤9223372036854775807) (hc:∀(j:Nat) (x:UInt8),l[j]? = some x→vs[j]? = some (Value.int .u8 x.toNat)):
 Calls Tryz.prog 66 #[.pointer (some ⟨b,0,none⟩)] w λe w'=>e = .returned (.string ⟨l.toArray⟩)∧w'=w.drew.freeze ⟨g,0,none⟩ l.length:=by
 have hl0:l.length≠0:=by simpa using h0
 have c1:w.drew.cell? ⟨b,1,none⟩=some (.slice (some ⟨g,0,none⟩) l.length cap):=h;have hg':w.drew.heap[g]? = some (.cells ⟨vs⟩ 5 (0,0)):=hg;have hSD:(Builtin.unsafeSliceData_ #[118] 191 #[.slice (some ⟨g,0,none⟩) l.length cap]).run Tryz.prog w.drew = .ok (.pointer (some ⟨g,0,none⟩)) w.drew:=Lib.run_unsafeSliceData_row _ _ _ _ _ _ (by omega)
 have hUS:(Builtin.unsafeString_ #[191,3] 9 #[.pointer (some ⟨g,0,none⟩),.int .i64 l.length]).run Tryz.prog w.drew = .ok (.string ⟨l.toArray⟩) (w.drew.freeze ⟨g,0,none⟩ l.length):=
  Lib.run_unsafeString_row w.drew 191 3 9 5 Tryz.underlying191 cellsByte g vs.length (by simp [World.shape?,hg']) l h0 (by omega) h63 (λj x hx=>by
   have:=hc j x hx
   rw [show(⟨g,0,none⟩:Addr).add j=⟨g,j,none⟩by unfold Addr.add;split<;>simp_all,Go.Ab.cell_of_heap hg',this])
 have mixed:Tryz.prog.follows .mixedOrders=true:=by kernel_rfl
 go_enter Tryz.func66,Tryz.ntmps66
 go_wp2
 go_region_o
 all_goals (go_wp2;go_ret;exact⟨rfl,rfl⟩)
open Go Go.Ab Go.Proofs
abbrev amo(x:Int):V:=.int .i32 x
abbrev adm(x:Int):V:=.int .i64 x
abbrev amp(x:Int):V:=.int .u32 x
abbrev amq(x:Int):V:=.int .u64 x
abbrev cz(x:Int):V:=.int .u8 x
def amr{α β dm:Type}{a:α}{f:α→dm}{g:β→dm}{r:dm}(h:hZ.on (.inl a) f g=r):f a=r:=h
def ams{α β dm:Type}{b:β}{f:α→dm}{g:β→dm}{r:dm}(h:hZ.on (.inr b) f g=r):g b=r:=h
abbrev amt(x:Bool):V:=.bool x
abbrev bN(x:ano):V:=.str x
structure br where
 Kind:Int
 N:Int
 S:ano
instance:Inhabited br:=⟨⟨0,0,([]:ano)⟩⟩
def eB(x:br):V:=.agg [.int .i64 x.Kind,.int .i64 x.N,.str x.S]
structure Version where
 gu:Int
 b2:br
instance:Inhabited Version:=⟨⟨0,(⟨0,0,([]:ano)⟩:br)⟩⟩
def kf(x:Version):V:=.agg [.int .i64 x.gu,.int .i64 x.b2.Kind,.int .i64 x.b2.N,.str x.b2.S]
structure Row where
 Key:ano
 cU:List Version
instance:Inhabited Row:=⟨⟨([]:ano),([]:List Version)⟩⟩
def dz(x:Row):V:=.agg [.str x.Key,ae 4 kf x.cU]
structure aR where
 dn:Int
 dd:Int
 Rows:List Row
instance:Inhabited aR:=⟨⟨0,0,([]:List Row)⟩⟩
def amu(x:aR):V:=.agg [.int .i64 x.dn,.int .i64 x.dd,ae 2 dz x.Rows]
structure Param where
 Name:ano
 fm:Int
instance:Inhabited Param:=⟨⟨([]:ano),0⟩⟩
def eW(x:Param):V:=.agg [.str x.Name,.int .i64 x.fm]
structure Expr where
 Op:Int
 N:Int
 S:ano
 ao:List Expr
instance:Inhabited Expr:=⟨⟨0,0,([]:ano),([]:List Expr)⟩⟩
mutual
def b6:Expr→V
 |⟨Op,N,S,ao⟩=>.agg [.int .i64 Op,.int .i64 N,.str S,.bq 4 ao.length λi=>(A7 ao).getD i .dW]
def A7:List Expr→List V
 |[]=>[]
 |x::l=>b6 x::A7 l
end
def T8:∀l:List Expr,A7 l=l.map b6
 |[]=>rfl
 |x::l=>by rw [A7,T8 l];rfl
def T9(l:List Expr)(i:Nat)(h:i<l.length):(A7 l).getD i .dW=b6 (l.getD i default):=by
 rw [T8];simp [List.getD,List.getElem?_eq_getElem h]
def adn(x:Expr):kG (b6 x).cells [.int .i64 x.Op,.int .i64 x.N,.str x.S,ae 4 b6 x.ao]:=by
 cases x;exact .cons (hL _) (.cons (hL _) (.cons (hL _) (.cons (qi λi hi=>T9 _ i hi) (kG.nil))))
def Fr(x:Expr):kG [.int .i64 x.Op,.int .i64 x.N,.str x.S,ae 4 b6 x.ao] (b6 x).cells:=by
 cases x;exact .cons (hL _) (.cons (hL _) (.cons (hL _) (.cons (qi λi hi=>(T9 _ i hi).symm) (kG.nil))))
def jy(x:Expr):gM (b6 x) (.agg [.int .i64 x.Op,.int .i64 x.N,.str x.S,ae 4 b6 x.ao]):=by
 have h:=adn x;cases x;exact Te h
structure Stmt where
 Op:Int
 Name:ano
 Max:Int
 A:Expr
 B:Expr
 Body:List Stmt
 bx:List Stmt
instance:Inhabited Stmt:=⟨⟨0,([]:ano),0,(⟨0,0,([]:ano),([]:List Expr)⟩:Expr),(⟨0,0,([]:ano),([]:List Expr)⟩:Expr),([]:List Stmt),([]:List Stmt)⟩⟩
mutual
def b8:Stmt→V
 |⟨Op,Name,Max,A,B,Body,bx⟩=>.agg [.int .i64 Op,.str Name,.int .i64 Max,.int .i64 A.Op,.int .i64 A.N,.str A.S,ae 4 b6 A.ao,.int .i64 B.Op,.int .i64 B.N,.str B.S,ae 4 b6 B.ao,.bq 13 Body.length λi=>(xD Body).getD i .dW,.bq 13 bx.length λi=>(xD bx).getD i .dW]
def xD:List Stmt→List V
 |[]=>[]
 |x::l=>b8 x::xD l
end
def T_:∀l:List Stmt,xD l=l.map b8
 |[]=>rfl
 |x::l=>by rw [xD,T_ l];rfl
def Fs(l:List Stmt)(i:Nat)(h:i<l.length):(xD l).getD i .dW=b8 (l.getD i default):=by
 rw [T_];simp [List.getD,List.getElem?_eq_getElem h]
def ado(x:Stmt):kG (b8 x).cells [.int .i64 x.Op,.str x.Name,.int .i64 x.Max,.int .i64 x.A.Op,.int .i64 x.A.N,.str x.A.S,ae 4 b6 x.A.ao,.int .i64 x.B.Op,.int .i64 x.B.N,.str x.B.S,ae 4 b6 x.B.ao,ae 13 b8 x.Body,ae 13 b8 x.bx]:=by
 cases x;exact .cons (hL _) (.cons (hL _) (.cons (hL _) (.cons (hL _) (.cons (hL _) (.cons (hL _) (.cons (hL _) (.cons (hL _) (.cons (hL _) (.cons (hL _) (.cons (hL _) (.cons (qi λi hi=>Fs _ i hi) (.cons (qi λi hi=>Fs _ i hi) (kG.nil)))))))))))))
def adp(x:Stmt):kG [.int .i64 x.Op,.str x.Name,.int .i64 x.Max,.int .i64 x.A.Op,.int .i64 x.A.N,.str x.A.S,ae 4 b6 x.A.ao,.int .i64 x.B.Op,.int .i64 x.B.N,.str x.B.S,ae 4 b6 x.B.ao,ae 13 b8 x.Body,ae 13 b8 x.bx] (b8 x).cells:=by
 cases x;exact .cons (hL _) (.cons (hL _) (.cons (hL _) (.cons (hL _) (.cons (hL _) (.cons (hL _) (.cons (hL _) (.cons (hL _) (.cons (hL _) (.cons (hL _) (.cons (hL _) (.cons (qi λi hi=>(Fs _ i hi).symm) (.cons (qi λi hi=>(Fs _ i hi).symm) (kG.nil)))))))))))))
def s7(x:Stmt):gM (b8 x) (.agg [.int .i64 x.Op,.str x.Name,.int .i64 x.Max,.int .i64 x.A.Op,.int .i64 x.A.N,.str x.A.S,ae 4 b6 x.A.ao,.int .i64 x.B.Op,.int .i64 x.B.N,.str x.B.S,ae 4 b6 x.B.ao,ae 13 b8 x.Body,ae 13 b8 x.bx]):=by
 have h:=ado x;cases x;exact Te h
structure aZ where
 Name:ano
 Params:List Param
 Body:List Stmt
instance:Inhabited aZ:=⟨⟨([]:ano),([]:List Param),([]:List Stmt)⟩⟩
def eF(x:aZ):V:=.agg [.str x.Name,ae 2 eW x.Params,ae 13 b8 x.Body]
structure Outcome where
 Status:Int
 Code:Int
 Out:List br
instance:Inhabited Outcome:=⟨⟨0,0,([]:List br)⟩⟩
def amv(x:Outcome):V:=.agg [.int .i64 x.Status,.int .i64 x.Code,ae 3 eB x.Out]
structure eK where
 Client:Int
 Seq:Int
 Outcome:Outcome
instance:Inhabited eK:=⟨⟨0,0,(⟨0,0,([]:List br)⟩:Outcome)⟩⟩
def ja(x:eK):V:=.agg [.int .i64 x.Client,.int .i64 x.Seq,.int .i64 x.Outcome.Status,.int .i64 x.Outcome.Code,ae 3 eB x.Outcome.Out]
structure bY where
 Client:Int
 Next:Int
 cM:List eK
instance:Inhabited bY:=⟨⟨0,0,([]:List eK)⟩⟩
def d_(x:bY):V:=.agg [.int .i64 x.Client,.int .i64 x.Next,ae 5 ja x.cM]
structure Part where
 Id:Int
 gR:ano
 Node:Int
 iN:Int
 k4:ano
instance:Inhabited Part:=⟨⟨0,([]:ano),0,0,([]:ano)⟩⟩
def dw(x:Part):V:=.agg [.int .i64 x.Id,.str x.gR,.int .i64 x.Node,.int .i64 x.iN,.str x.k4]
structure cD where
 Version:Int
 bb:List Part
instance:Inhabited cD:=⟨⟨0,([]:List Part)⟩⟩
def amw(x:cD):V:=.agg [.int .i64 x.Version,ae 5 dw x.bb]
structure bn where
 Key:ano
 Count:Int
instance:Inhabited bn:=⟨⟨([]:ano),0⟩⟩
def eP(x:bn):V:=.agg [.str x.Key,.int .i64 x.Count]
structure gS where
 fo:Bool
 Reads:List ano
 es:List ano
instance:Inhabited gS:=⟨⟨false,([]:List ano),([]:List ano)⟩⟩
def amx(x:gS):V:=.agg [.bool x.fo,ae 1 bN x.Reads,ae 1 bN x.es]
structure Request where
 Client:Int
 Seq:Int
 aZ:ano
 ao:List br
 fv:Bool
 bW:gS
instance:Inhabited Request:=⟨⟨0,0,([]:ano),([]:List br),false,(⟨false,([]:List ano),([]:List ano)⟩:gS)⟩⟩
def e5(x:Request):V:=.agg [.int .i64 x.Client,.int .i64 x.Seq,.str x.aZ,ae 3 eB x.ao,.bool x.fv,.bool x.bW.fo,ae 1 bN x.bW.Reads,ae 1 bN x.bW.es]
structure cV where
 Pos:Int
 aR:aR
 eh:List aZ
 ea:List bY
 Place:cD
 bn:List bn
 Queue:List Request
 dT:Int
instance:Inhabited cV:=⟨⟨0,(⟨0,0,([]:List Row)⟩:aR),([]:List aZ),([]:List bY),(⟨0,([]:List Part)⟩:cD),([]:List bn),([]:List Request),0⟩⟩
def amy(x:cV):V:=.agg [.int .i64 x.Pos,.int .i64 x.aR.dn,.int .i64 x.aR.dd,ae 2 dz x.aR.Rows,ae 3 eF x.eh,ae 3 d_ x.ea,.int .i64 x.Place.Version,ae 5 dw x.Place.bb,ae 2 eP x.bn,ae 8 e5 x.Queue,.int .u64 x.dT]
structure bC where
 Key:ano
 b2:br
instance:Inhabited bC:=⟨⟨([]:ano),(⟨0,0,([]:ano)⟩:br)⟩⟩
def fD(x:bC):V:=.agg [.str x.Key,.int .i64 x.b2.Kind,.int .i64 x.b2.N,.str x.b2.S]
structure eX where
 s:ano
 at_:Int
 e:Int
instance:Inhabited eX:=⟨⟨([]:ano),0,0⟩⟩
def amz(x:eX):V:=.agg [.str x.s,.int .i64 x.at_,.int .i64 x.e]
structure oH where
 fL:cV
 LR:List bC
 sources:List ano
instance:Inhabited oH:=⟨⟨(⟨0,(⟨0,0,([]:List Row)⟩:aR),([]:List aZ),([]:List bY),(⟨0,([]:List Part)⟩:cD),([]:List bn),([]:List Request),0⟩:cV),([]:List bC),([]:List ano)⟩⟩
def amA(x:oH):V:=.agg [.int .i64 x.fL.Pos,.int .i64 x.fL.aR.dn,.int .i64 x.fL.aR.dd,ae 2 dz x.fL.aR.Rows,ae 3 eF x.fL.eh,ae 3 d_ x.fL.ea,.int .i64 x.fL.Place.Version,ae 5 dw x.fL.Place.bb,ae 2 eP x.fL.bn,ae 8 e5 x.fL.Queue,.int .u64 x.fL.dT,ae 4 fD x.LR,ae 1 bN x.sources]
structure Token where
 Kind:Int
 Text:ano
 N:Int
 lX:Int
instance:Inhabited Token:=⟨⟨0,([]:ano),0,0⟩⟩
def cA(x:Token):V:=.agg [.int .i64 x.Kind,.str x.Text,.int .i64 x.N,.int .i64 x.lX]
structure Ua where
 adq:Int
 seq:Int
instance:Inhabited Ua:=⟨⟨0,0⟩⟩
def amB(x:Ua):V:=.agg [.int .i64 x.adq,.int .i64 x.seq]
structure c' where
 pz:Bool
 Stmt:Stmt
 A8:Int
 Expr:Expr
 adr:Bool
instance:Inhabited c':=⟨⟨false,(⟨0,([]:ano),0,(⟨0,0,([]:ano),([]:List Expr)⟩:Expr),(⟨0,0,([]:ano),([]:List Expr)⟩:Expr),([]:List Stmt),([]:List Stmt)⟩:Stmt),0,(⟨0,0,([]:ano),([]:List Expr)⟩:Expr),false⟩⟩
def ads(x:c'):V:=.agg [.bool x.pz,.int .i64 x.Stmt.Op,.str x.Stmt.Name,.int .i64 x.Stmt.Max,.int .i64 x.Stmt.A.Op,.int .i64 x.Stmt.A.N,.str x.Stmt.A.S,ae 4 b6 x.Stmt.A.ao,.int .i64 x.Stmt.B.Op,.int .i64 x.Stmt.B.N,.str x.Stmt.B.S,ae 4 b6 x.Stmt.B.ao,ae 13 b8 x.Stmt.Body,ae 13 b8 x.Stmt.bx,.int .i64 x.A8,.int .i64 x.Expr.Op,.int .i64 x.Expr.N,.str x.Expr.S,ae 4 b6 x.Expr.ao,.bool x.adr]
structure aJ where
 tokens:List Token
 at_:Int
instance:Inhabited aJ:=⟨⟨([]:List Token),0⟩⟩
def amC(x:aJ):V:=.agg [ae 4 cA x.tokens,.int .i64 x.at_]
structure Ub where
 line:Int
 code:Int
instance:Inhabited Ub:=⟨⟨0,0⟩⟩
def amD(x:Ub):V:=.agg [.int .i64 x.line,.int .i64 x.code]
structure kI where
 s:ano
 at_:Int
 e:Int
instance:Inhabited kI:=⟨⟨([]:ano),0,0⟩⟩
def amE(x:kI):V:=.agg [.str x.s,.int .i64 x.at_,.int .i64 x.e]
structure oI where
 s:ano
 at_:Int
 e:Int
instance:Inhabited oI:=⟨⟨([]:ano),0,0⟩⟩
def amF(x:oI):V:=.agg [.str x.s,.int .i64 x.at_,.int .i64 x.e]
structure kJ where
 name:Bool
 a:Bool
 b:Bool
 max:Bool
 body:Bool
 other:Bool
instance:Inhabited kJ:=⟨⟨false,false,false,false,false,false⟩⟩
def amG(x:kJ):V:=.agg [.bool x.name,.bool x.a,.bool x.b,.bool x.max,.bool x.body,.bool x.other]
structure hy where
 s:ano
 at_:Int
 e:Int
instance:Inhabited hy:=⟨⟨([]:ano),0,0⟩⟩
def amH(x:hy):V:=.agg [.str x.s,.int .i64 x.at_,.int .i64 x.e]
def tt:dq:=[
 (1,⟨.aS,1,8,[.aI],[]⟩),
 (2,⟨.int .i64,1,8,[.int .i64 0],[]⟩),
 (3,⟨.int .i64,1,8,[.int .i64 0],[]⟩),
 (4,⟨.bool,1,1,[.bool false],[]⟩),
 (5,⟨.int .u8,1,1,[.int .u8 0],[]⟩),
 (6,⟨.int .u8,1,1,[.int .u8 0],[]⟩),
 (7,⟨.bT [(0,2,1),(1,3,1),(2,4,1),(3,6,1)],4,24,[.int .i64 0,.int .i64 0,.bool false,.int .u8 0],[]⟩),
 (8,⟨.bT [(0,2,1),(1,3,1),(2,4,1),(3,6,1)],4,24,[.int .i64 0,.int .i64 0,.bool false,.int .u8 0],[]⟩),
 (9,⟨.str,1,16,[.str ([]:ano)],[]⟩),
 (10,⟨.str,1,16,[.str ([]:ano)],[]⟩),
 (11,⟨.str,1,16,[.str ([]:ano)],[]⟩),
 (12,⟨.int .u64,1,8,[.int .u64 0],[]⟩),
 (13,⟨.bT [(0,9,1),(1,12,1)],2,24,[.str ([]:ano),.int .u64 0],[]⟩),
 (14,⟨.bT [(0,9,1),(1,12,1)],2,24,[.str ([]:ano),.int .u64 0],[]⟩),
 (15,⟨.ptr,1,8,[.dW],[]⟩),
 (16,⟨.ptr,1,8,[.dW],[]⟩),
 (17,⟨.ptr,1,8,[.dW],[]⟩),
 (18,⟨.bT [(0,17,1)],1,8,[.dW],[]⟩),
 (19,⟨.bT [(0,17,1)],1,8,[.dW],[]⟩),
 (20,⟨.oo,1,16,[.h9],[]⟩),
 (21,⟨.int .i32,1,4,[.int .i32 0],[]⟩),
 (22,⟨.bq 68,1,24,[ae 2 dz ([]:List Row)],[]⟩),
 (23,⟨.bT [(0,2,1),(1,2,1),(2,22,1)],3,40,[.int .i64 0,.int .i64 0,ae 2 dz ([]:List Row)],[]⟩),
 (24,⟨.bT [(0,2,1),(1,2,1),(2,22,1)],3,40,[.int .i64 0,.int .i64 0,ae 2 dz ([]:List Row)],[]⟩),
 (25,⟨.bq 52,1,24,[ae 3 eF ([]:List aZ)],[]⟩),
 (26,⟨.bq 101,1,24,[ae 3 d_ ([]:List bY)],[]⟩),
 (27,⟨.bq 61,1,24,[ae 5 dw ([]:List Part)],[]⟩),
 (28,⟨.bT [(0,2,1),(1,27,1)],2,32,[.int .i64 0,ae 5 dw ([]:List Part)],[]⟩),
 (29,⟨.bT [(0,2,1),(1,27,1)],2,32,[.int .i64 0,ae 5 dw ([]:List Part)],[]⟩),
 (30,⟨.bq 107,1,24,[ae 2 eP ([]:List bn)],[]⟩),
 (31,⟨.bq 59,1,24,[ae 8 e5 ([]:List Request)],[]⟩),
 (32,⟨.int .u64,1,8,[.int .u64 0],[]⟩),
 (33,⟨.bT [(0,2,1),(1,24,3),(4,25,1),(5,26,1),(6,29,2),(8,30,1),(9,31,1),(10,32,1)],11,184,[.int .i64 0,.int .i64 0,.int .i64 0,ae 2 dz ([]:List Row),ae 3 eF ([]:List aZ),ae 3 d_ ([]:List bY),.int .i64 0,ae 5 dw ([]:List Part),ae 2 eP ([]:List bn),ae 8 e5 ([]:List Request),.int .u64 0],[]⟩),
 (34,⟨.bT [(0,2,1),(1,24,3),(4,25,1),(5,26,1),(6,29,2),(8,30,1),(9,31,1),(10,32,1)],11,184,[.int .i64 0,.int .i64 0,.int .i64 0,ae 2 dz ([]:List Row),ae 3 eF ([]:List aZ),ae 3 d_ ([]:List bY),.int .i64 0,ae 5 dw ([]:List Part),ae 2 eP ([]:List bn),ae 8 e5 ([]:List Request),.int .u64 0],[]⟩),
 (35,⟨.aS,1,8,[.aI],[]⟩),
 (36,⟨.aS,1,8,[.aI],[]⟩),
 (37,⟨.int .i64,1,8,[.int .i64 0],[]⟩),
 (39,⟨.aS,1,8,[.aI],[]⟩),
 (41,⟨.aS,1,8,[.aI],[]⟩),
 (42,⟨.aS,1,8,[.aI],[]⟩),
 (43,⟨.aS,1,8,[.aI],[]⟩),
 (44,⟨.aS,1,8,[.aI],[]⟩),
 (45,⟨.aS,1,8,[.aI],[]⟩),
 (46,⟨.aS,1,8,[.aI],[]⟩),
 (47,⟨.aS,1,8,[.aI],[]⟩),
 (48,⟨.aS,1,8,[.aI],[]⟩),
 (49,⟨.bq 109,1,24,[ae 2 eW ([]:List Param)],[]⟩),
 (50,⟨.bq 167,1,24,[ae 13 b8 ([]:List Stmt)],[]⟩),
 (51,⟨.bT [(0,9,1),(1,49,1),(2,50,1)],3,64,[.str ([]:ano),ae 2 eW ([]:List Param),ae 13 b8 ([]:List Stmt)],[]⟩),
 (52,⟨.bT [(0,9,1),(1,49,1),(2,50,1)],3,64,[.str ([]:ano),ae 2 eW ([]:List Param),ae 13 b8 ([]:List Stmt)],[]⟩),
 (53,⟨.aS,1,8,[.aI],[]⟩),
 (54,⟨.bq 63,1,24,[ae 3 eB ([]:List br)],[]⟩),
 (55,⟨.bq 9,1,24,[ae 1 bN ([]:List ano)],[]⟩),
 (56,⟨.bT [(0,4,1),(1,55,1),(2,55,1)],3,56,[.bool false,ae 1 bN ([]:List ano),ae 1 bN ([]:List ano)],[]⟩),
 (57,⟨.bT [(0,4,1),(1,55,1),(2,55,1)],3,56,[.bool false,ae 1 bN ([]:List ano),ae 1 bN ([]:List ano)],[]⟩),
 (58,⟨.bT [(0,3,1),(1,2,1),(2,9,1),(3,54,1),(4,4,1),(5,57,3)],8,120,[.int .i64 0,.int .i64 0,.str ([]:ano),ae 3 eB ([]:List br),.bool false,.bool false,ae 1 bN ([]:List ano),ae 1 bN ([]:List ano)],[]⟩),
 (59,⟨.bT [(0,3,1),(1,2,1),(2,9,1),(3,54,1),(4,4,1),(5,57,3)],8,120,[.int .i64 0,.int .i64 0,.str ([]:ano),ae 3 eB ([]:List br),.bool false,.bool false,ae 1 bN ([]:List ano),ae 1 bN ([]:List ano)],[]⟩),
 (60,⟨.bT [(0,3,1),(1,9,1),(2,3,1),(3,3,1),(4,9,1)],5,56,[.int .i64 0,.str ([]:ano),.int .i64 0,.int .i64 0,.str ([]:ano)],[]⟩),
 (61,⟨.bT [(0,3,1),(1,9,1),(2,3,1),(3,3,1),(4,9,1)],5,56,[.int .i64 0,.str ([]:ano),.int .i64 0,.int .i64 0,.str ([]:ano)],[]⟩),
 (62,⟨.bT [(0,3,1),(1,2,1),(2,9,1)],3,32,[.int .i64 0,.int .i64 0,.str ([]:ano)],[]⟩),
 (63,⟨.bT [(0,3,1),(1,2,1),(2,9,1)],3,32,[.int .i64 0,.int .i64 0,.str ([]:ano)],[]⟩),
 (64,⟨.bT [(0,2,1),(1,63,3)],4,40,[.int .i64 0,.int .i64 0,.int .i64 0,.str ([]:ano)],[]⟩),
 (65,⟨.bT [(0,2,1),(1,63,3)],4,40,[.int .i64 0,.int .i64 0,.int .i64 0,.str ([]:ano)],[]⟩),
 (66,⟨.bq 65,1,24,[ae 4 kf ([]:List Version)],[]⟩),
 (67,⟨.bT [(0,9,1),(1,66,1)],2,40,[.str ([]:ano),ae 4 kf ([]:List Version)],[]⟩),
 (68,⟨.bT [(0,9,1),(1,66,1)],2,40,[.str ([]:ano),ae 4 kf ([]:List Version)],[]⟩),
 (69,⟨.aS,1,8,[.aI],[]⟩),
 (71,⟨.aS,1,8,[.aI],[]⟩),
 (72,⟨.bq 149,1,24,[ae 4 fD ([]:List bC)],[]⟩),
 (74,⟨.aS,1,8,[.aI],[]⟩),
 (76,⟨.aS,1,8,[.aI],[]⟩),
 (78,⟨.aS,1,8,[.aI],[]⟩),
 (80,⟨.aS,1,8,[.aI],[]⟩),
 (82,⟨.aS,1,8,[.aI],[]⟩),
 (84,⟨.aS,1,8,[.aI],[]⟩),
 (86,⟨.aS,1,8,[.aI],[]⟩),
 (88,⟨.aS,1,8,[.aI],[]⟩),
 (90,⟨.aS,1,8,[.aI],[]⟩),
 (91,⟨.aS,1,8,[.aI],[]⟩),
 (92,⟨.aS,1,8,[.aI],[]⟩),
 (93,⟨.aS,1,8,[.aI],[]⟩),
 (94,⟨.aS,1,8,[.aI],[]⟩),
 (95,⟨.aS,1,8,[.aI],[]⟩),
 (96,⟨.aS,1,8,[.aI],[]⟩),
 (98,⟨.aS,1,8,[.aI],[]⟩),
 (99,⟨.bq 105,1,24,[ae 5 ja ([]:List eK)],[]⟩),
 (100,⟨.bT [(0,3,1),(1,2,1),(2,99,1)],3,40,[.int .i64 0,.int .i64 0,ae 5 ja ([]:List eK)],[]⟩),
 (101,⟨.bT [(0,3,1),(1,2,1),(2,99,1)],3,40,[.int .i64 0,.int .i64 0,ae 5 ja ([]:List eK)],[]⟩),
 (102,⟨.bT [(0,3,1),(1,3,1),(2,54,1)],3,40,[.int .i64 0,.int .i64 0,ae 3 eB ([]:List br)],[]⟩),
 (103,⟨.bT [(0,3,1),(1,3,1),(2,54,1)],3,40,[.int .i64 0,.int .i64 0,ae 3 eB ([]:List br)],[]⟩),
 (104,⟨.bT [(0,3,1),(1,2,1),(2,103,3)],5,56,[.int .i64 0,.int .i64 0,.int .i64 0,.int .i64 0,ae 3 eB ([]:List br)],[]⟩),
 (105,⟨.bT [(0,3,1),(1,2,1),(2,103,3)],5,56,[.int .i64 0,.int .i64 0,.int .i64 0,.int .i64 0,ae 3 eB ([]:List br)],[]⟩),
 (106,⟨.bT [(0,9,1),(1,2,1)],2,24,[.str ([]:ano),.int .i64 0],[]⟩),
 (107,⟨.bT [(0,9,1),(1,2,1)],2,24,[.str ([]:ano),.int .i64 0],[]⟩),
 (108,⟨.bT [(0,9,1),(1,3,1)],2,24,[.str ([]:ano),.int .i64 0],[]⟩),
 (109,⟨.bT [(0,9,1),(1,3,1)],2,24,[.str ([]:ano),.int .i64 0],[]⟩),
 (110,⟨.aS,1,8,[.aI],[]⟩),
 (111,⟨.aS,1,8,[.aI],[]⟩),
 (112,⟨.aS,1,8,[.aI],[]⟩),
 (113,⟨.aS,1,8,[.aI],[]⟩),
 (114,⟨.aS,1,8,[.aI],[]⟩),
 (115,⟨.aS,1,8,[.aI],[]⟩),
 (116,⟨.aS,1,8,[.aI],[]⟩),
 (117,⟨.ptr,1,8,[.dW],[]⟩),
 (118,⟨.bq 5,1,24,[ae 1 cz ([]:List Int)],[]⟩),
 (119,⟨.bT [(0,117,1),(1,118,1)],2,32,[.dW,ae 1 cz ([]:List Int)],[]⟩),
 (120,⟨.bT [(0,117,1),(1,118,1)],2,32,[.dW,ae 1 cz ([]:List Int)],[(0,120)]⟩),
 (121,⟨.oo,1,16,[.h9],[]⟩),
 (122,⟨.oo,1,16,[.h9],[]⟩),
 (124,⟨.aS,1,8,[.aI],[]⟩),
 (125,⟨.aS,1,8,[.aI],[]⟩),
 (126,⟨.aS,1,8,[.aI],[]⟩),
 (127,⟨.aS,1,8,[.aI],[]⟩),
 (128,⟨.aS,1,8,[.aI],[]⟩),
 (129,⟨.aS,1,8,[.aI],[]⟩),
 (130,⟨.aS,1,8,[.aI],[]⟩),
 (131,⟨.aS,1,8,[.aI],[]⟩),
 (132,⟨.aS,1,8,[.aI],[]⟩),
 (133,⟨.aS,1,8,[.aI],[]⟩),
 (134,⟨.aS,1,8,[.aI],[]⟩),
 (135,⟨.ptr,1,8,[.dW],[]⟩),
 (136,⟨.bT [(0,9,1),(1,3,1),(2,37,1)],3,32,[.str ([]:ano),.int .i64 0,.int .i64 0],[]⟩),
 (137,⟨.bT [(0,9,1),(1,3,1),(2,37,1)],3,32,[.str ([]:ano),.int .i64 0,.int .i64 0],[]⟩),
 (138,⟨.bT [(0,34,11),(11,72,1),(12,55,1)],13,232,[.int .i64 0,.int .i64 0,.int .i64 0,ae 2 dz ([]:List Row),ae 3 eF ([]:List aZ),ae 3 d_ ([]:List bY),.int .i64 0,ae 5 dw ([]:List Part),ae 2 eP ([]:List bn),ae 8 e5 ([]:List Request),.int .u64 0,ae 4 fD ([]:List bC),ae 1 bN ([]:List ano)],[]⟩),
 (139,⟨.bT [(0,34,11),(11,72,1),(12,55,1)],13,232,[.int .i64 0,.int .i64 0,.int .i64 0,ae 2 dz ([]:List Row),ae 3 eF ([]:List aZ),ae 3 d_ ([]:List bY),.int .i64 0,ae 5 dw ([]:List Part),ae 2 eP ([]:List bn),ae 8 e5 ([]:List Request),.int .u64 0,ae 4 fD ([]:List bC),ae 1 bN ([]:List ano)],[]⟩),
 (140,⟨.aS,1,8,[.aI],[]⟩),
 (141,⟨.aS,1,8,[.aI],[]⟩),
 (143,⟨.aS,1,8,[.aI],[]⟩),
 (145,⟨.aS,1,8,[.aI],[]⟩),
 (147,⟨.aS,1,8,[.aI],[]⟩),
 (148,⟨.bT [(0,9,1),(1,63,3)],4,48,[.str ([]:ano),.int .i64 0,.int .i64 0,.str ([]:ano)],[]⟩),
 (149,⟨.bT [(0,9,1),(1,63,3)],4,48,[.str ([]:ano),.int .i64 0,.int .i64 0,.str ([]:ano)],[]⟩),
 (150,⟨.aS,1,8,[.aI],[]⟩),
 (152,⟨.aS,1,8,[.aI],[]⟩),
 (154,⟨.aS,1,8,[.aI],[]⟩),
 (156,⟨.aS,1,8,[.aI],[]⟩),
 (158,⟨.aS,1,8,[.aI],[]⟩),
 (159,⟨.aS,1,8,[.aI],[]⟩),
 (160,⟨.aS,1,8,[.aI],[]⟩),
 (161,⟨.aS,1,8,[.aI],[]⟩),
 (162,⟨.aS,1,8,[.aI],[]⟩),
 (163,⟨.bq 165,1,24,[ae 4 b6 ([]:List Expr)],[]⟩),
 (164,⟨.bT [(0,3,1),(1,2,1),(2,9,1),(3,163,1)],4,56,[.int .i64 0,.int .i64 0,.str ([]:ano),ae 4 b6 ([]:List Expr)],[]⟩),
 (165,⟨.bT [(0,3,1),(1,2,1),(2,9,1),(3,163,1)],4,56,[.int .i64 0,.int .i64 0,.str ([]:ano),ae 4 b6 ([]:List Expr)],[]⟩),
 (166,⟨.bT [(0,3,1),(1,9,1),(2,3,1),(3,165,4),(7,165,4),(11,50,1),(12,50,1)],13,192,[.int .i64 0,.str ([]:ano),.int .i64 0,.int .i64 0,.int .i64 0,.str ([]:ano),ae 4 b6 ([]:List Expr),.int .i64 0,.int .i64 0,.str ([]:ano),ae 4 b6 ([]:List Expr),ae 13 b8 ([]:List Stmt),ae 13 b8 ([]:List Stmt)],[]⟩),
 (167,⟨.bT [(0,3,1),(1,9,1),(2,3,1),(3,165,4),(7,165,4),(11,50,1),(12,50,1)],13,192,[.int .i64 0,.str ([]:ano),.int .i64 0,.int .i64 0,.int .i64 0,.str ([]:ano),ae 4 b6 ([]:List Expr),.int .i64 0,.int .i64 0,.str ([]:ano),ae 4 b6 ([]:List Expr),ae 13 b8 ([]:List Stmt),ae 13 b8 ([]:List Stmt)],[]⟩),
 (168,⟨.aS,1,8,[.aI],[]⟩),
 (169,⟨.aS,1,8,[.aI],[]⟩),
 (170,⟨.aS,1,8,[.aI],[]⟩),
 (171,⟨.aS,1,8,[.aI],[]⟩),
 (172,⟨.aS,1,8,[.aI],[]⟩),
 (173,⟨.aS,1,8,[.aI],[]⟩),
 (174,⟨.aS,1,8,[.aI],[]⟩),
 (175,⟨.aS,1,8,[.aI],[]⟩),
 (176,⟨.aS,1,8,[.aI],[]⟩),
 (177,⟨.aS,1,8,[.aI],[]⟩),
 (178,⟨.aS,1,8,[.aI],[]⟩),
 (179,⟨.int .u64,1,8,[.int .u64 0],[]⟩),
 (180,⟨.aS,1,8,[.aI],[]⟩),
 (181,⟨.aS,1,8,[.aI],[]⟩),
 (182,⟨.aS,1,8,[.aI],[]⟩),
 (183,⟨.aS,1,8,[.aI],[]⟩),
 (184,⟨.ptr,1,8,[.dW],[]⟩),
 (185,⟨.bT [(0,120,2),(2,3,1)],3,40,[.dW,ae 1 cz ([]:List Int),.int .i64 0],[(0,120)]⟩),
 (186,⟨.bT [(0,120,2),(2,3,1)],3,40,[.dW,ae 1 cz ([]:List Int),.int .i64 0],[(0,120)]⟩),
 (187,⟨.aS,1,8,[.aI],[]⟩),
 (188,⟨.aS,1,8,[.aI],[]⟩),
 (189,⟨.aS,1,8,[.aI],[]⟩),
 (190,⟨.aS,1,8,[.aI],[]⟩),
 (191,⟨.ptr,1,8,[.dW],[]⟩),
 (192,⟨.aS,1,8,[.aI],[]⟩),
 (193,⟨.aS,1,8,[.aI],[]⟩),
 (194,⟨.aS,1,8,[.aI],[]⟩),
 (195,⟨.aS,1,8,[.aI],[]⟩),
 (196,⟨.bT [(0,71,1)],1,8,[.aI],[]⟩),
 (197,⟨.bT [(0,71,1)],1,8,[.aI],[]⟩),
 (198,⟨.aS,1,8,[.aI],[]⟩),
 (199,⟨.bT [(0,74,1)],1,8,[.aI],[]⟩),
 (200,⟨.bT [(0,74,1)],1,8,[.aI],[]⟩),
 (201,⟨.aS,1,8,[.aI],[]⟩),
 (202,⟨.aS,1,8,[.aI],[]⟩),
 (203,⟨.bT [(0,202,1)],1,8,[.aI],[]⟩),
 (204,⟨.bT [(0,202,1)],1,8,[.aI],[]⟩),
 (205,⟨.aS,1,8,[.aI],[]⟩),
 (206,⟨.aS,1,8,[.aI],[]⟩),
 (207,⟨.aS,1,8,[.aI],[]⟩),
 (208,⟨.bT [(0,207,1)],1,8,[.aI],[]⟩),
 (209,⟨.bT [(0,207,1)],1,8,[.aI],[]⟩),
 (210,⟨.aS,1,8,[.aI],[]⟩),
 (211,⟨.aS,1,8,[.aI],[]⟩),
 (212,⟨.bT [(0,78,1)],1,8,[.aI],[]⟩),
 (213,⟨.bT [(0,78,1)],1,8,[.aI],[]⟩),
 (214,⟨.aS,1,8,[.aI],[]⟩),
 (215,⟨.bT [(0,80,1)],1,8,[.aI],[]⟩),
 (216,⟨.bT [(0,80,1)],1,8,[.aI],[]⟩),
 (217,⟨.aS,1,8,[.aI],[]⟩),
 (218,⟨.bT [(0,84,1)],1,8,[.aI],[]⟩),
 (219,⟨.bT [(0,84,1)],1,8,[.aI],[]⟩),
 (220,⟨.aS,1,8,[.aI],[]⟩),
 (221,⟨.bT [(0,86,1)],1,8,[.aI],[]⟩),
 (222,⟨.bT [(0,86,1)],1,8,[.aI],[]⟩),
 (223,⟨.aS,1,8,[.aI],[]⟩),
 (224,⟨.aS,1,8,[.aI],[]⟩),
 (225,⟨.aS,1,8,[.aI],[]⟩),
 (226,⟨.aS,1,8,[.aI],[]⟩),
 (228,⟨.aS,1,8,[.aI],[]⟩),
 (230,⟨.aS,1,8,[.aI],[]⟩),
 (232,⟨.aS,1,8,[.aI],[]⟩),
 (234,⟨.aS,1,8,[.aI],[]⟩),
 (235,⟨.bq 292,1,24,[ae 4 cA ([]:List Token)],[]⟩),
 (237,⟨.aS,1,8,[.aI],[]⟩),
 (238,⟨.aS,1,8,[.aI],[]⟩),
 (239,⟨.aS,1,8,[.aI],[]⟩),
 (240,⟨.aS,1,8,[.aI],[]⟩),
 (241,⟨.aS,1,8,[.aI],[]⟩),
 (242,⟨.aS,1,8,[.aI],[]⟩),
 (243,⟨.aS,1,8,[.aI],[]⟩),
 (244,⟨.aS,1,8,[.aI],[]⟩),
 (245,⟨.aS,1,8,[.aI],[]⟩),
 (246,⟨.aS,1,8,[.aI],[]⟩),
 (247,⟨.aS,1,8,[.aI],[]⟩),
 (248,⟨.aS,1,8,[.aI],[]⟩),
 (249,⟨.aS,1,8,[.aI],[]⟩),
 (250,⟨.bT [(0,3,1),(1,2,1)],2,16,[.int .i64 0,.int .i64 0],[]⟩),
 (251,⟨.bT [(0,3,1),(1,2,1)],2,16,[.int .i64 0,.int .i64 0],[]⟩),
 (252,⟨.aS,1,8,[.aI],[]⟩),
 (253,⟨.aS,1,8,[.aI],[]⟩),
 (254,⟨.aS,1,8,[.aI],[]⟩),
 (255,⟨.aS,1,8,[.aI],[]⟩),
 (257,⟨.aS,1,8,[.aI],[]⟩),
 (258,⟨.aS,1,8,[.aI],[]⟩),
 (259,⟨.aS,1,8,[.aI],[]⟩),
 (260,⟨.aS,1,8,[.aI],[]⟩),
 (261,⟨.aS,1,8,[.aI],[]⟩),
 (262,⟨.aS,1,8,[.aI],[]⟩),
 (263,⟨.aS,1,8,[.aI],[]⟩),
 (264,⟨.aS,1,8,[.aI],[]⟩),
 (265,⟨.aS,1,8,[.aI],[]⟩),
 (266,⟨.aS,1,8,[.aI],[]⟩),
 (267,⟨.aS,1,8,[.aI],[]⟩),
 (268,⟨.aS,1,8,[.aI],[]⟩),
 (269,⟨.bq 272,1,24,[ae 20 ads ([]:List c')],[]⟩),
 (270,⟨.aS,1,8,[.aI],[]⟩),
 (271,⟨.bT [(0,4,1),(1,167,13),(14,3,1),(15,165,4),(19,4,1)],20,272,[.bool false,.int .i64 0,.str ([]:ano),.int .i64 0,.int .i64 0,.int .i64 0,.str ([]:ano),ae 4 b6 ([]:List Expr),.int .i64 0,.int .i64 0,.str ([]:ano),ae 4 b6 ([]:List Expr),ae 13 b8 ([]:List Stmt),ae 13 b8 ([]:List Stmt),.int .i64 0,.int .i64 0,.int .i64 0,.str ([]:ano),ae 4 b6 ([]:List Expr),.bool false],[]⟩),
 (272,⟨.bT [(0,4,1),(1,167,13),(14,3,1),(15,165,4),(19,4,1)],20,272,[.bool false,.int .i64 0,.str ([]:ano),.int .i64 0,.int .i64 0,.int .i64 0,.str ([]:ano),ae 4 b6 ([]:List Expr),.int .i64 0,.int .i64 0,.str ([]:ano),ae 4 b6 ([]:List Expr),ae 13 b8 ([]:List Stmt),ae 13 b8 ([]:List Stmt),.int .i64 0,.int .i64 0,.int .i64 0,.str ([]:ano),ae 4 b6 ([]:List Expr),.bool false],[]⟩),
 (273,⟨.aS,1,8,[.aI],[]⟩),
 (274,⟨.ptr,1,8,[.dW],[]⟩),
 (275,⟨.bT [(0,9,1),(1,3,1),(2,37,1)],3,32,[.str ([]:ano),.int .i64 0,.int .i64 0],[]⟩),
 (276,⟨.bT [(0,9,1),(1,3,1),(2,37,1)],3,32,[.str ([]:ano),.int .i64 0,.int .i64 0],[]⟩),
 (277,⟨.aS,1,8,[.aI],[]⟩),
 (278,⟨.ptr,1,8,[.dW],[]⟩),
 (279,⟨.bT [(0,9,1),(1,3,1),(2,37,1)],3,32,[.str ([]:ano),.int .i64 0,.int .i64 0],[]⟩),
 (280,⟨.bT [(0,9,1),(1,3,1),(2,37,1)],3,32,[.str ([]:ano),.int .i64 0,.int .i64 0],[]⟩),
 (281,⟨.aS,1,8,[.aI],[]⟩),
 (282,⟨.aS,1,8,[.aI],[]⟩),
 (284,⟨.aS,1,8,[.aI],[]⟩),
 (285,⟨.ptr,1,8,[.dW],[]⟩),
 (286,⟨.aS,1,8,[.aI],[]⟩),
 (287,⟨.aS,1,8,[.aI],[]⟩),
 (288,⟨.aS,1,8,[.aI],[]⟩),
 (289,⟨.aS,1,8,[.aI],[]⟩),
 (290,⟨.aS,1,8,[.aI],[]⟩),
 (291,⟨.bT [(0,3,1),(1,9,1),(2,2,1),(3,3,1)],4,40,[.int .i64 0,.str ([]:ano),.int .i64 0,.int .i64 0],[]⟩),
 (292,⟨.bT [(0,3,1),(1,9,1),(2,2,1),(3,3,1)],4,40,[.int .i64 0,.str ([]:ano),.int .i64 0,.int .i64 0],[]⟩),
 (294,⟨.aS,1,8,[.aI],[]⟩),
 (295,⟨.aS,1,8,[.aI],[]⟩),
 (296,⟨.aS,1,8,[.aI],[]⟩),
 (298,⟨.aS,1,8,[.aI],[]⟩),
 (300,⟨.aS,1,8,[.aI],[]⟩),
 (301,⟨.aS,1,8,[.aI],[]⟩),
 (302,⟨.aS,1,8,[.aI],[]⟩),
 (303,⟨.aS,1,8,[.aI],[]⟩),
 (304,⟨.aS,1,8,[.aI],[]⟩),
 (305,⟨.ptr,1,8,[.dW],[]⟩),
 (306,⟨.bT [(0,3,1),(1,261,1),(2,262,1)],3,24,[.int .i64 0,.aI,.aI],[]⟩),
 (307,⟨.bT [(0,3,1),(1,261,1),(2,262,1)],3,24,[.int .i64 0,.aI,.aI],[]⟩),
 (308,⟨.aS,1,8,[.aI],[]⟩),
 (309,⟨.bT [(0,4,1),(1,4,1),(2,4,1),(3,4,1),(4,4,1),(5,4,1)],6,6,[.bool false,.bool false,.bool false,.bool false,.bool false,.bool false],[]⟩),
 (310,⟨.bT [(0,4,1),(1,4,1),(2,4,1),(3,4,1),(4,4,1),(5,4,1)],6,6,[.bool false,.bool false,.bool false,.bool false,.bool false,.bool false],[]⟩),
 (312,⟨.aS,1,8,[.aI],[]⟩),
 (313,⟨.aS,1,8,[.aI],[]⟩),
 (314,⟨.aS,1,8,[.aI],[]⟩),
 (315,⟨.aS,1,8,[.aI],[]⟩),
 (316,⟨.aS,1,8,[.aI],[]⟩),
 (317,⟨.aS,1,8,[.aI],[]⟩),
 (319,⟨.aS,1,8,[.aI],[]⟩),
 (320,⟨.aS,1,8,[.aI],[]⟩),
 (321,⟨.aS,1,8,[.aI],[]⟩),
 (322,⟨.aS,1,8,[.aI],[]⟩),
 (323,⟨.aS,1,8,[.aI],[]⟩),
 (324,⟨.ptr,1,8,[.dW],[]⟩),
 (325,⟨.bT [(0,9,1),(1,3,1),(2,37,1)],3,32,[.str ([]:ano),.int .i64 0,.int .i64 0],[]⟩),
 (326,⟨.bT [(0,9,1),(1,3,1),(2,37,1)],3,32,[.str ([]:ano),.int .i64 0,.int .i64 0],[]⟩),
 (327,⟨.aS,1,8,[.aI],[]⟩),
 (328,⟨.aS,1,8,[.aI],[]⟩),
 (329,⟨.aS,1,8,[.aI],[]⟩),
 (330,⟨.aS,1,8,[.aI],[]⟩),
 (331,⟨.bT [(0,3,1),(1,37,1)],2,16,[.int .i64 0,.int .i64 0],[]⟩),
 (332,⟨.bT [(0,3,1),(1,37,1)],2,16,[.int .i64 0,.int .i64 0],[]⟩),
 (334,⟨.bT [(0,235,1),(1,3,1)],2,32,[ae 4 cA ([]:List Token),.int .i64 0],[]⟩),
 (335,⟨.bT [(0,235,1),(1,3,1)],2,32,[ae 4 cA ([]:List Token),.int .i64 0],[]⟩),
 (336,⟨.aS,1,8,[.aI],[]⟩),
 (337,⟨.aS,1,8,[.aI],[]⟩),
 (338,⟨.aS,1,8,[.aI],[]⟩),
 (339,⟨.aS,1,8,[.aI],[]⟩),
 (340,⟨.aS,1,8,[.aI],[]⟩),
 (341,⟨.aS,1,8,[.aI],[]⟩),
 (343,⟨.aS,1,8,[.aI],[]⟩),
 (344,⟨.aS,1,8,[.aI],[]⟩),
 (345,⟨.aS,1,8,[.aI],[]⟩),
 (347,⟨.aS,1,8,[.aI],[]⟩),
 (348,⟨.aS,1,8,[.aI],[]⟩),
 (349,⟨.aS,1,8,[.aI],[]⟩),
 (350,⟨.aS,1,8,[.aI],[]⟩),
 (351,⟨.aS,1,8,[.aI],[]⟩),
 (352,⟨.aS,1,8,[.aI],[]⟩),
 (353,⟨.aS,1,8,[.aI],[]⟩),
 (354,⟨.aS,1,8,[.aI],[]⟩),
 (355,⟨.aS,1,8,[.aI],[]⟩),
 (356,⟨.aS,1,8,[.aI],[]⟩),
 (357,⟨.aS,1,8,[.aI],[]⟩),
 (359,⟨.aS,1,8,[.aI],[]⟩),
 (360,⟨.aS,1,8,[.aI],[]⟩),
 (362,⟨.aS,1,8,[.aI],[]⟩),
 (363,⟨.aS,1,8,[.aI],[]⟩),
 (364,⟨.aS,1,8,[.aI],[]⟩),
 (365,⟨.aS,1,8,[.aI],[]⟩),
 (366,⟨.aS,1,8,[.aI],[]⟩),
 (367,⟨.bq 3,1,24,[ae 1 adm ([]:List Int)],[]⟩),
 (368,⟨.aS,1,8,[.aI],[]⟩),
 (369,⟨.aS,1,8,[.aI],[]⟩),
 (370,⟨.aS,1,8,[.aI],[]⟩),
 (371,⟨.aS,1,8,[.aI],[]⟩),
 (372,⟨.aS,1,8,[.aI],[]⟩),
 (374,⟨.aS,1,8,[.aI],[]⟩),
 (376,⟨.aS,1,8,[.aI],[]⟩),
 (377,⟨.aS,1,8,[.aI],[]⟩),
 (379,⟨.aS,1,8,[.aI],[]⟩),
 (381,⟨.aS,1,8,[.aI],[]⟩),
 (382,⟨.aS,1,8,[.aI],[]⟩),
 (383,⟨.aS,1,8,[.aI],[]⟩),
 (385,⟨.int .u32,1,4,[.int .u32 0],[]⟩),
 (387,⟨.aS,1,8,[.aI],[]⟩),
 (388,⟨.aS,1,8,[.aI],[]⟩),
 (389,⟨.aS,1,8,[.aI],[]⟩),
 (390,⟨.int .i64,1,8,[.int .i64 0],[]⟩),
 (392,⟨.aS,1,8,[.aI],[]⟩),
 (393,⟨.ptr,1,8,[.dW],[]⟩),
 (394,⟨.aS,1,8,[.aI],[]⟩),
 (395,⟨.aS,1,8,[.aI],[]⟩),
 (398,⟨.aS,1,8,[.aI],[]⟩),
 (399,⟨.bT [(0,9,1),(1,9,1),(2,122,1)],3,48,[.str ([]:ano),.str ([]:ano),.h9],[]⟩),
 (400,⟨.bT [(0,9,1),(1,9,1),(2,122,1)],3,48,[.str ([]:ano),.str ([]:ano),.h9],[]⟩),
 (401,⟨.aS,1,8,[.aI],[]⟩),
 (402,⟨.ptr,1,8,[.dW],[]⟩),
 (403,⟨.bT [(0,9,1)],1,16,[.str ([]:ano)],[]⟩),
 (404,⟨.bT [(0,9,1)],1,16,[.str ([]:ano)],[]⟩),
 (405,⟨.bT [(0,17,1),(1,17,1),(2,17,1),(3,9,1)],4,40,[.dW,.dW,.dW,.str ([]:ano)],[]⟩),
 (406,⟨.bT [(0,17,1),(1,17,1),(2,17,1),(3,9,1)],4,40,[.dW,.dW,.dW,.str ([]:ano)],[]⟩),
 (410,⟨.int .u8,1,1,[.int .u8 0],[]⟩),
 (411,⟨.int .u8,1,1,[.int .u8 0],[]⟩),
 (412,⟨.aS,1,8,[.aI],[]⟩),
 (413,⟨.int .i32,1,4,[.int .i32 0],[]⟩),
 (414,⟨.int .i32,1,4,[.int .i32 0],[]⟩),
 (415,⟨.bT [(0,12,1),(1,12,1),(2,385,1),(3,410,1),(4,5,1),(5,5,1),(6,411,1),(7,412,1),(8,191,1),(9,413,1),(10,414,1)],11,48,[.int .u64 0,.int .u64 0,.int .u32 0,.int .u8 0,.int .u8 0,.int .u8 0,.int .u8 0,.aI,.dW,.int .i32 0,.int .i32 0],[]⟩),
 (416,⟨.bT [(0,12,1),(1,12,1),(2,385,1),(3,410,1),(4,5,1),(5,5,1),(6,411,1),(7,412,1),(8,191,1),(9,413,1),(10,414,1)],11,48,[.int .u64 0,.int .u64 0,.int .u32 0,.int .u8 0,.int .u8 0,.int .u8 0,.int .u8 0,.aI,.dW,.int .i32 0,.int .i32 0],[]⟩)]
def ib:e_ Tryz.prog tt=true:=by kernel_rfl
def A9:Tryz.prog.follows .mixedOrders=true:=by kernel_rfl
end Go.Ab.Y
namespace Go.Ab.Y.T
open Go Go.Ab Go.Proofs
structure a6(f:FuncId)(args:List D)(dN:List (Nat×TypeId))(H:List (List aP)){ρ:Type}(F:Option ρ)(out:ρ→Out)(cu:ρ→List (List aP)):Prop where
 of:∀{r:ρ},F=some r→gA Tryz.prog f args dN H (out r) (cu r)
def vl(E:Nat)(rs:List ResultVar){ρ:Type}(out:ρ→Out)(cu:ρ→List (List aP))(r:ρ):b_→aC→Prop:=sU tt E rs λo bB=>o=out r∧bB=cu r
def gH(s st:aC):Option aC:=(uw (s.env.map (·.1)) (s.H.map (·.1)) s.aK st.env st.H st.aK).map (fit s)
noncomputable abbrev ic(N:Nat)(ops:Array Oper)(rs:List e6)(st:aC):=ve (jq Tryz.prog) tt N ops.toList rs st
noncomputable abbrev Ft(N:Nat)(ops:Array Oper)(rs:List (Nat×List e6))(st:aC):=Fb (jq Tryz.prog) tt N ops.toList (spread ops.toList.length 0 rs) st
noncomputable abbrev Uc(N:Nat)(ops:Array Oper)(f7:Nat)(rs:List (Nat×List e6))(st:aC):=AZ (jq Tryz.prog) tt N ops.toList f7 (st.aK+ops.toList.length) (spread ops.toList.length 0 rs) st
abbrev af(x:Int):aP:=⟨.v (.int .i64 x),none⟩
abbrev eb(x:Bool):aP:=⟨.v (.bool x),none⟩
abbrev bf(x:ano):aP:=⟨.v (.str x),none⟩
abbrev aG{α:Type}[Inhabited α](k:Nat)(e:α→V)(l:List α):aP:=⟨.v (ae k e l),none⟩
abbrev bj(r o:Nat):aP:=⟨.ptr r o,none⟩
abbrev hP(x:V):aP:=⟨.v x,none⟩
abbrev bp(x:Int):D:=.v (.int .i64 x)
abbrev cO(x:Bool):D:=.v (.bool x)
abbrev dg(x:ano):D:=.v (.str x)
abbrev eG{α:Type}[Inhabited α](k:Nat)(e:α→V)(l:List α):D:=.v (ae k e l)
abbrev a1(d:D):Out:=.ret d none
def adt(n:Nat):gG (n:Int) n=true:=aa3 ⟨Int.natCast_nonneg n,Int.le_refl _⟩
abbrev av:=all_nil
def ag{p:Prop}{l:List Prop}(h:p)(ab:kF l):kF (p::l):=⟨h,ab⟩
section
variable {N E:Nat} {st:aC} {Q:b_→aC→Prop} {next:aC→Prop} {x y:Code} {id i j:Nat} {ops:Array Oper}
def xE{x:V}(h:Q (.az x) st):b_.then next Q (.az x) st:=h
def cW(h:Q .normal st):b_.inBlock i Q (.exit i) st:=b_.acd h
def xF(h:Q (.exit j) st)(dj:Nat.beq j i=false:=by kernel_rfl):b_.inBlock i Q (.exit j) st:=b_.ace dj h
def adu{x:V}(h:Q (.az x) st):b_.inBlock i Q (.az x) st:=h
def aw(h:aT Tryz.prog N E x (b_.then (aT Tryz.prog N E y Q) Q) st):aT Tryz.prog N E (.seq x y) Q st:=aT.seq h
def ay(h:Q .normal st):aT Tryz.prog N E .skip Q st:=aT.skip h
def Ud{r:Nat}(h:Q .ret (A4 r st)):LK r Q .ret st:=h
def Ue(r:Nat)(h:aT Tryz.prog N E x (LK r Q) st):aT Tryz.prog N E x Q st:=aT.ou r h
def xG(py:List Nat)(h:aT Tryz.prog N E x Q {env:=forget py st.env,H:=st.H,aK:=st.aK}):aT Tryz.prog N E x Q st:=aT.forget py h
def adv{l:Nat}(h:Q .normal st):aT Tryz.prog N E (.label l) Q st:=aT.label h
def cX(h:Q (.exit i) st):aT Tryz.prog N E (.exit i) Q st:=aT.exit h
def LS(h:Q .ret st):aT Tryz.prog N E .ret Q st:=aT.ret h
def adw(h:aT Tryz.prog N E x Q st):aT Tryz.prog N E (.scope x) Q st:=aT.scope h
def a8(h:aT Tryz.prog N E x (b_.inBlock i Q) st):aT Tryz.prog N E (.block i x) Q st:=aT.block h
def hQ(rs:List e6){bi:List Prop}(b7:kF bi)(eg:Q .normal (jx (ic N ops rs st)))(ah:lW (ic N ops rs st)=some bi:=by kernel_rfl):aT Tryz.prog N E (.region id ops false) Q st:=aT.rg ib rs ah b7 eg
def cg(eg:Q .normal (jx (ic N ops [] st)))(ah:lW (ic N ops [] st)=some []:=by kernel_rfl):aT Tryz.prog N E (.region id ops false) Q st:=hQ [] av eg ah
def G(eg:aT Tryz.prog N E y Q (jx (ic N ops [] st)))(ah:lW (ic N ops [] st)=some []:=by kernel_rfl):aT Tryz.prog N E (.seq (.region id ops false) y) Q st:=aw (cg (Q:=b_.then (aT Tryz.prog N E y Q) Q) eg ah)
def ba(rs:List e6){bi:List Prop}(b7:kF bi)(eg:aT Tryz.prog N E y Q (jx (ic N ops rs st)))(ah:lW (ic N ops rs st)=some bi:=by kernel_rfl):aT Tryz.prog N E (.seq (.region id ops false) y) Q st:=aw (hQ (Q:=b_.then (aT Tryz.prog N E y Q) Q) rs b7 eg ah)
section
variable {f:FuncId} {args:List D} {dN:List (Nat×TypeId)} {H cu:List (List aP)} {out:Out}
def k5(p:gA Tryz.prog f args dN H out cu)(eg:Q .normal (jx (ic N ops [bv p []] st)))(ah:lW (ic N ops [bv p []] st)=some [gA Tryz.prog f args dN H out cu]:=by kernel_rfl):aT Tryz.prog N E (.region id ops false) Q st:=hQ [bv p []] (ag p av) eg ah
def kg(p:gA Tryz.prog f args dN H out cu)(eg:Q .normal (jx (ic N ops [bl p []] st)))(ah:lW (ic N ops [bl p []] st)=some [gA Tryz.prog f args dN H out cu]:=by kernel_rfl):aT Tryz.prog N E (.region id ops false) Q st:=hQ [bl p []] (ag p av) eg ah
def ch(p:gA Tryz.prog f args dN H out cu)(eg:aT Tryz.prog N E y Q (jx (ic N ops [bv p []] st)))(ah:lW (ic N ops [bv p []] st)=some [gA Tryz.prog f args dN H out cu]:=by kernel_rfl):aT Tryz.prog N E (.seq (.region id ops false) y) Q st:=ba [bv p []] (ag p av) eg ah
def c6(p:gA Tryz.prog f args dN H out cu)(eg:aT Tryz.prog N E y Q (jx (ic N ops [bl p []] st)))(ah:lW (ic N ops [bl p []] st)=some [gA Tryz.prog f args dN H out cu]:=by kernel_rfl):aT Tryz.prog N E (.seq (.region id ops false) y) Q st:=ba [bl p []] (ag p av) eg ah
end
def k6(rs:List (Nat×List e6)){bi:List Prop}(b7:kF bi)(eg:Q .normal (jx (Ft N ops rs st)))(ah:lW (Ft N ops rs st)=some bi:=by kernel_rfl):aT Tryz.prog N E (.region id ops true) Q st:=aT.Fd ib A9 rs ah b7 eg
def c7(rs:List (Nat×List e6)){bi:List Prop}(b7:kF bi)(eg:aT Tryz.prog N E y Q (jx (Ft N ops rs st)))(ah:lW (Ft N ops rs st)=some bi:=by kernel_rfl):aT Tryz.prog N E (.seq (.region id ops true) y) Q st:=aw (k6 (Q:=b_.then (aT Tryz.prog N E y Q) Q) rs b7 eg ah)
def dG(x:V)(rs:List e6){bi:List Prop}(b7:kF bi)(eg:Q (.az x) (jx (ic N ops rs st)))(ah:Lr (ic N ops rs st)=some (x,bi):=by kernel_rfl):aT Tryz.prog N E (.region id ops false) Q st:=aT.Ls ib rs ah b7 eg
def rF(f7:Nat)(x:V)(rs:List (Nat×List e6)){bi:List Prop}(b7:kF bi)(eg:∀n,Q (.az x) {env:=[],H:=LE (Uc N ops f7 rs st),aK:=n})(ah:LD (Uc N ops f7 rs st)=some (x,bi):=by kernel_rfl):aT Tryz.prog N E (.region id ops true) Q st:=aT.acT ib A9 f7 rs ah b7 eg
def C{α:Type}{b:Bool}{p q:Option α}{r:α}{c:Nat}(h:(bif b then p else q)=some r)(aB:p=some r→aT Tryz.prog N E x Q st)(bJ:q=some r→aT Tryz.prog N E y Q st)(hc:(look st.env c).map (·.d)=some (.v (.bool b)):=by kernel_rfl):aT Tryz.prog N E (.cond (.tmp c) x y) Q st:=aT.Lu h hc aB bJ
section
variable {ρ:Type} {a r:ρ} {out:ρ→Out} {cu:ρ→List (List aP)} {rs:List ResultVar}
def E'(h:some a=some r)(ab:leave tt E rs st=some (out a,cu a):=by kernel_rfl):vl E rs out cu r .ret st:=by
 obtain rfl:=Option.some.inj h;exact acg ab
def ca{Q:b_→aC→Prop}(h:some a=some r)(ak:vl E rs out cu r .ret st=Q .ret st:=by rfl)(ab:leave tt E rs st=some (out a,cu a):=by kernel_rfl):aT Tryz.prog N E .ret Q st:=LS (ak ▸ E' h ab)
def bL{Q:b_→aC→Prop}{id:Nat}{ops:Array Oper}(h:some a=some r)(ak:vl E rs out cu r .ret (jx (ic N ops [] st))=Q .ret (jx (ic N ops [] st)):=by rfl)(ab:leave tt E rs (jx (ic N ops [] st))=some (out a,cu a):=by kernel_rfl)(ah:lW (ic N ops [] st)=some []:=by kernel_rfl):aT Tryz.prog N E (.seq (.region id ops false) .ret) Q st:=G (ca h ak ab) ah
def aN{Q:b_→aC→Prop}{id:Nat}{ops:Array Oper}{b:Bool}{q:Option ρ}{c:Nat}{y:Code}(h:(bif b then some a else q)=some r)(bJ:q=some r→aT Tryz.prog N E y Q st)(ak:vl E rs out cu r .ret (jx (ic N ops [] st))=Q .ret (jx (ic N ops [] st)):=by rfl)(ab:leave tt E rs (jx (ic N ops [] st))=some (out a,cu a):=by kernel_rfl)(ah:lW (ic N ops [] st)=some []:=by kernel_rfl)(hc:(look st.env c).map (·.d)=some (.v (.bool b)):=by kernel_rfl):aT Tryz.prog N E (.cond (.tmp c) (.seq (.region id ops false) .ret) y) Q st:=C h (λh=>bL h ak ab ah) bJ hc
def kh(h:some a=some r)(ab:leave tt E rs st=some (out a,cu a):=by kernel_rfl):vl E rs out cu r .normal st:=by
 obtain rfl:=Option.some.inj h;exact Ld ab
def dh{x:V}(h:some a=some r)(ab:(EQ E st.H).map nL=some (cu a):=by kernel_rfl)(hx:out a = .az x:=by kernel_rfl):vl E rs out cu r (.az x) st:=by
 obtain rfl:=Option.some.inj h;show sU tt E rs _ _ _
 rw [hx];exact ach ab
end
def a7{f:FuncId}{fn:Func}{c:Code}{args:List D}{dN:List (Nat×TypeId)}{H:List (List aP)}{ρ:Type}{F:Option ρ}{out:ρ→Out}{cu:ρ→List (List aP)}(bJ:Tryz.prog.funcs[f]? = some fn)(hb:fn.body=some c)
 (h : ∀ {r : ρ}, F = some r → aT Tryz.prog fn.ntmps H.length c (vl H.length fn.results.toList out cu r) { env := hv args dN, H := cy 0 H, aK := H.length }) (js : decide (fn.name = "runtime.NumGoroutine") = false := by rfl) (ha : Nat.ble args.length fn.ntmps = true := by rfl) : a6 f args dN H F out cu :=
 ⟨λh0=>acf ib bJ hb js ha (h h0)⟩
end
section
variable {α β dm gT:Type} {p:Prop}
def ec{q:Prop}(a:p)(k:p→q):q:=k a
def s8{Uf:Type}{X:Option Uf}(c:α ⊕ β→Uf){x:α ⊕ β}{f:α→Option dm}{g:β→Option dm}{r:dm}(q:X=some (c x))(h:hZ.on x f g=some r)(db:∀a,X=some (c (.inl a))→f a=some r→p)(al:∀b,X=some (c (.inr b))→g b=some r→p):p:=
 match x,q,h with
 |.inl a,q,h=>db a q h
 |.inr b,q,h=>al b q h
def lA{r:α}(h:none=some r):p:=by cases h
def aY{b:Bool}{x:Option α}{r:α}(h:aq b x=some r)(k:b=true→x=some r→p):p:=k (rB h).1 (rB h).2
def au{x:Option α}{f:α→Option β}{r:β}(h:Option.bind x f=some r)(k:∀a,x=some a→f a=some r→p):p:=let ⟨a,Z,aa⟩:=bind_some h;k a Z aa
def dA{x:Option (ax α β)}{f:α→β→Option dm}{g:V→β→Option dm}{r:dm}(h:Option.bind x (λz=>ax.on z f g)=some r)(db:∀a b,x=some (.ret a b)→f a b=some r→p)(al:∀y b,x=some (.az y b)→g y b=some r→p):p:=
 let ⟨z,Z,aa⟩:=bind_some h
 match z,Z,aa with
 |.ret a b,Z,aa=>db a b Z aa
 |.az y b,Z,aa=>al y b Z aa
end
section
variable {ρ:Type} {r:ρ} {N E:Nat} {st:aC} {Q:b_→aC→Prop} {x y:Code}
def dH{cj:aC}{f:Option ρ}(h:f=some r)(ah:gH (cj) st=some (cj):=by kernel_rfl):gH (cj) st=some (cj)∧f=some r:=⟨ah,h⟩
def dL(cj:aC)(f:Option ρ)(Z:aT Tryz.prog N E x (b_.then (λbR=>gH (cj) bR=some (cj)∧f=some r) Q) st)(aa:f=some r→aT Tryz.prog N E y Q (cj))(bK:Nat.ble E (cj).aK=true:=by intros;kernel_rfl):aT Tryz.prog N E (.seq x y) Q st:=
 aT.cut _ Z λbR ⟨ah,h⟩=>aT.qs _ _ _ _ ah (bK) (aa h)
end
section
variable {α:Type} {ρ:Type} {r:ρ} {N E:Nat} {st:aC} {Q:b_→aC→Prop} {x y:Code}
def bF{cj:α→aC}{f:α→Option ρ}{a0:_}(h:f a0=some r)(ah:gH (cj a0) st=some (cj a0):=by kernel_rfl):∃a0,gH (cj a0) st=some (cj a0)∧f a0=some r:=⟨a0,ah,h⟩
def fM(cj:α→aC)(f:α→Option ρ)(Z:aT Tryz.prog N E x (b_.then (λbR=>∃a0,gH (cj a0) bR=some (cj a0)∧f a0=some r) Q) st)(aa:∀a0,f a0=some r→aT Tryz.prog N E y Q (cj a0))(bK:∀a0,Nat.ble E (cj a0).aK=true:=by intros;kernel_rfl):aT Tryz.prog N E (.seq x y) Q st:=
 aT.cut _ Z λbR ⟨a0,ah,h⟩=>aT.qs _ _ _ _ ah (bK a0) (aa a0 h)
def fN(cj:α→aC)(F:Nat→α→Option ρ)(B:(α→Option ρ)→α→Option ρ){n:Nat}{a0:_}(h:F n a0=some r)(body:∀k a0,B k a0=some r→aT Tryz.prog N E x (b_.then (λbR=>∃a0,gH (cj a0) bR=some (cj a0)∧k a0=some r) Q) (cj a0))(hi:gH (cj a0) st=some (cj a0):=by kernel_rfl)(bK:∀a0,Nat.ble E (cj a0).aK=true:=by intros;kernel_rfl)(h0:∀a0,F 0 a0=none:=by intros;rfl)(hs:∀m a0,F (m+1) a0=B (F m) a0:=by intros;rfl):aT Tryz.prog N E (.loop x) Q st:=by
 refine aT.loop (σ:=α) (λm (s:α) st=>gH (cj s) st=some (cj s)∧F m s=some r) ?_ (n:=n) (s:=a0) ⟨hi,h⟩
 rintro m a0 bR ⟨ah,h⟩
 cases m with
 |zero=>have aa:=(h0 a0).symm.trans h;cases aa
 |succ m=>
  refine⟨m,rfl,aT.qs _ _ _ _ ah (bK a0) ((body (F m) a0 ((hs m a0).symm.trans h)).mono ?_)⟩
  intro fl Fu ak;cases fl with
  |normal=>obtain⟨a0,g1,g2⟩:=ak;exact⟨a0,g1,g2⟩
  |exit i=>exact ak
  |ret=>exact ak
  |az x=>exact ak
end
section
variable {α β:Type} {ρ:Type} {r:ρ} {N E:Nat} {st:aC} {Q:b_→aC→Prop} {x y:Code}
def eY{cj:α→β→aC}{f:α→β→Option ρ}{a0 aW:_}(h:f a0 aW=some r)(ah:gH (cj a0 aW) st=some (cj a0 aW):=by kernel_rfl):∃a0 aW,gH (cj a0 aW) st=some (cj a0 aW)∧f a0 aW=some r:=⟨a0,aW,ah,h⟩
def nR(cj:α→β→aC)(f:α→β→Option ρ)(Z:aT Tryz.prog N E x (b_.then (λbR=>∃a0 aW,gH (cj a0 aW) bR=some (cj a0 aW)∧f a0 aW=some r) Q) st)(aa:∀a0 aW,f a0 aW=some r→aT Tryz.prog N E y Q (cj a0 aW))(bK:∀a0 aW,Nat.ble E (cj a0 aW).aK=true:=by intros;kernel_rfl):aT Tryz.prog N E (.seq x y) Q st:=
 aT.cut _ Z λbR ⟨a0,aW,ah,h⟩=>aT.qs _ _ _ _ ah (bK a0 aW) (aa a0 aW h)
def jb(cj:α→β→aC)(F:Nat→α→β→Option ρ)(B:(α→β→Option ρ)→α→β→Option ρ){n:Nat}{a0 aW:_}(h:F n a0 aW=some r)(body:∀k a0 aW,B k a0 aW=some r→aT Tryz.prog N E x (b_.then (λbR=>∃a0 aW,gH (cj a0 aW) bR=some (cj a0 aW)∧k a0 aW=some r) Q) (cj a0 aW))(hi:gH (cj a0 aW) st=some (cj a0 aW):=by kernel_rfl)(bK:∀a0 aW,Nat.ble E (cj a0 aW).aK=true:=by intros;kernel_rfl)(h0:∀a0 aW,F 0 a0 aW=none:=by intros;rfl)(hs:∀m a0 aW,F (m+1) a0 aW=B (F m) a0 aW:=by intros;rfl):aT Tryz.prog N E (.loop x) Q st:=by
 refine aT.loop (σ:=α×β) (λm (s:α×β) st=>gH (cj s.1 s.2) st=some (cj s.1 s.2)∧F m s.1 s.2=some r) ?_ (n:=n) (s:=(a0,aW)) ⟨hi,h⟩
 rintro m ⟨a0,aW⟩ bR ⟨ah,h⟩
 cases m with
 |zero=>have aa:=(h0 a0 aW).symm.trans h;cases aa
 |succ m=>
  refine⟨m,rfl,aT.qs _ _ _ _ ah (bK a0 aW) ((body (F m) a0 aW ((hs m a0 aW).symm.trans h)).mono ?_)⟩
  intro fl Fu ak;cases fl with
  |normal=>obtain⟨a0,aW,g1,g2⟩:=ak;exact⟨(a0,aW),g1,g2⟩
  |exit i=>exact ak
  |ret=>exact ak
  |az x=>exact ak
end
section
variable {α β dm:Type} {ρ:Type} {r:ρ} {N E:Nat} {st:aC} {Q:b_→aC→Prop} {x y:Code}
def jc{cj:α→β→dm→aC}{f:α→β→dm→Option ρ}{a0 aW a2:_}(h:f a0 aW a2=some r)(ah:gH (cj a0 aW a2) st=some (cj a0 aW a2):=by kernel_rfl):∃a0 aW a2,gH (cj a0 aW a2) st=some (cj a0 aW a2)∧f a0 aW a2=some r:=⟨a0,aW,a2,ah,h⟩
def s9(cj:α→β→dm→aC)(f:α→β→dm→Option ρ)(Z:aT Tryz.prog N E x (b_.then (λbR=>∃a0 aW a2,gH (cj a0 aW a2) bR=some (cj a0 aW a2)∧f a0 aW a2=some r) Q) st)(aa:∀a0 aW a2,f a0 aW a2=some r→aT Tryz.prog N E y Q (cj a0 aW a2))(bK:∀a0 aW a2,Nat.ble E (cj a0 aW a2).aK=true:=by intros;kernel_rfl):aT Tryz.prog N E (.seq x y) Q st:=
 aT.cut _ Z λbR ⟨a0,aW,a2,ah,h⟩=>aT.qs _ _ _ _ ah (bK a0 aW a2) (aa a0 aW a2 h)
def A'(cj:α→β→dm→aC)(F:Nat→α→β→dm→Option ρ)(B:(α→β→dm→Option ρ)→α→β→dm→Option ρ){n:Nat}{a0 aW a2:_}(h:F n a0 aW a2=some r)(body:∀k a0 aW a2,B k a0 aW a2=some r→aT Tryz.prog N E x (b_.then (λbR=>∃a0 aW a2,gH (cj a0 aW a2) bR=some (cj a0 aW a2)∧k a0 aW a2=some r) Q) (cj a0 aW a2))(hi:gH (cj a0 aW a2) st=some (cj a0 aW a2):=by kernel_rfl)(bK:∀a0 aW a2,Nat.ble E (cj a0 aW a2).aK=true:=by intros;kernel_rfl)(h0:∀a0 aW a2,F 0 a0 aW a2=none:=by intros;rfl)(hs:∀m a0 aW a2,F (m+1) a0 aW a2=B (F m) a0 aW a2:=by intros;rfl):aT Tryz.prog N E (.loop x) Q st:=by
 refine aT.loop (σ:=α×β×dm) (λm (s:α×β×dm) st=>gH (cj s.1 s.2.1 s.2.2) st=some (cj s.1 s.2.1 s.2.2)∧F m s.1 s.2.1 s.2.2=some r) ?_ (n:=n) (s:=(a0,aW,a2)) ⟨hi,h⟩
 rintro m ⟨a0,aW,a2⟩ bR ⟨ah,h⟩
 cases m with
 |zero=>have aa:=(h0 a0 aW a2).symm.trans h;cases aa
 |succ m=>
  refine⟨m,rfl,aT.qs _ _ _ _ ah (bK a0 aW a2) ((body (F m) a0 aW a2 ((hs m a0 aW a2).symm.trans h)).mono ?_)⟩
  intro fl Fu ak;cases fl with
  |normal=>obtain⟨a0,aW,a2,g1,g2⟩:=ak;exact⟨(a0,aW,a2),g1,g2⟩
  |exit i=>exact ak
  |ret=>exact ak
  |az x=>exact ak
end
section
variable {α β dm gT:Type} {ρ:Type} {r:ρ} {N E:Nat} {st:aC} {Q:b_→aC→Prop} {x y:Code}
def qt{cj:α→β→dm→gT→aC}{f:α→β→dm→gT→Option ρ}{a0 aW a2 a3:_}(h:f a0 aW a2 a3=some r)(ah:gH (cj a0 aW a2 a3) st=some (cj a0 aW a2 a3):=by kernel_rfl):∃a0 aW a2 a3,gH (cj a0 aW a2 a3) st=some (cj a0 aW a2 a3)∧f a0 aW a2 a3=some r:=⟨a0,aW,a2,a3,ah,h⟩
def adx(cj:α→β→dm→gT→aC)(f:α→β→dm→gT→Option ρ)(Z:aT Tryz.prog N E x (b_.then (λbR=>∃a0 aW a2 a3,gH (cj a0 aW a2 a3) bR=some (cj a0 aW a2 a3)∧f a0 aW a2 a3=some r) Q) st)(aa:∀a0 aW a2 a3,f a0 aW a2 a3=some r→aT Tryz.prog N E y Q (cj a0 aW a2 a3))(bK:∀a0 aW a2 a3,Nat.ble E (cj a0 aW a2 a3).aK=true:=by intros;kernel_rfl):aT Tryz.prog N E (.seq x y) Q st:=
 aT.cut _ Z λbR ⟨a0,aW,a2,a3,ah,h⟩=>aT.qs _ _ _ _ ah (bK a0 aW a2 a3) (aa a0 aW a2 a3 h)
def s'(cj:α→β→dm→gT→aC)(F:Nat→α→β→dm→gT→Option ρ)(B:(α→β→dm→gT→Option ρ)→α→β→dm→gT→Option ρ){n:Nat}{a0 aW a2 a3:_}(h:F n a0 aW a2 a3=some r)(body:∀k a0 aW a2 a3,B k a0 aW a2 a3=some r→aT Tryz.prog N E x (b_.then (λbR=>∃a0 aW a2 a3,gH (cj a0 aW a2 a3) bR=some (cj a0 aW a2 a3)∧k a0 aW a2 a3=some r) Q) (cj a0 aW a2 a3))(hi:gH (cj a0 aW a2 a3) st=some (cj a0 aW a2 a3):=by kernel_rfl)(bK:∀a0 aW a2 a3,Nat.ble E (cj a0 aW a2 a3).aK=true:=by intros;kernel_rfl)(h0:∀a0 aW a2 a3,F 0 a0 aW a2 a3=none:=by intros;rfl)(hs:∀m a0 aW a2 a3,F (m+1) a0 aW a2 a3=B (F m) a0 aW a2 a3:=by intros;rfl):aT Tryz.prog N E (.loop x) Q st:=by
 refine aT.loop (σ:=α×β×dm×gT) (λm (s:α×β×dm×gT) st=>gH (cj s.1 s.2.1 s.2.2.1 s.2.2.2) st=some (cj s.1 s.2.1 s.2.2.1 s.2.2.2)∧F m s.1 s.2.1 s.2.2.1 s.2.2.2=some r) ?_ (n:=n) (s:=(a0,aW,a2,a3)) ⟨hi,h⟩
 rintro m ⟨a0,aW,a2,a3⟩ bR ⟨ah,h⟩
 cases m with
 |zero=>have aa:=(h0 a0 aW a2 a3).symm.trans h;cases aa
 |succ m=>
  refine⟨m,rfl,aT.qs _ _ _ _ ah (bK a0 aW a2 a3) ((body (F m) a0 aW a2 a3 ((hs m a0 aW a2 a3).symm.trans h)).mono ?_)⟩
  intro fl Fu ak;cases fl with
  |normal=>obtain⟨a0,aW,a2,a3,g1,g2⟩:=ak;exact⟨(a0,aW,a2,a3),g1,g2⟩
  |exit i=>exact ak
  |ret=>exact ak
  |az x=>exact ak
end
section
variable {α β dm gT rG:Type} {ρ:Type} {r:ρ} {N E:Nat} {st:aC} {Q:b_→aC→Prop} {x y:Code}
def ady{cj:α→β→dm→gT→rG→aC}{f:α→β→dm→gT→rG→Option ρ}{a0 aW a2 a3 a4:_}(h:f a0 aW a2 a3 a4=some r)(ah:gH (cj a0 aW a2 a3 a4) st=some (cj a0 aW a2 a3 a4):=by kernel_rfl):∃a0 aW a2 a3 a4,gH (cj a0 aW a2 a3 a4) st=some (cj a0 aW a2 a3 a4)∧f a0 aW a2 a3 a4=some r:=⟨a0,aW,a2,a3,a4,ah,h⟩
def adz(cj:α→β→dm→gT→rG→aC)(F:Nat→α→β→dm→gT→rG→Option ρ)(B:(α→β→dm→gT→rG→Option ρ)→α→β→dm→gT→rG→Option ρ){n:Nat}{a0 aW a2 a3 a4:_}(h:F n a0 aW a2 a3 a4=some r)(body:∀k a0 aW a2 a3 a4,B k a0 aW a2 a3 a4=some r→aT Tryz.prog N E x (b_.then (λbR=>∃a0 aW a2 a3 a4,gH (cj a0 aW a2 a3 a4) bR=some (cj a0 aW a2 a3 a4)∧k a0 aW a2 a3 a4=some r) Q) (cj a0 aW a2 a3 a4))(hi:gH (cj a0 aW a2 a3 a4) st=some (cj a0 aW a2 a3 a4):=by kernel_rfl)(bK:∀a0 aW a2 a3 a4,Nat.ble E (cj a0 aW a2 a3 a4).aK=true:=by intros;kernel_rfl)(h0:∀a0 aW a2 a3 a4,F 0 a0 aW a2 a3 a4=none:=by intros;rfl)(hs:∀m a0 aW a2 a3 a4,F (m+1) a0 aW a2 a3 a4=B (F m) a0 aW a2 a3 a4:=by intros;rfl):aT Tryz.prog N E (.loop x) Q st:=by
 refine aT.loop (σ:=α×β×dm×gT×rG) (λm (s:α×β×dm×gT×rG) st=>gH (cj s.1 s.2.1 s.2.2.1 s.2.2.2.1 s.2.2.2.2) st=some (cj s.1 s.2.1 s.2.2.1 s.2.2.2.1 s.2.2.2.2)∧F m s.1 s.2.1 s.2.2.1 s.2.2.2.1 s.2.2.2.2=some r) ?_ (n:=n) (s:=(a0,aW,a2,a3,a4)) ⟨hi,h⟩
 rintro m ⟨a0,aW,a2,a3,a4⟩ bR ⟨ah,h⟩
 cases m with
 |zero=>have aa:=(h0 a0 aW a2 a3 a4).symm.trans h;cases aa
 |succ m=>
  refine⟨m,rfl,aT.qs _ _ _ _ ah (bK a0 aW a2 a3 a4) ((body (F m) a0 aW a2 a3 a4 ((hs m a0 aW a2 a3 a4).symm.trans h)).mono ?_)⟩
  intro fl Fu ak;cases fl with
  |normal=>obtain⟨a0,aW,a2,a3,a4,g1,g2⟩:=ak;exact⟨(a0,aW,a2,a3,a4),g1,g2⟩
  |exit i=>exact ak
  |ret=>exact ak
  |az x=>exact ak
end
section
variable {α β dm gT rG amI:Type} {ρ:Type} {r:ρ} {N E:Nat} {st:aC} {Q:b_→aC→Prop} {x y:Code}
end
end Go.Ab.Y.T
namespace Go.Ab.Y
open Go Go.Ab Go.Proofs
def Fv(n:Nat)(s:ano):Option ano:=aq (decide (s.length≤281474976710656))<|some s
def Fw(n:Nat)(s:ano)(c:Int):Option Int:=some (Lib.indexByte s c.toNat.toUInt8)
def xH(n:Nat)(s:ano):Option Int:=aq (decide (s.length≤140737488351232))<|some (gg s)
def A_(s:ano):Int ⊕ Int:=
 match Lib.parseIntB 64 s with
 |.ok v=>.inl v
 |.range=>.inr (Lib.intSat 64 s)
 |_=>.inr 0
def xI(n:Nat)(s:ano)(base:Int)(Fx:Int):Option (Int ⊕ Int):=
 aq (decide (base=10∧Fx=64∧s.length≤281474976710656))<|some (A_ s)
def Fy(n:Nat)(i:Int)(base:Int):Option ano:=aq (decide (base=10 ∧ -9223372036854775808≤i∧i≤9223372036854775807))<|some (Lib.itoa i)
def Fz(n:Nat)(elems:List ano)(sep:ano):Option ano:=aq (decide (elems.length≤140737488355328∧(Lib.join elems sep).length≤140737488355328))<|some (Lib.join elems sep)
open Go Go.Ab Go.Proofs
def adA{n:Nat}{s:ano}{r:ano}(h:Fv n s=some r):gA Tryz.prog 326 [.v (.str s)] [] [] (.ret (.v (.str r)) none) []:=by
 unfold Fv at h;obtain⟨g,h⟩:=rB h;obtain rfl:=Option.some.inj h;refine vd (fd:=Tryz.f326) Tryz.func326 rfl rfl (vsOf:=λvs=>vs=[.string ⟨⟨s⟩⟩]) (λM β vs ab ah=>?_) (λvs w am hg=>?_)
 ·match vs,ab with
  |[v],_=>
   have:=mo (ah 0 v _ rfl rfl)
   rw [this]
 ·subst am;refine(Tryz.stringslite_Clone ⟨⟨s⟩⟩ w (show s.length≤281474976710656 from of_decide_eq_true g)).mono ?_
  rintro e w' ⟨rfl,hb⟩
  refine⟨_,rfl,λM β=>.v _ _ (.str _),λb aO h=>?_,by rw [hb.os,hb.output]⟩
  rw [hb.block b (Array.getElem?_eq_some_iff.1 h).1];exact h
def adB{n:Nat}{s:ano}{c:Int}{r:Int}(h:Fw n s c=some r):gA Tryz.prog 352 [.v (.str s),.v (.int .u8 c)] [] [] (.ret (.v (.int .i64 r)) none) []:=by
 unfold Fw at h;obtain rfl:=Option.some.inj h;refine vd (fd:=Tryz.f352) Tryz.func352 rfl rfl (vsOf:=λvs=>vs=[.string ⟨⟨s⟩⟩,.int .u8 c]) (λM β vs ab ah=>?_) (λvs w am hg=>?_)
 ·match vs,ab with
  |[v,u],_=>
   have Z:=mo (ah 0 v _ rfl rfl);have aa:=lR (ah 1 u _ rfl rfl);rw [Z,aa]
 ·subst am;refine(Tryz.stringslite_IndexByte ⟨⟨s⟩⟩ c w).mono ?_
  rintro e w' ⟨rfl,rfl⟩
  exact⟨_,rfl,λM β=>.v _ _ (.int _ _),λb aO h=>h,rfl⟩
def Ug{n:Nat}{s:ano}{r:Int}(h:xH n s=some r):gA Tryz.prog 174 [.v (.str s)] [] [] (.ret (.v (.int .i64 r)) none) []:=by
 unfold xH at h;obtain⟨g,h⟩:=rB h;obtain rfl:=Option.some.inj h;refine vd (fd:=Tryz.f174) Tryz.func174 rfl rfl (vsOf:=λvs=>vs=[.string ⟨⟨s⟩⟩]) (λM β vs ab ah=>?_) (λvs w am hg=>?_)
 ·match vs,ab with
  |[v],_=>
   have:=mo (ah 0 v _ rfl rfl)
   rw [this]
 ·subst am;refine(adl ⟨⟨s⟩⟩ w (show s.length≤140737488351232 from of_decide_eq_true g)).mono ?_
  rintro e w' ⟨rfl,pos,rfl⟩
  refine⟨_,rfl,λM β=>.v _ _ (.int _ _),λb aO h=>?_,rfl⟩
  rw [World.iter,Go.RowKit.Below.heap_alloc w _ b (Array.getElem?_eq_some_iff.1 h).1];exact h
def adC(w:World)(e:TypeId)(t:ByteArray):((Lib.bytesWorld w e t).os,(Lib.bytesWorld w e t).output)=(w.os,w.output):=by
 rw [(Lib.bytesWorld_below w e t).os,(Lib.bytesWorld_below w e t).output]
def LT:JX Tryz.prog=[4,5]:=by kernel_rfl
def Uh{n:Nat}{s:ano}{base:Int}{Fx:Int}{r:(Int ⊕ Int)}(h:xI n s base Fx=some r):gA Tryz.prog 351 [.v (.str s),.v (.int .i64 base),.v (.int .i64 Fx)] [] [] (hZ.on r (λUi=>.ret (.cn [.v (.int .i64 Ui),.v (.h9)]) none) (λUj=>.ret (.cn [.v (.int .i64 Uj),.v ((.iface 393 .any))]) none)) []:=by
 unfold xI at h;obtain⟨g,h⟩:=rB h;obtain rfl:=Option.some.inj h;obtain⟨rfl,rfl,ab⟩:=of_decide_eq_true g
 have ey:∀(M:Mem) (β:Nat→Option Nat) (vs:List Value),vs.length=3→(∀(i:Nat) v a,vs[i]? = some v→[D.v (.str s),.v (.int .i64 10),.v (.int .i64 64)][i]? = some a→ce M β v a)→vs=[.string ⟨⟨s⟩⟩,.int .i64 10,.int .i64 64]:=by
  intro M β vs ab ah
  match vs,ab with
  |[v,u,t],_=>
   have Z:=mo (ah 0 v _ rfl rfl);have aa:=lR (ah 1 u _ rfl rfl);have aj:=lR (ah 2 t _ rfl rfl);rw [Z,aa,aj]
 unfold A_;rcases hp:Lib.parseIntB 64 s with v|_|_
 ·
   refine vd (fd:=Tryz.f351) Tryz.func351 rfl rfl (vsOf:=λvs=>vs=[.string ⟨⟨s⟩⟩,.int .i64 10,.int .i64 64]) (λM β vs ab ah=>ey M β vs ab ah) (λvs w am hg=>?_)
   subst am;refine(Tryz.strconv_ParseInt_10_at64_ok ⟨⟨s⟩⟩ (show s.length≤9223372036854775806 by omega) v hp w).mono ?_
   rintro e w' ⟨rfl,hw⟩
   refine⟨_,rfl,λM β=>.cn [_,_] _ rfl λi v c hi hc=>?_,λb aO h=>?_,by rcases hw with rfl|⟨t,rfl⟩;rfl;exact adC _ _ _⟩
   ·match i with
    | 0=>cases hi;cases hc;exact .v _ _ (.int _ _)
    | 1=>cases hi;cases hc;exact .v _ _ .h9
    |i+2=>simp at hi
   ·rcases hw with rfl|⟨t,rfl⟩
    ·exact h
    ·rw [Lib.bytesWorld_at_old _ _ _ _ (Array.getElem?_eq_some_iff.1 h).1];exact h
 ·
   refine vd (fd:=Tryz.f351) Tryz.func351 rfl rfl (vsOf:=λvs=>vs=[.string ⟨⟨s⟩⟩,.int .i64 10,.int .i64 64]) (λM β vs ab ah=>ey M β vs ab ah) (λvs w am hg=>?_)
   subst am;obtain⟨fk,Z,aa⟩:=hg.1 4 (by rw [LT];simp)
   refine(Tryz.strconv_ParseInt_10_at64_syntax ⟨⟨s⟩⟩ ab (by constructor;intro v;rw [show Lib.parseIntB 64 (⟨⟨s⟩⟩:ByteArray).data.toList=_ from hp];intro e;cases e;rw [show Lib.parseIntB 64 (⟨⟨s⟩⟩:ByteArray).data.toList=_ from hp];intro e;cases e) fk w Z aa).mono ?_
   rintro e w' ⟨N,rfl,aU,hY,hb⟩
   refine⟨_,rfl,λM β=>.cn [_,_] _ rfl λi v c hi hc=>?_,λb aO h=>?_,by rw [hb.os,hb.output]⟩
   ·match i with
    | 0=>cases hi;cases hc;exact .v _ _ (.int _ _)
    | 1=>cases hi;cases hc;exact .v _ _ (.iface _ _ _ (.any _ rfl))
    |i+2=>simp at hi
   ·rw [hb.block b (Array.getElem?_eq_some_iff.1 h).1];exact h
 ·
   refine vd (fd:=Tryz.f351) Tryz.func351 rfl rfl (vsOf:=λvs=>vs=[.string ⟨⟨s⟩⟩,.int .i64 10,.int .i64 64]) (λM β vs ab ah=>ey M β vs ab ah) (λvs w am hg=>?_)
   subst am;obtain⟨fk,Z,aa⟩:=hg.1 5 (by rw [LT];simp)
   refine(Tryz.strconv_ParseInt_10_at64_range ⟨⟨s⟩⟩ ab hp fk w Z aa).mono ?_
   rintro e w' ⟨N,rfl,aU,hY,hb⟩
   refine⟨_,rfl,λM β=>.cn [_,_] _ rfl λi v c hi hc=>?_,λb aO h=>?_,by rw [hb.os,hb.output]⟩
   ·match i with
    | 0=>cases hi;cases hc;exact .v _ _ (.int _ _)
    | 1=>cases hi;cases hc;exact .v _ _ (.iface _ _ _ (.any _ rfl))
    |i+2=>simp at hi
   ·rw [hb.block b (Array.getElem?_eq_some_iff.1 h).1];exact h
def FA : Tryz.prog.globalNamed "internal/strconv.uint64pow10" = some 1 := by kernel_rfl
def Uk:(Lib.pow10Tab.map λz=>Value.int .u64 z).toArray=JY:=by kernel_rfl
def adD {w : World} (h : E_ Tryz.prog w) : Lib.TabIs Tryz.prog w "internal/strconv.uint64pow10" .u64 Lib.pow10Tab := by
 obtain⟨t,kx,Z⟩:=h.2 1 FA;unfold Lib.TabIs World.var?;rw [FA,Option.bind_some,Z,Uk]
def adE{n:Nat}{i:Int}{base:Int}{r:ano}(h:Fy n i base=some r):gA Tryz.prog 320 [.v (.int .i64 i),.v (.int .i64 base)] [] [] (.ret (.v (.str r)) none) []:=by
 unfold Fy at h;obtain⟨g,h⟩:=rB h;obtain rfl:=Option.some.inj h;obtain⟨rfl,h0,Z⟩:=of_decide_eq_true g;refine vd (fd:=Tryz.f320) Tryz.func320 rfl rfl (vsOf:=λvs=>vs=[.int .i64 i,.int .i64 10]) (λM β vs ab ah=>?_) (λvs w am hg=>?_)
 ·match vs,ab with
  |[v,u],_=>
   have g1:=lR (ah 0 v _ rfl rfl);have g2:=lR (ah 1 u _ rfl rfl);rw [g1,g2]
 ·subst am;refine(Tryz.strconv_FormatInt_10 i h0 Z w (adD hg)).mono ?_
  rintro e w' ⟨rfl,k,os,rfl⟩
  exact⟨_,rfl,λM β=>.v _ _ (.str _),λb aO h=>(Lib.heap_grow_old w k os b (Array.getElem?_eq_some_iff.1 h).1).trans h,rfl⟩
def Ul{b:List Int}(g:(mZ b&&decide (b.length≤9223372036854775807))=true):b.length=(jP b).length∧∀i,i<(jP b).length→(λi=>cz (b.getD i default)) i = .int .u8 (((jP b).getD i 0).toNat:Int):=by
 simp only [Bool.and_eq_true]at g;obtain⟨Z,aa⟩:=Fe g.1;exact⟨Z.symm,λi hi=>aa i (by omega)⟩
def Um{b:List Int}(g:(mZ b&&decide (b.length≤9223372036854775807))=true):(jP b).length≤9223372036854775807:=by
 simp only [Bool.and_eq_true,decide_eq_true_eq]at g;rw [(Fe g.1).1];exact g.2
def LU:Go.Proofs.Builder.Extra Tryz.prog Tryz.TZ where
 sizeBuilder:=by kernel_rfl
 liesBuilder:=by kernel_rfl
 t5:=Tryz.underlying5
 a5:=Tryz.isAgg5
 z5:=Tryz.sizeOf5
 v5:=Tryz.zeroValue5
 infoByte:=by kernel_rfl
 cellsByte:=by kernel_rfl
 sizeByte:=by kernel_rfl
 neB5:=by decide
def Un{n:Nat}{elems:List ano}{sep:ano}{r:ano}(h:Fz n elems sep=some r):gA Tryz.prog 119 [.v (ae 1 bN elems),.v (.str sep)] [] [] (.ret (.v (.str r)) none) []:=by
 unfold Fz at h;obtain⟨g,h⟩:=rB h;obtain rfl:=Option.some.inj h;obtain⟨aU,cT⟩:=of_decide_eq_true g
 have Uo:(elems.map λs=>(⟨⟨s⟩⟩:ByteArray)).map (·.data.toList)=elems:=by
  rw [List.map_map];conv=>rhs;rw [←List.map_id elems]
  rfl
 refine Tz (fd:=Tryz.f119) Tryz.func119 rfl rfl (vsOf:=λw vs=>(∃a,vs=[.slice a 0 0,.string ⟨⟨sep⟩⟩]∧elems=[])∨∃xJ o c,vs=[.slice (some ⟨xJ,o,none⟩) elems.length c,.string ⟨⟨sep⟩⟩]∧elems.length≤c∧∀(j:Nat) x,elems[j]? = some x→w.cell? ⟨xJ,o+j,none⟩=some (.string ⟨⟨x⟩⟩)) (λw M β vs hm ab ah=>?_) (λvs w am hg=>?_)
 ·match vs,ab with
  |[v,u],_=>
   have g2:=mo (ah 1 u _ rfl rfl);have g1:=ah 0 v _ rfl rfl;rw [g2];rcases sF (k:=1) (n:=elems.length) (get:=λi=>bN (elems.getD i default)) g1 with⟨Z,aa⟩|⟨b,off,cap,val,Z,hc,hk,cF,iJ,gj⟩
   ·rcases Z with Z|⟨a,Z⟩
    ·exact .inl ⟨none,by rw [Z],List.eq_nil_of_length_eq_zero aa⟩
    ·exact .inl ⟨some a,by rw [Z],List.eq_nil_of_length_eq_zero aa⟩
   ·refine .inr ⟨b,off,cap,by rw [Z],hc,λj x hx=>?_⟩
    have hj:j<elems.length:=(List.getElem?_eq_some_iff.1 hx).1;have e1:=hm _ _ _ (cF j 0 hj (by omega))
    have e2:=gj j 0 (.str x) hj (by
     have:elems.getD j default=x:=by simp [List.getD,hx]
     rw [this];rfl)
    rw [show off+j*1+0=off+j by omega]at e1
    rw [e1];generalize val j 0=y at e2 ⊢
    cases e2;rfl
 ·rcases am with⟨a,rfl,rfl⟩|⟨xJ,o,c,rfl,hc,rl⟩
  ·refine(Any.strings_Join_none Tryz.LM LU a 0 ⟨⟨sep⟩⟩ w).mono ?_
   rintro e w' ⟨rfl,rfl⟩
   exact⟨_,rfl,λM β=>.v _ _ (.str _),λb aO h=>h,rfl⟩
  ·cases elems with
   |nil=>
    refine(Any.strings_Join_none Tryz.LM LU (some ⟨xJ,o,none⟩) c ⟨⟨sep⟩⟩ w).mono ?_
    rintro e w' ⟨rfl,rfl⟩
    exact⟨_,rfl,λM β=>.v _ _ (.str _),λb aO h=>h,rfl⟩
   |cons rn adF=>
    have adG:xJ<w.heap.size:=lt_of_cell (rl 0 rn rfl)
    have hj:=Any.strings_Join Tryz.LM LU xJ o c ((rn::adF).map λs=>(⟨⟨s⟩⟩:ByteArray)) ⟨⟨sep⟩⟩ w (λj x hx=>by
     rw [List.getElem?_map,Option.map_eq_some_iff]at hx;obtain⟨y,bV,rfl⟩:=hx;exact rl j y bV) adG (by simpa using aU) (by simpa using hc) (by rw [Uo];exact cT)
    rw [List.length_map]at hj;refine hj.mono ?_
    rintro e w' ⟨rfl,hb⟩
    refine⟨_,rfl,λM β=>?_,λb aO h=>?_,by rw [hb.os,hb.output]⟩
    ·rw [Uo];exact .v _ _ (.str _)
    ·rw [hb.block b (Array.getElem?_eq_some_iff.1 h).1];exact h
end Go.Ab.Y
namespace Go.Ab.Y
open Go Go.Ab Go.Proofs T
abbrev anv{ρ:Type}(i:FuncId)(a:List D)(F:Option ρ)(o:ρ→Out):Prop:=a6 i a [] [] F o λ_=>[]
abbrev anw(i:FuncId)(a:List D)(F:Option Bool):Prop:=anv i a F λr=>a1 (cO r)
abbrev anx(i:FuncId)(a:List D)(F:Option Int):Prop:=anv i a F λr=>a1 (bp r)
end Go.Ab.Y

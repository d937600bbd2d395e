/- The types of this claim, and the contracts that were written by hand. -/
import Derived.Test.YtcjbfnojhpfchaaGreatDoorProg
import Derived.WalkKit
import Derived.Lib.Builder
import Derived.Lib.UnsafeStr
import Derived.Laws.Externs
import Derived.Shelf.RegionOpenPlain
import Derived.Lib.Join
import Derived.Lib.Bytealg
import Derived.Lib.ItoaNum
import Derived.Lib.ParseIntBCases
import Derived.Lib.AppendIntMem
import Derived.Lib.AtoiErrMem
import Derived.Test.YtcjbfnojhpfchaaGreatDoorShelf
set_option linter.all false
namespace Go.Ab
abbrev anV(x:Int):Int:=IntKind.i64.wrap x
abbrev anW{α:Type}[Inhabited α](l:List α)(i:Int):α:=l.getD i.toNat default
abbrev anX:=Option Bool
abbrev anY:=Option Int
abbrev V.anZ(x:Int):V:=.int .i64 x
end Go.Ab
namespace Go.Ab.Y
open Go Go.Proofs
def fo(c:UInt8):Bool:=decide ((97≤c.toNat∧c.toNat≤122)∨(48≤c.toNat∧c.toNat≤57)∨c.toNat=95)
def gQ(s:anT):Nat:=(s.takeWhile fo).length
def Ls{s:anT}{k:Nat}(hk:k≤s.length)(h:∀(j:Nat) c,j<k→s[j]? = some c→fo c=true)(he:∀c,s[k]? = some c→fo c=false):gQ s=k:=by
 unfold gQ;induction s generalizing k with
 |nil=>simp at hk ⊢;omega
 |cons c s aG=>
  cases k with
  |zero=>
   have:=he c rfl
   simp [List.takeWhile,this]
  |succ k=>
   have h0:=h 0 c (by omega) rfl
   simp only [List.takeWhile,h0,List.length_cons];rw [aG (by simpa using hk) (λj c hj hc=>h (j+1) c (by omega) (by simpa using hc)) (λc hc=>he c (by simpa using hc))]
def Lt(s:ByteArray)(k:Nat)(h:k<s.size):s.data.toList[k]? = some (s[k]'h):=by
 have:k<s.data.toList.length:=by simpa using h
 rw [List.getElem?_eq_getElem this];rfl
def ET(s:ByteArray)(k:Nat):Prop:=∀(j:Nat) c,j<k→s.data.toList[j]? = some c→fo c=true
def ET.succ{s:ByteArray}{k:Nat}(h:ET s k)(hk:k<s.size)(hc:fo (s[k]'hk)=true):ET s (k+1):=by
 intro j c hj jv;by_cases e:j=k
 ·subst e;rw [Lt s j hk]at jv;cases jv;exact hc
 ·exact h j c (by omega) jv
set_option maxRecDepth 100000 in
def acF(s:ByteArray)(w:World)(hs:s.size≤140737488351232):
 Calls Tryz.prog 174 #[.string s] w λe w'=>e = .returned (.int .i64 (gQ s.data.toList))∧∃pos,w'=w.iter s pos:=by
 go_enter Tryz.func174,Tryz.ntmps174
 go_wp2
 go_loopw [] (λw'=>∃k:Nat,w'=w.iter s k∧k≤s.size∧ET s k) (λw'=>s.size-w'.iterPos w.heap.size)
 case atStart=>exact⟨0,rfl,by omega,λj c hj=>by omega⟩
 case round=>
  obtain⟨k,rfl,hk,hin⟩:=hrel;by_cases hp:k<s.size
  ·by_cases ha:(s[k]'hp).toNat<128
   ·have hnx:∀ty,(Instr.next (.pointer (some ⟨w.heap.size,0,none⟩)) true ty).run Tryz.prog (w.iter s k)=_:=λty=>run_next_ascii w s k ty hp ha
    cases hw:fo (s[k]'hp)
    ·have hlen:=Ls (s:=s.data.toList) (k:=k) (by simpa using hk) hin (λc hc=>by rw [Lt s k hp]at hc;cases hc;exact hw)
     have hc:=of_decide_eq_false hw;clear hw
     go_wp2
     all_goals first
      |(exfalso;simp at *;omega)
      |(go_ret;exact⟨by first |rfl |(rw [hlen];rfl),_,rfl⟩)
    ·have hc:=of_decide_eq_true hw;have hin2:=hin.succ hp hw;clear hw hin
     go_wp2
     all_goals first
      |(exfalso;simp at *;omega)
      |(
       go_roundw
       case rel=>exact⟨k+1,rfl,hp,hin2⟩
       case measure=>simp;omega)
   ·have hnx:∀ty,(Instr.next (.pointer (some ⟨w.heap.size,0,none⟩)) true ty).run Tryz.prog (w.iter s k)=_:=λty=>run_next_any w s k ty hp
    have hd:=(decode_high s k hp (by omega)).1
    have hle:=decode_le s k
    have hlen:=Ls (s:=s.data.toList) (k:=k) (by simpa using hk) hin (λc hc=>by
     rw [Lt s k hp]at hc;cases hc;exact decide_eq_false (by omega))
    generalize Utf8.decode s k=d at hnx hd hle
    go_wp2
    all_goals first
     |(exfalso;simp at *;omega)
     |(go_ret;exact⟨by first |rfl |(rw [hlen];rfl),_,rfl⟩)
  ·have hnx:∀ty,(Instr.next (.pointer (some ⟨w.heap.size,0,none⟩)) true ty).run Tryz.prog (w.iter s k)=_:=λty=>run_next_end w s k ty hp
   have hlen:=Ls (s:=s.data.toList) (k:=k) (by simpa using hk) hin (λc hc=>by
    have:=(List.getElem?_eq_some_iff.1 hc).1
    simp at this;omega)
   obtain rfl:k=s.size:=by omega
   go_wp2
   go_ret
   exact⟨by first|rfl|(rw [hlen];rfl),_,rfl⟩
open Go Go.Proofs Go.RowKit
def Ti:(Tryz.prog.info? 120).map (·.size)=some 2:=by kernel_rfl
set_option maxHeartbeats 1000000 in
set_option maxRecDepth 100000 in
def Tj(b:Nat)(w:World)(h0:w.cell? ⟨b,0,none⟩=some (.pointer (some ⟨b,0,none⟩))):
 Calls Tryz.prog 113 #[.pointer (some ⟨b,0,none⟩)] w λe w'=>e = .returned (.tuple #[])∧w'=w:=by
 obtain⟨j,hj,_⟩:=Option.map_eq_some_iff.1 Ti
 go_enter Tryz.func113,Tryz.ntmps113
 go_wp2
 rw [Lib.run_neq_ptr_same w _ Tryz.underlying117 hj]
 go_wp2
 go_end0
 exact⟨rfl,rfl⟩
set_option maxHeartbeats 1000000 in
set_option maxRecDepth 100000 in
def Tk(b:Nat)(w:World)(T:TypeId)(k:Nat)(h0:w.cell? ⟨b,0,none⟩=some (.pointer none))(hsh:w.shape? b=some (T,k))(hk:0<k)(hlies:liesAt Tryz.prog Tryz.prog.depth T (k / Tryz.prog.cellsOf T) 0 120 1=true)(hfz:w.frozen? ⟨b,0,none⟩=false):
 Calls Tryz.prog 113 #[.pointer (some ⟨b,0,none⟩)] w λe w'=>e = .returned (.tuple #[])∧w'=w.setCell ⟨b,0,none⟩ (.pointer (some ⟨b,0,none⟩)):=by
 obtain⟨j,hj,hjs⟩:=Option.map_eq_some_iff.1 Ti
 go_enter Tryz.func113,Tryz.ntmps113
 go_wp2
 rw [Lib.run_to_unsafe w ⟨b,0,none⟩ Tryz.underlying117 Tryz.underlying256 hj (by rw [hjs];decide) hsh hk]
 simp only [Result.andThen];rw [Oper.upon_value]
 go_wp2
 rw [run_callFunc_extern Tryz.func184 (by kernel_rfl) (by kernel_rfl) (by kernel_rfl) (e:=Extern.AbiNoEscape.same) (by kernel_rfl)]
 rw [Lib.run_noEscape];simp only [Result.andThen];rw [Oper.upon_value]
 go_wp2
 rw [Lib.run_from_unsafe w ⟨b,0,none⟩ Tryz.underlying256 Tryz.underlying117 hj hsh hlies];simp only [Result.andThen];rw [Oper.upon_value]
 go_wp2
 go_end0
 exact⟨rfl,rfl⟩
def cellsByte:Tryz.prog.cellsOf 5=1:=by kernel_rfl
set_option maxHeartbeats 2000000 in
set_option maxRecDepth 100000 in
def Tl(b:Nat)(w:World)(h:w.cell? ⟨b,1,none⟩=some (.slice none 0 0)):
 Calls Tryz.prog 66 #[.pointer (some ⟨b,0,none⟩)] w λe w'=>e = .returned (.string ⟨#[]⟩)∧w'=w.drew:=by
 have hUS:(Builtin.unsafeString_ #[191,3] 9 #[.pointer none,.int .i64 0]).run Tryz.prog w.drew = .ok (.string .empty) w.drew:=Lib.run_unsafeString_none w.drew _ _ _ none;have c1:w.drew.cell? ⟨b,1,none⟩=some (.slice none 0 0):=h;have hSD:(Builtin.unsafeSliceData_ #[118] 191 #[.slice none 0 0]).run Tryz.prog w.drew = .ok (.pointer none) w.drew:=rfl;have mixed:Tryz.prog.follows .mixedOrders=true:=by kernel_rfl
 go_enter Tryz.func66,Tryz.ntmps66
 go_wp2
 go_region_o
 all_goals (go_wp2;go_ret;exact⟨rfl,rfl⟩)
set_option maxHeartbeats 2000000 in
set_option maxRecDepth 100000 in
def Tm(b g cap:Nat)(w:World)(hc0:cap≠0)(h:w.cell? ⟨b,1,none⟩=some (.slice (some ⟨g,0,none⟩) 0 cap)):
 Calls Tryz.prog 66 #[.pointer (some ⟨b,0,none⟩)] w λe w'=>e = .returned (.string ⟨#[]⟩)∧w'=w.drew:=by
 have hUS:(Builtin.unsafeString_ #[191,3] 9 #[.pointer (some ⟨g,0,none⟩),.int .i64 0]).run Tryz.prog w.drew = .ok (.string .empty) w.drew:=Lib.run_unsafeString_none w.drew _ _ _ _;have c1:w.drew.cell? ⟨b,1,none⟩=some (.slice (some ⟨g,0,none⟩) 0 cap):=h;have hSD:(Builtin.unsafeSliceData_ #[118] 191 #[.slice (some ⟨g,0,none⟩) 0 cap]).run Tryz.prog w.drew = .ok (.pointer (some ⟨g,0,none⟩)) w.drew:=Lib.run_unsafeSliceData_row _ _ _ _ _ _ hc0;clear hc0;have mixed:Tryz.prog.follows .mixedOrders=true:=by kernel_rfl
 go_enter Tryz.func66,Tryz.ntmps66
 go_wp2
 go_region_o
 all_goals (go_wp2;go_ret;exact⟨rfl,rfl⟩)
set_option maxHeartbeats 2000000 in
set_option maxRecDepth 100000 in
def Tn(b g:Nat)(w:World)(vs:List Value)(h:w.cell? ⟨b,1,none⟩=some (.slice (some ⟨g,0,none⟩) 0 0))(hb:b<w.heap.size)(hg:w.heap[g]? = some (.cells ⟨vs⟩ 5 (0,0))):
 Calls Tryz.prog 66 #[.pointer (some ⟨b,0,none⟩)] w λe w'=>e = .returned (.string ⟨#[]⟩)∧w'=(w.drew.alloc (.view ⟨g,0,none⟩ 5)):=by
 have hUS:∀(q:Option Addr) (W:World),(Builtin.unsafeString_ #[191,3] 9 #[.pointer q,.int .i64 0]).run Tryz.prog W = .ok (.string .empty) W:=λq W=>Lib.run_unsafeString_none W _ _ _ q
 have c1:w.drew.cell? ⟨b,1,none⟩=some (.slice (some ⟨g,0,none⟩) 0 0):=h
 have hSD:(Builtin.unsafeSliceData_ #[118] 191 #[.slice (some ⟨g,0,none⟩) 0 0]).run Tryz.prog w.drew = .ok (.pointer (some ⟨w.drew.heap.size,0,none⟩)) (w.drew.alloc (.view ⟨g,0,none⟩ 5)):=
  Lib.run_unsafeSliceData_zero w.drew _ _ 5 Tryz.underlying191 ⟨g,0,none⟩ 0 (5,vs.length) (by have hg':w.drew.heap[g]? = some (.cells ⟨vs⟩ 5 (0,0)):=hg;simp [World.shape?,hg'])
 have c2:(w.drew.alloc (.view ⟨g,0,none⟩ 5)).cell? ⟨b,1,none⟩=some (.slice (some ⟨g,0,none⟩) 0 0):=by
  unfold World.cell? at h ⊢;rw [show(w.drew.alloc (.view ⟨g,0,none⟩ 5)).heap[b]? = w.heap[b]? from Lib.alloc_old w.drew _ b hb];exact h
 have c3:(w.alloc (.view ⟨g,0,none⟩ 5)).drew.cell? ⟨b,1,none⟩=some (.slice (some ⟨g,0,none⟩) 0 0):=c2;have mixed:Tryz.prog.follows .mixedOrders=true:=by kernel_rfl
 go_enter Tryz.func66,Tryz.ntmps66
 go_wp2
 go_region_o
 all_goals (go_wp2;go_ret;exact⟨rfl,rfl⟩)
set_option maxHeartbeats 2000000 in
set_option maxRecDepth 100000 in
def To(b g cap:Nat)(w:World)(vs:List Value)(l:anT)(h0:l≠[])(h:w.cell? ⟨b,1,none⟩=some (.slice (some ⟨g,0,none⟩) l.length cap))(hg:w.heap[g]? = some (.cells ⟨vs⟩ 5 (0,0)))
 (hn:l.length≤cap) (hcap:cap≤vs.length) (h63:l.length≤9223372036854775807) (hc:∀(j:Nat) (x:UInt8),l[j]? = some x→vs[j]? = some (Value.int .u8 x.toNat)):
 Calls Tryz.prog 66 #[.pointer (some ⟨b,0,none⟩)] w λe w'=>e = .returned (.string ⟨l.toArray⟩)∧w'=w.drew.freeze ⟨g,0,none⟩ l.length:=by
 have hl0:l.length≠0:=by simpa using h0
 have c1:w.drew.cell? ⟨b,1,none⟩=some (.slice (some ⟨g,0,none⟩) l.length cap):=h;have hg':w.drew.heap[g]? = some (.cells ⟨vs⟩ 5 (0,0)):=hg;have hSD:(Builtin.unsafeSliceData_ #[118] 191 #[.slice (some ⟨g,0,none⟩) l.length cap]).run Tryz.prog w.drew = .ok (.pointer (some ⟨g,0,none⟩)) w.drew:=Lib.run_unsafeSliceData_row _ _ _ _ _ _ (by omega)
 have hUS:(Builtin.unsafeString_ #[191,3] 9 #[.pointer (some ⟨g,0,none⟩),.int .i64 l.length]).run Tryz.prog w.drew = .ok (.string ⟨l.toArray⟩) (w.drew.freeze ⟨g,0,none⟩ l.length):=
  Lib.run_unsafeString_row w.drew 191 3 9 5 Tryz.underlying191 cellsByte g vs.length (by simp [World.shape?,hg']) l h0 (by omega) h63 (λj x hx=>by
   have:=hc j x hx
   rw [show(⟨g,0,none⟩:Addr).add j=⟨g,j,none⟩by unfold Addr.add;split<;>simp_all,Go.Ab.cell_of_heap hg',this])
 have mixed:Tryz.prog.follows .mixedOrders=true:=by kernel_rfl
 go_enter Tryz.func66,Tryz.ntmps66
 go_wp2
 go_region_o
 all_goals (go_wp2;go_ret;exact⟨rfl,rfl⟩)
open Go Go.Ab Go.Proofs
abbrev amu(x:Int):V:=.int .i32 x
abbrev acG(x:Int):V:=.int .i64 x
abbrev amv(x:Int):V:=.int .u32 x
abbrev amw(x:Int):V:=.int .u64 x
abbrev cC(x:Int):V:=.int .u8 x
def amx{α β dm:Type}{a:α}{f:α→dm}{g:β→dm}{r:dm}(h:hQ.on (.inl a) f g=r):f a=r:=h
def amy{α β dm:Type}{b:β}{f:α→dm}{g:β→dm}{r:dm}(h:hQ.on (.inr b) f g=r):g b=r:=h
abbrev amz(x:Bool):V:=.bool x
abbrev bz(x:anT):V:=.str x
structure bq where
 Kind:Int
 N:Int
 S:anT
instance:Inhabited bq:=⟨⟨0,0,([]:anT)⟩⟩
def ed(x:bq):V:=.agg [.int .i64 x.Kind,.int .i64 x.N,.str x.S]
structure Version where
 cl:Int
 b0:bq
instance:Inhabited Version:=⟨⟨0,(⟨0,0,([]:anT)⟩:bq)⟩⟩
def jl(x:Version):V:=.agg [.int .i64 x.cl,.int .i64 x.b0.Kind,.int .i64 x.b0.N,.str x.b0.S]
structure Row where
 Key:anT
 bJ:List Version
instance:Inhabited Row:=⟨⟨([]:anT),([]:List Version)⟩⟩
def c_(x:Row):V:=.agg [.str x.Key,af 4 jl x.bJ]
structure aA where
 cD:Int
 cp:Int
 Rows:List Row
instance:Inhabited aA:=⟨⟨0,0,([]:List Row)⟩⟩
def acH(x:aA):V:=.agg [.int .i64 x.cD,.int .i64 x.cp,af 2 c_ x.Rows]
structure Param where
 Name:anT
 gp:Int
instance:Inhabited Param:=⟨⟨([]:anT),0⟩⟩
def eD(x:Param):V:=.agg [.str x.Name,.int .i64 x.gp]
structure Expr where
 Op:Int
 N:Int
 S:anT
 aw:List Expr
instance:Inhabited Expr:=⟨⟨0,0,([]:anT),([]:List Expr)⟩⟩
mutual
def b2:Expr→V
 |⟨Op,N,S,aw⟩=>.agg [.int .i64 Op,.int .i64 N,.str S,.br 4 aw.length λi=>(AW aw).getD i .d']
def AW:List Expr→List V
 |[]=>[]
 |x::l=>b2 x::AW l
end
def Tp:∀l:List Expr,AW l=l.map b2
 |[]=>rfl
 |x::l=>by rw [AW,Tp l];rfl
def Tq(l:List Expr)(i:Nat)(h:i<l.length):(AW l).getD i .d'=b2 (l.getD i default):=by
 rw [Tp];simp [List.getD,List.getElem?_eq_getElem h]
def Lu(x:Expr):jQ (b2 x).cells [.int .i64 x.Op,.int .i64 x.N,.str x.S,af 4 b2 x.aw]:=by
 cases x;exact .cons (hI _) (.cons (hI _) (.cons (hI _) (.cons (p5 λi hi=>Tq _ i hi) (jQ.nil))))
def AX(x:Expr):jQ [.int .i64 x.Op,.int .i64 x.N,.str x.S,af 4 b2 x.aw] (b2 x).cells:=by
 cases x;exact .cons (hI _) (.cons (hI _) (.cons (hI _) (.cons (p5 λi hi=>(Tq _ i hi).symm) (jQ.nil))))
def iL(x:Expr):gL (b2 x) (.agg [.int .i64 x.Op,.int .i64 x.N,.str x.S,af 4 b2 x.aw]):=by
 have h:=Lu x;cases x;exact Su h
structure Stmt where
 Op:Int
 Name:anT
 Max:Int
 A:Expr
 B:Expr
 Body:List Stmt
 bw:List Stmt
instance:Inhabited Stmt:=⟨⟨0,([]:anT),0,(⟨0,0,([]:anT),([]:List Expr)⟩:Expr),(⟨0,0,([]:anT),([]:List Expr)⟩:Expr),([]:List Stmt),([]:List Stmt)⟩⟩
mutual
def bU:Stmt→V
 |⟨Op,Name,Max,A,B,Body,bw⟩=>.agg [.int .i64 Op,.str Name,.int .i64 Max,.int .i64 A.Op,.int .i64 A.N,.str A.S,af 4 b2 A.aw,.int .i64 B.Op,.int .i64 B.N,.str B.S,af 4 b2 B.aw,.br 13 Body.length λi=>(xc Body).getD i .d',.br 13 bw.length λi=>(xc bw).getD i .d']
def xc:List Stmt→List V
 |[]=>[]
 |x::l=>bU x::xc l
end
def Tr:∀l:List Stmt,xc l=l.map bU
 |[]=>rfl
 |x::l=>by rw [xc,Tr l];rfl
def EU(l:List Stmt)(i:Nat)(h:i<l.length):(xc l).getD i .d'=bU (l.getD i default):=by
 rw [Tr];simp [List.getD,List.getElem?_eq_getElem h]
def acI(x:Stmt):jQ (bU x).cells [.int .i64 x.Op,.str x.Name,.int .i64 x.Max,.int .i64 x.A.Op,.int .i64 x.A.N,.str x.A.S,af 4 b2 x.A.aw,.int .i64 x.B.Op,.int .i64 x.B.N,.str x.B.S,af 4 b2 x.B.aw,af 13 bU x.Body,af 13 bU x.bw]:=by
 cases x;exact .cons (hI _) (.cons (hI _) (.cons (hI _) (.cons (hI _) (.cons (hI _) (.cons (hI _) (.cons (hI _) (.cons (hI _) (.cons (hI _) (.cons (hI _) (.cons (hI _) (.cons (p5 λi hi=>EU _ i hi) (.cons (p5 λi hi=>EU _ i hi) (jQ.nil)))))))))))))
def Ts(x:Stmt):jQ [.int .i64 x.Op,.str x.Name,.int .i64 x.Max,.int .i64 x.A.Op,.int .i64 x.A.N,.str x.A.S,af 4 b2 x.A.aw,.int .i64 x.B.Op,.int .i64 x.B.N,.str x.B.S,af 4 b2 x.B.aw,af 13 bU x.Body,af 13 bU x.bw] (bU x).cells:=by
 cases x;exact .cons (hI _) (.cons (hI _) (.cons (hI _) (.cons (hI _) (.cons (hI _) (.cons (hI _) (.cons (hI _) (.cons (hI _) (.cons (hI _) (.cons (hI _) (.cons (hI _) (.cons (p5 λi hi=>(EU _ i hi).symm) (.cons (p5 λi hi=>(EU _ i hi).symm) (jQ.nil)))))))))))))
def kT(x:Stmt):gL (bU x) (.agg [.int .i64 x.Op,.str x.Name,.int .i64 x.Max,.int .i64 x.A.Op,.int .i64 x.A.N,.str x.A.S,af 4 b2 x.A.aw,.int .i64 x.B.Op,.int .i64 x.B.N,.str x.B.S,af 4 b2 x.B.aw,af 13 bU x.Body,af 13 bU x.bw]):=by
 have h:=acI x;cases x;exact Su h
structure bd where
 Name:anT
 Params:List Param
 Body:List Stmt
instance:Inhabited bd:=⟨⟨([]:anT),([]:List Param),([]:List Stmt)⟩⟩
def ee(x:bd):V:=.agg [.str x.Name,af 2 eD x.Params,af 13 bU x.Body]
structure Outcome where
 Status:Int
 Code:Int
 Out:List bq
instance:Inhabited Outcome:=⟨⟨0,0,([]:List bq)⟩⟩
def acJ(x:Outcome):V:=.agg [.int .i64 x.Status,.int .i64 x.Code,af 3 ed x.Out]
structure ev where
 Client:Int
 Seq:Int
 Outcome:Outcome
instance:Inhabited ev:=⟨⟨0,0,(⟨0,0,([]:List bq)⟩:Outcome)⟩⟩
def iq(x:ev):V:=.agg [.int .i64 x.Client,.int .i64 x.Seq,.int .i64 x.Outcome.Status,.int .i64 x.Outcome.Code,af 3 ed x.Outcome.Out]
structure bG where
 Client:Int
 Next:Int
 bS:List ev
instance:Inhabited bG:=⟨⟨0,0,([]:List ev)⟩⟩
def dn(x:bG):V:=.agg [.int .i64 x.Client,.int .i64 x.Next,af 5 iq x.bS]
structure Part where
 Id:Int
 fQ:anT
 Node:Int
 h2:Int
 ir:anT
instance:Inhabited Part:=⟨⟨0,([]:anT),0,0,([]:anT)⟩⟩
def cX(x:Part):V:=.agg [.int .i64 x.Id,.str x.fQ,.int .i64 x.Node,.int .i64 x.h2,.str x.ir]
structure b7 where
 Version:Int
 aW:List Part
instance:Inhabited b7:=⟨⟨0,([]:List Part)⟩⟩
def acK(x:b7):V:=.agg [.int .i64 x.Version,af 5 cX x.aW]
structure be where
 Key:anT
 Count:Int
instance:Inhabited be:=⟨⟨([]:anT),0⟩⟩
def dT(x:be):V:=.agg [.str x.Key,.int .i64 x.Count]
structure fg where
 eI:Bool
 Reads:List anT
 cT:List anT
instance:Inhabited fg:=⟨⟨false,([]:List anT),([]:List anT)⟩⟩
def acL(x:fg):V:=.agg [.bool x.eI,af 1 bz x.Reads,af 1 bz x.cT]
structure Request where
 Client:Int
 Seq:Int
 bd:anT
 aw:List bq
 eW:Bool
 bx:fg
instance:Inhabited Request:=⟨⟨0,0,([]:anT),([]:List bq),false,(⟨false,([]:List anT),([]:List anT)⟩:fg)⟩⟩
def ew(x:Request):V:=.agg [.int .i64 x.Client,.int .i64 x.Seq,.str x.bd,af 3 ed x.aw,.bool x.eW,.bool x.bx.eI,af 1 bz x.bx.Reads,af 1 bz x.bx.cT]
structure bP where
 Pos:Int
 aA:aA
 cc:List bd
 cQ:List bG
 Place:b7
 be:List be
 Queue:List Request
 de:Int
instance:Inhabited bP:=⟨⟨0,(⟨0,0,([]:List Row)⟩:aA),([]:List bd),([]:List bG),(⟨0,([]:List Part)⟩:b7),([]:List be),([]:List Request),0⟩⟩
def Tt(x:bP):V:=.agg [.int .i64 x.Pos,.int .i64 x.aA.cD,.int .i64 x.aA.cp,af 2 c_ x.aA.Rows,af 3 ee x.cc,af 3 dn x.cQ,.int .i64 x.Place.Version,af 5 cX x.Place.aW,af 2 dT x.be,af 8 ew x.Queue,.int .u64 x.de]
structure bI where
 Key:anT
 b0:bq
instance:Inhabited bI:=⟨⟨([]:anT),(⟨0,0,([]:anT)⟩:bq)⟩⟩
def fE(x:bI):V:=.agg [.str x.Key,.int .i64 x.b0.Kind,.int .i64 x.b0.N,.str x.b0.S]
structure e5 where
 s:anT
 at_:Int
 e:Int
instance:Inhabited e5:=⟨⟨([]:anT),0,0⟩⟩
def amA(x:e5):V:=.agg [.str x.s,.int .i64 x.at_,.int .i64 x.e]
structure oe where
 fR:bP
 Lv:List bI
 sources:List anT
instance:Inhabited oe:=⟨⟨(⟨0,(⟨0,0,([]:List Row)⟩:aA),([]:List bd),([]:List bG),(⟨0,([]:List Part)⟩:b7),([]:List be),([]:List Request),0⟩:bP),([]:List bI),([]:List anT)⟩⟩
def amB(x:oe):V:=.agg [.int .i64 x.fR.Pos,.int .i64 x.fR.aA.cD,.int .i64 x.fR.aA.cp,af 2 c_ x.fR.aA.Rows,af 3 ee x.fR.cc,af 3 dn x.fR.cQ,.int .i64 x.fR.Place.Version,af 5 cX x.fR.Place.aW,af 2 dT x.fR.be,af 8 ew x.fR.Queue,.int .u64 x.fR.de,af 4 fE x.Lv,af 1 bz x.sources]
structure Token where
 Kind:Int
 Text:anT
 N:Int
 kU:Int
instance:Inhabited Token:=⟨⟨0,([]:anT),0,0⟩⟩
def cE(x:Token):V:=.agg [.int .i64 x.Kind,.str x.Text,.int .i64 x.N,.int .i64 x.kU]
structure Tu where
 acM:Int
 seq:Int
instance:Inhabited Tu:=⟨⟨0,0⟩⟩
def amC(x:Tu):V:=.agg [.int .i64 x.acM,.int .i64 x.seq]
structure Lw where
 acN:Bool
 Stmt:Stmt
 acO:Int
 Expr:Expr
 acP:Bool
instance:Inhabited Lw:=⟨⟨false,(⟨0,([]:anT),0,(⟨0,0,([]:anT),([]:List Expr)⟩:Expr),(⟨0,0,([]:anT),([]:List Expr)⟩:Expr),([]:List Stmt),([]:List Stmt)⟩:Stmt),0,(⟨0,0,([]:anT),([]:List Expr)⟩:Expr),false⟩⟩
def acQ(x:Lw):V:=.agg [.bool x.acN,.int .i64 x.Stmt.Op,.str x.Stmt.Name,.int .i64 x.Stmt.Max,.int .i64 x.Stmt.A.Op,.int .i64 x.Stmt.A.N,.str x.Stmt.A.S,af 4 b2 x.Stmt.A.aw,.int .i64 x.Stmt.B.Op,.int .i64 x.Stmt.B.N,.str x.Stmt.B.S,af 4 b2 x.Stmt.B.aw,af 13 bU x.Stmt.Body,af 13 bU x.Stmt.bw,.int .i64 x.acO,.int .i64 x.Expr.Op,.int .i64 x.Expr.N,.str x.Expr.S,af 4 b2 x.Expr.aw,.bool x.acP]
structure aM where
 tokens:List Token
 at_:Int
instance:Inhabited aM:=⟨⟨([]:List Token),0⟩⟩
def amD(x:aM):V:=.agg [af 4 cE x.tokens,.int .i64 x.at_]
structure Tv where
 line:Int
 code:Int
instance:Inhabited Tv:=⟨⟨0,0⟩⟩
def amE(x:Tv):V:=.agg [.int .i64 x.line,.int .i64 x.code]
structure ko where
 s:anT
 at_:Int
 e:Int
instance:Inhabited ko:=⟨⟨([]:anT),0,0⟩⟩
def amF(x:ko):V:=.agg [.str x.s,.int .i64 x.at_,.int .i64 x.e]
structure og where
 s:anT
 at_:Int
 e:Int
instance:Inhabited og:=⟨⟨([]:anT),0,0⟩⟩
def amG(x:og):V:=.agg [.str x.s,.int .i64 x.at_,.int .i64 x.e]
structure kp where
 name:Bool
 a:Bool
 b:Bool
 max:Bool
 body:Bool
 other:Bool
instance:Inhabited kp:=⟨⟨false,false,false,false,false,false⟩⟩
def amH(x:kp):V:=.agg [.bool x.name,.bool x.a,.bool x.b,.bool x.max,.bool x.body,.bool x.other]
structure hz where
 s:anT
 at_:Int
 e:Int
instance:Inhabited hz:=⟨⟨([]:anT),0,0⟩⟩
def amI(x:hz):V:=.agg [.str x.s,.int .i64 x.at_,.int .i64 x.e]
def tt:dq:=[
 (1,⟨.aU,1,8,[.aK],[]⟩),
 (2,⟨.int .i64,1,8,[.int .i64 0],[]⟩),
 (3,⟨.int .i64,1,8,[.int .i64 0],[]⟩),
 (4,⟨.bool,1,1,[.bool false],[]⟩),
 (5,⟨.int .u8,1,1,[.int .u8 0],[]⟩),
 (6,⟨.int .u8,1,1,[.int .u8 0],[]⟩),
 (7,⟨.bR [(0,2,1),(1,3,1),(2,4,1),(3,6,1)],4,24,[.int .i64 0,.int .i64 0,.bool false,.int .u8 0],[]⟩),
 (8,⟨.bR [(0,2,1),(1,3,1),(2,4,1),(3,6,1)],4,24,[.int .i64 0,.int .i64 0,.bool false,.int .u8 0],[]⟩),
 (9,⟨.str,1,16,[.str ([]:anT)],[]⟩),
 (10,⟨.str,1,16,[.str ([]:anT)],[]⟩),
 (11,⟨.str,1,16,[.str ([]:anT)],[]⟩),
 (12,⟨.int .u64,1,8,[.int .u64 0],[]⟩),
 (13,⟨.bR [(0,9,1),(1,12,1)],2,24,[.str ([]:anT),.int .u64 0],[]⟩),
 (14,⟨.bR [(0,9,1),(1,12,1)],2,24,[.str ([]:anT),.int .u64 0],[]⟩),
 (15,⟨.ptr,1,8,[.d'],[]⟩),
 (16,⟨.ptr,1,8,[.d'],[]⟩),
 (17,⟨.ptr,1,8,[.d'],[]⟩),
 (18,⟨.bR [(0,17,1)],1,8,[.d'],[]⟩),
 (19,⟨.bR [(0,17,1)],1,8,[.d'],[]⟩),
 (20,⟨.nZ,1,16,[.hX],[]⟩),
 (21,⟨.int .i32,1,4,[.int .i32 0],[]⟩),
 (22,⟨.br 68,1,24,[af 2 c_ ([]:List Row)],[]⟩),
 (23,⟨.bR [(0,2,1),(1,2,1),(2,22,1)],3,40,[.int .i64 0,.int .i64 0,af 2 c_ ([]:List Row)],[]⟩),
 (24,⟨.bR [(0,2,1),(1,2,1),(2,22,1)],3,40,[.int .i64 0,.int .i64 0,af 2 c_ ([]:List Row)],[]⟩),
 (25,⟨.br 52,1,24,[af 3 ee ([]:List bd)],[]⟩),
 (26,⟨.br 101,1,24,[af 3 dn ([]:List bG)],[]⟩),
 (27,⟨.br 61,1,24,[af 5 cX ([]:List Part)],[]⟩),
 (28,⟨.bR [(0,2,1),(1,27,1)],2,32,[.int .i64 0,af 5 cX ([]:List Part)],[]⟩),
 (29,⟨.bR [(0,2,1),(1,27,1)],2,32,[.int .i64 0,af 5 cX ([]:List Part)],[]⟩),
 (30,⟨.br 107,1,24,[af 2 dT ([]:List be)],[]⟩),
 (31,⟨.br 59,1,24,[af 8 ew ([]:List Request)],[]⟩),
 (32,⟨.int .u64,1,8,[.int .u64 0],[]⟩),
 (33,⟨.bR [(0,2,1),(1,24,3),(4,25,1),(5,26,1),(6,29,2),(8,30,1),(9,31,1),(10,32,1)],11,184,[.int .i64 0,.int .i64 0,.int .i64 0,af 2 c_ ([]:List Row),af 3 ee ([]:List bd),af 3 dn ([]:List bG),.int .i64 0,af 5 cX ([]:List Part),af 2 dT ([]:List be),af 8 ew ([]:List Request),.int .u64 0],[]⟩),
 (34,⟨.bR [(0,2,1),(1,24,3),(4,25,1),(5,26,1),(6,29,2),(8,30,1),(9,31,1),(10,32,1)],11,184,[.int .i64 0,.int .i64 0,.int .i64 0,af 2 c_ ([]:List Row),af 3 ee ([]:List bd),af 3 dn ([]:List bG),.int .i64 0,af 5 cX ([]:List Part),af 2 dT ([]:List be),af 8 ew ([]:List Request),.int .u64 0],[]⟩),
 (35,⟨.aU,1,8,[.aK],[]⟩),
 (36,⟨.aU,1,8,[.aK],[]⟩),
 (37,⟨.int .i64,1,8,[.int .i64 0],[]⟩),
 (39,⟨.aU,1,8,[.aK],[]⟩),
 (41,⟨.aU,1,8,[.aK],[]⟩),
 (42,⟨.aU,1,8,[.aK],[]⟩),
 (43,⟨.aU,1,8,[.aK],[]⟩),
 (44,⟨.aU,1,8,[.aK],[]⟩),
 (45,⟨.aU,1,8,[.aK],[]⟩),
 (46,⟨.aU,1,8,[.aK],[]⟩),
 (47,⟨.aU,1,8,[.aK],[]⟩),
 (48,⟨.aU,1,8,[.aK],[]⟩),
 (49,⟨.br 109,1,24,[af 2 eD ([]:List Param)],[]⟩),
 (50,⟨.br 167,1,24,[af 13 bU ([]:List Stmt)],[]⟩),
 (51,⟨.bR [(0,9,1),(1,49,1),(2,50,1)],3,64,[.str ([]:anT),af 2 eD ([]:List Param),af 13 bU ([]:List Stmt)],[]⟩),
 (52,⟨.bR [(0,9,1),(1,49,1),(2,50,1)],3,64,[.str ([]:anT),af 2 eD ([]:List Param),af 13 bU ([]:List Stmt)],[]⟩),
 (53,⟨.aU,1,8,[.aK],[]⟩),
 (54,⟨.br 63,1,24,[af 3 ed ([]:List bq)],[]⟩),
 (55,⟨.br 9,1,24,[af 1 bz ([]:List anT)],[]⟩),
 (56,⟨.bR [(0,4,1),(1,55,1),(2,55,1)],3,56,[.bool false,af 1 bz ([]:List anT),af 1 bz ([]:List anT)],[]⟩),
 (57,⟨.bR [(0,4,1),(1,55,1),(2,55,1)],3,56,[.bool false,af 1 bz ([]:List anT),af 1 bz ([]:List anT)],[]⟩),
 (58,⟨.bR [(0,3,1),(1,2,1),(2,9,1),(3,54,1),(4,4,1),(5,57,3)],8,120,[.int .i64 0,.int .i64 0,.str ([]:anT),af 3 ed ([]:List bq),.bool false,.bool false,af 1 bz ([]:List anT),af 1 bz ([]:List anT)],[]⟩),
 (59,⟨.bR [(0,3,1),(1,2,1),(2,9,1),(3,54,1),(4,4,1),(5,57,3)],8,120,[.int .i64 0,.int .i64 0,.str ([]:anT),af 3 ed ([]:List bq),.bool false,.bool false,af 1 bz ([]:List anT),af 1 bz ([]:List anT)],[]⟩),
 (60,⟨.bR [(0,3,1),(1,9,1),(2,3,1),(3,3,1),(4,9,1)],5,56,[.int .i64 0,.str ([]:anT),.int .i64 0,.int .i64 0,.str ([]:anT)],[]⟩),
 (61,⟨.bR [(0,3,1),(1,9,1),(2,3,1),(3,3,1),(4,9,1)],5,56,[.int .i64 0,.str ([]:anT),.int .i64 0,.int .i64 0,.str ([]:anT)],[]⟩),
 (62,⟨.bR [(0,3,1),(1,2,1),(2,9,1)],3,32,[.int .i64 0,.int .i64 0,.str ([]:anT)],[]⟩),
 (63,⟨.bR [(0,3,1),(1,2,1),(2,9,1)],3,32,[.int .i64 0,.int .i64 0,.str ([]:anT)],[]⟩),
 (64,⟨.bR [(0,2,1),(1,63,3)],4,40,[.int .i64 0,.int .i64 0,.int .i64 0,.str ([]:anT)],[]⟩),
 (65,⟨.bR [(0,2,1),(1,63,3)],4,40,[.int .i64 0,.int .i64 0,.int .i64 0,.str ([]:anT)],[]⟩),
 (66,⟨.br 65,1,24,[af 4 jl ([]:List Version)],[]⟩),
 (67,⟨.bR [(0,9,1),(1,66,1)],2,40,[.str ([]:anT),af 4 jl ([]:List Version)],[]⟩),
 (68,⟨.bR [(0,9,1),(1,66,1)],2,40,[.str ([]:anT),af 4 jl ([]:List Version)],[]⟩),
 (69,⟨.aU,1,8,[.aK],[]⟩),
 (71,⟨.aU,1,8,[.aK],[]⟩),
 (72,⟨.br 149,1,24,[af 4 fE ([]:List bI)],[]⟩),
 (74,⟨.aU,1,8,[.aK],[]⟩),
 (76,⟨.aU,1,8,[.aK],[]⟩),
 (78,⟨.aU,1,8,[.aK],[]⟩),
 (80,⟨.aU,1,8,[.aK],[]⟩),
 (82,⟨.aU,1,8,[.aK],[]⟩),
 (84,⟨.aU,1,8,[.aK],[]⟩),
 (86,⟨.aU,1,8,[.aK],[]⟩),
 (88,⟨.aU,1,8,[.aK],[]⟩),
 (90,⟨.aU,1,8,[.aK],[]⟩),
 (91,⟨.aU,1,8,[.aK],[]⟩),
 (92,⟨.aU,1,8,[.aK],[]⟩),
 (93,⟨.aU,1,8,[.aK],[]⟩),
 (94,⟨.aU,1,8,[.aK],[]⟩),
 (95,⟨.aU,1,8,[.aK],[]⟩),
 (96,⟨.aU,1,8,[.aK],[]⟩),
 (98,⟨.aU,1,8,[.aK],[]⟩),
 (99,⟨.br 105,1,24,[af 5 iq ([]:List ev)],[]⟩),
 (100,⟨.bR [(0,3,1),(1,2,1),(2,99,1)],3,40,[.int .i64 0,.int .i64 0,af 5 iq ([]:List ev)],[]⟩),
 (101,⟨.bR [(0,3,1),(1,2,1),(2,99,1)],3,40,[.int .i64 0,.int .i64 0,af 5 iq ([]:List ev)],[]⟩),
 (102,⟨.bR [(0,3,1),(1,3,1),(2,54,1)],3,40,[.int .i64 0,.int .i64 0,af 3 ed ([]:List bq)],[]⟩),
 (103,⟨.bR [(0,3,1),(1,3,1),(2,54,1)],3,40,[.int .i64 0,.int .i64 0,af 3 ed ([]:List bq)],[]⟩),
 (104,⟨.bR [(0,3,1),(1,2,1),(2,103,3)],5,56,[.int .i64 0,.int .i64 0,.int .i64 0,.int .i64 0,af 3 ed ([]:List bq)],[]⟩),
 (105,⟨.bR [(0,3,1),(1,2,1),(2,103,3)],5,56,[.int .i64 0,.int .i64 0,.int .i64 0,.int .i64 0,af 3 ed ([]:List bq)],[]⟩),
 (106,⟨.bR [(0,9,1),(1,2,1)],2,24,[.str ([]:anT),.int .i64 0],[]⟩),
 (107,⟨.bR [(0,9,1),(1,2,1)],2,24,[.str ([]:anT),.int .i64 0],[]⟩),
 (108,⟨.bR [(0,9,1),(1,3,1)],2,24,[.str ([]:anT),.int .i64 0],[]⟩),
 (109,⟨.bR [(0,9,1),(1,3,1)],2,24,[.str ([]:anT),.int .i64 0],[]⟩),
 (110,⟨.aU,1,8,[.aK],[]⟩),
 (111,⟨.aU,1,8,[.aK],[]⟩),
 (112,⟨.aU,1,8,[.aK],[]⟩),
 (113,⟨.aU,1,8,[.aK],[]⟩),
 (114,⟨.aU,1,8,[.aK],[]⟩),
 (115,⟨.aU,1,8,[.aK],[]⟩),
 (116,⟨.aU,1,8,[.aK],[]⟩),
 (117,⟨.ptr,1,8,[.d'],[]⟩),
 (118,⟨.br 5,1,24,[af 1 cC ([]:List Int)],[]⟩),
 (119,⟨.bR [(0,117,1),(1,118,1)],2,32,[.d',af 1 cC ([]:List Int)],[]⟩),
 (120,⟨.bR [(0,117,1),(1,118,1)],2,32,[.d',af 1 cC ([]:List Int)],[(0,120)]⟩),
 (121,⟨.nZ,1,16,[.hX],[]⟩),
 (122,⟨.nZ,1,16,[.hX],[]⟩),
 (124,⟨.aU,1,8,[.aK],[]⟩),
 (125,⟨.aU,1,8,[.aK],[]⟩),
 (126,⟨.aU,1,8,[.aK],[]⟩),
 (127,⟨.aU,1,8,[.aK],[]⟩),
 (128,⟨.aU,1,8,[.aK],[]⟩),
 (129,⟨.aU,1,8,[.aK],[]⟩),
 (130,⟨.aU,1,8,[.aK],[]⟩),
 (131,⟨.aU,1,8,[.aK],[]⟩),
 (132,⟨.aU,1,8,[.aK],[]⟩),
 (133,⟨.aU,1,8,[.aK],[]⟩),
 (134,⟨.aU,1,8,[.aK],[]⟩),
 (135,⟨.ptr,1,8,[.d'],[]⟩),
 (136,⟨.bR [(0,9,1),(1,3,1),(2,37,1)],3,32,[.str ([]:anT),.int .i64 0,.int .i64 0],[]⟩),
 (137,⟨.bR [(0,9,1),(1,3,1),(2,37,1)],3,32,[.str ([]:anT),.int .i64 0,.int .i64 0],[]⟩),
 (138,⟨.bR [(0,34,11),(11,72,1),(12,55,1)],13,232,[.int .i64 0,.int .i64 0,.int .i64 0,af 2 c_ ([]:List Row),af 3 ee ([]:List bd),af 3 dn ([]:List bG),.int .i64 0,af 5 cX ([]:List Part),af 2 dT ([]:List be),af 8 ew ([]:List Request),.int .u64 0,af 4 fE ([]:List bI),af 1 bz ([]:List anT)],[]⟩),
 (139,⟨.bR [(0,34,11),(11,72,1),(12,55,1)],13,232,[.int .i64 0,.int .i64 0,.int .i64 0,af 2 c_ ([]:List Row),af 3 ee ([]:List bd),af 3 dn ([]:List bG),.int .i64 0,af 5 cX ([]:List Part),af 2 dT ([]:List be),af 8 ew ([]:List Request),.int .u64 0,af 4 fE ([]:List bI),af 1 bz ([]:List anT)],[]⟩),
 (140,⟨.aU,1,8,[.aK],[]⟩),
 (141,⟨.aU,1,8,[.aK],[]⟩),
 (143,⟨.aU,1,8,[.aK],[]⟩),
 (145,⟨.aU,1,8,[.aK],[]⟩),
 (147,⟨.aU,1,8,[.aK],[]⟩),
 (148,⟨.bR [(0,9,1),(1,63,3)],4,48,[.str ([]:anT),.int .i64 0,.int .i64 0,.str ([]:anT)],[]⟩),
 (149,⟨.bR [(0,9,1),(1,63,3)],4,48,[.str ([]:anT),.int .i64 0,.int .i64 0,.str ([]:anT)],[]⟩),
 (150,⟨.aU,1,8,[.aK],[]⟩),
 (152,⟨.aU,1,8,[.aK],[]⟩),
 (154,⟨.aU,1,8,[.aK],[]⟩),
 (156,⟨.aU,1,8,[.aK],[]⟩),
 (158,⟨.aU,1,8,[.aK],[]⟩),
 (159,⟨.aU,1,8,[.aK],[]⟩),
 (160,⟨.aU,1,8,[.aK],[]⟩),
 (161,⟨.aU,1,8,[.aK],[]⟩),
 (162,⟨.aU,1,8,[.aK],[]⟩),
 (163,⟨.br 165,1,24,[af 4 b2 ([]:List Expr)],[]⟩),
 (164,⟨.bR [(0,3,1),(1,2,1),(2,9,1),(3,163,1)],4,56,[.int .i64 0,.int .i64 0,.str ([]:anT),af 4 b2 ([]:List Expr)],[]⟩),
 (165,⟨.bR [(0,3,1),(1,2,1),(2,9,1),(3,163,1)],4,56,[.int .i64 0,.int .i64 0,.str ([]:anT),af 4 b2 ([]:List Expr)],[]⟩),
 (166,⟨.bR [(0,3,1),(1,9,1),(2,3,1),(3,165,4),(7,165,4),(11,50,1),(12,50,1)],13,192,[.int .i64 0,.str ([]:anT),.int .i64 0,.int .i64 0,.int .i64 0,.str ([]:anT),af 4 b2 ([]:List Expr),.int .i64 0,.int .i64 0,.str ([]:anT),af 4 b2 ([]:List Expr),af 13 bU ([]:List Stmt),af 13 bU ([]:List Stmt)],[]⟩),
 (167,⟨.bR [(0,3,1),(1,9,1),(2,3,1),(3,165,4),(7,165,4),(11,50,1),(12,50,1)],13,192,[.int .i64 0,.str ([]:anT),.int .i64 0,.int .i64 0,.int .i64 0,.str ([]:anT),af 4 b2 ([]:List Expr),.int .i64 0,.int .i64 0,.str ([]:anT),af 4 b2 ([]:List Expr),af 13 bU ([]:List Stmt),af 13 bU ([]:List Stmt)],[]⟩),
 (168,⟨.aU,1,8,[.aK],[]⟩),
 (169,⟨.aU,1,8,[.aK],[]⟩),
 (170,⟨.aU,1,8,[.aK],[]⟩),
 (171,⟨.aU,1,8,[.aK],[]⟩),
 (172,⟨.aU,1,8,[.aK],[]⟩),
 (173,⟨.aU,1,8,[.aK],[]⟩),
 (174,⟨.aU,1,8,[.aK],[]⟩),
 (175,⟨.aU,1,8,[.aK],[]⟩),
 (176,⟨.aU,1,8,[.aK],[]⟩),
 (177,⟨.aU,1,8,[.aK],[]⟩),
 (178,⟨.aU,1,8,[.aK],[]⟩),
 (179,⟨.int .u64,1,8,[.int .u64 0],[]⟩),
 (180,⟨.aU,1,8,[.aK],[]⟩),
 (181,⟨.aU,1,8,[.aK],[]⟩),
 (182,⟨.aU,1,8,[.aK],[]⟩),
 (183,⟨.aU,1,8,[.aK],[]⟩),
 (184,⟨.ptr,1,8,[.d'],[]⟩),
 (185,⟨.bR [(0,120,2),(2,3,1)],3,40,[.d',af 1 cC ([]:List Int),.int .i64 0],[(0,120)]⟩),
 (186,⟨.bR [(0,120,2),(2,3,1)],3,40,[.d',af 1 cC ([]:List Int),.int .i64 0],[(0,120)]⟩),
 (187,⟨.aU,1,8,[.aK],[]⟩),
 (188,⟨.aU,1,8,[.aK],[]⟩),
 (189,⟨.aU,1,8,[.aK],[]⟩),
 (190,⟨.aU,1,8,[.aK],[]⟩),
 (191,⟨.ptr,1,8,[.d'],[]⟩),
 (192,⟨.aU,1,8,[.aK],[]⟩),
 (193,⟨.aU,1,8,[.aK],[]⟩),
 (194,⟨.aU,1,8,[.aK],[]⟩),
 (195,⟨.aU,1,8,[.aK],[]⟩),
 (196,⟨.bR [(0,71,1)],1,8,[.aK],[]⟩),
 (197,⟨.bR [(0,71,1)],1,8,[.aK],[]⟩),
 (198,⟨.aU,1,8,[.aK],[]⟩),
 (199,⟨.bR [(0,74,1)],1,8,[.aK],[]⟩),
 (200,⟨.bR [(0,74,1)],1,8,[.aK],[]⟩),
 (201,⟨.aU,1,8,[.aK],[]⟩),
 (202,⟨.aU,1,8,[.aK],[]⟩),
 (203,⟨.bR [(0,202,1)],1,8,[.aK],[]⟩),
 (204,⟨.bR [(0,202,1)],1,8,[.aK],[]⟩),
 (205,⟨.aU,1,8,[.aK],[]⟩),
 (206,⟨.aU,1,8,[.aK],[]⟩),
 (207,⟨.aU,1,8,[.aK],[]⟩),
 (208,⟨.bR [(0,207,1)],1,8,[.aK],[]⟩),
 (209,⟨.bR [(0,207,1)],1,8,[.aK],[]⟩),
 (210,⟨.aU,1,8,[.aK],[]⟩),
 (211,⟨.aU,1,8,[.aK],[]⟩),
 (212,⟨.bR [(0,78,1)],1,8,[.aK],[]⟩),
 (213,⟨.bR [(0,78,1)],1,8,[.aK],[]⟩),
 (214,⟨.aU,1,8,[.aK],[]⟩),
 (215,⟨.bR [(0,80,1)],1,8,[.aK],[]⟩),
 (216,⟨.bR [(0,80,1)],1,8,[.aK],[]⟩),
 (217,⟨.aU,1,8,[.aK],[]⟩),
 (218,⟨.bR [(0,84,1)],1,8,[.aK],[]⟩),
 (219,⟨.bR [(0,84,1)],1,8,[.aK],[]⟩),
 (220,⟨.aU,1,8,[.aK],[]⟩),
 (221,⟨.bR [(0,86,1)],1,8,[.aK],[]⟩),
 (222,⟨.bR [(0,86,1)],1,8,[.aK],[]⟩),
 (223,⟨.aU,1,8,[.aK],[]⟩),
 (224,⟨.aU,1,8,[.aK],[]⟩),
 (225,⟨.aU,1,8,[.aK],[]⟩),
 (226,⟨.aU,1,8,[.aK],[]⟩),
 (228,⟨.aU,1,8,[.aK],[]⟩),
 (230,⟨.aU,1,8,[.aK],[]⟩),
 (232,⟨.aU,1,8,[.aK],[]⟩),
 (234,⟨.aU,1,8,[.aK],[]⟩),
 (235,⟨.br 292,1,24,[af 4 cE ([]:List Token)],[]⟩),
 (237,⟨.aU,1,8,[.aK],[]⟩),
 (238,⟨.aU,1,8,[.aK],[]⟩),
 (239,⟨.aU,1,8,[.aK],[]⟩),
 (240,⟨.aU,1,8,[.aK],[]⟩),
 (241,⟨.aU,1,8,[.aK],[]⟩),
 (242,⟨.aU,1,8,[.aK],[]⟩),
 (243,⟨.aU,1,8,[.aK],[]⟩),
 (244,⟨.aU,1,8,[.aK],[]⟩),
 (245,⟨.aU,1,8,[.aK],[]⟩),
 (246,⟨.aU,1,8,[.aK],[]⟩),
 (247,⟨.aU,1,8,[.aK],[]⟩),
 (248,⟨.aU,1,8,[.aK],[]⟩),
 (249,⟨.aU,1,8,[.aK],[]⟩),
 (250,⟨.bR [(0,3,1),(1,2,1)],2,16,[.int .i64 0,.int .i64 0],[]⟩),
 (251,⟨.bR [(0,3,1),(1,2,1)],2,16,[.int .i64 0,.int .i64 0],[]⟩),
 (252,⟨.aU,1,8,[.aK],[]⟩),
 (253,⟨.aU,1,8,[.aK],[]⟩),
 (254,⟨.aU,1,8,[.aK],[]⟩),
 (255,⟨.aU,1,8,[.aK],[]⟩),
 (257,⟨.aU,1,8,[.aK],[]⟩),
 (258,⟨.aU,1,8,[.aK],[]⟩),
 (259,⟨.aU,1,8,[.aK],[]⟩),
 (260,⟨.aU,1,8,[.aK],[]⟩),
 (261,⟨.aU,1,8,[.aK],[]⟩),
 (262,⟨.aU,1,8,[.aK],[]⟩),
 (263,⟨.aU,1,8,[.aK],[]⟩),
 (264,⟨.aU,1,8,[.aK],[]⟩),
 (265,⟨.aU,1,8,[.aK],[]⟩),
 (266,⟨.aU,1,8,[.aK],[]⟩),
 (267,⟨.aU,1,8,[.aK],[]⟩),
 (268,⟨.aU,1,8,[.aK],[]⟩),
 (269,⟨.br 272,1,24,[af 20 acQ ([]:List Lw)],[]⟩),
 (270,⟨.aU,1,8,[.aK],[]⟩),
 (271,⟨.bR [(0,4,1),(1,167,13),(14,3,1),(15,165,4),(19,4,1)],20,272,[.bool false,.int .i64 0,.str ([]:anT),.int .i64 0,.int .i64 0,.int .i64 0,.str ([]:anT),af 4 b2 ([]:List Expr),.int .i64 0,.int .i64 0,.str ([]:anT),af 4 b2 ([]:List Expr),af 13 bU ([]:List Stmt),af 13 bU ([]:List Stmt),.int .i64 0,.int .i64 0,.int .i64 0,.str ([]:anT),af 4 b2 ([]:List Expr),.bool false],[]⟩),
 (272,⟨.bR [(0,4,1),(1,167,13),(14,3,1),(15,165,4),(19,4,1)],20,272,[.bool false,.int .i64 0,.str ([]:anT),.int .i64 0,.int .i64 0,.int .i64 0,.str ([]:anT),af 4 b2 ([]:List Expr),.int .i64 0,.int .i64 0,.str ([]:anT),af 4 b2 ([]:List Expr),af 13 bU ([]:List Stmt),af 13 bU ([]:List Stmt),.int .i64 0,.int .i64 0,.int .i64 0,.str ([]:anT),af 4 b2 ([]:List Expr),.bool false],[]⟩),
 (273,⟨.aU,1,8,[.aK],[]⟩),
 (274,⟨.ptr,1,8,[.d'],[]⟩),
 (275,⟨.bR [(0,9,1),(1,3,1),(2,37,1)],3,32,[.str ([]:anT),.int .i64 0,.int .i64 0],[]⟩),
 (276,⟨.bR [(0,9,1),(1,3,1),(2,37,1)],3,32,[.str ([]:anT),.int .i64 0,.int .i64 0],[]⟩),
 (277,⟨.aU,1,8,[.aK],[]⟩),
 (278,⟨.ptr,1,8,[.d'],[]⟩),
 (279,⟨.bR [(0,9,1),(1,3,1),(2,37,1)],3,32,[.str ([]:anT),.int .i64 0,.int .i64 0],[]⟩),
 (280,⟨.bR [(0,9,1),(1,3,1),(2,37,1)],3,32,[.str ([]:anT),.int .i64 0,.int .i64 0],[]⟩),
 (281,⟨.aU,1,8,[.aK],[]⟩),
 (282,⟨.aU,1,8,[.aK],[]⟩),
 (284,⟨.aU,1,8,[.aK],[]⟩),
 (285,⟨.ptr,1,8,[.d'],[]⟩),
 (286,⟨.aU,1,8,[.aK],[]⟩),
 (287,⟨.aU,1,8,[.aK],[]⟩),
 (288,⟨.aU,1,8,[.aK],[]⟩),
 (289,⟨.aU,1,8,[.aK],[]⟩),
 (290,⟨.aU,1,8,[.aK],[]⟩),
 (291,⟨.bR [(0,3,1),(1,9,1),(2,2,1),(3,3,1)],4,40,[.int .i64 0,.str ([]:anT),.int .i64 0,.int .i64 0],[]⟩),
 (292,⟨.bR [(0,3,1),(1,9,1),(2,2,1),(3,3,1)],4,40,[.int .i64 0,.str ([]:anT),.int .i64 0,.int .i64 0],[]⟩),
 (294,⟨.aU,1,8,[.aK],[]⟩),
 (295,⟨.aU,1,8,[.aK],[]⟩),
 (296,⟨.aU,1,8,[.aK],[]⟩),
 (298,⟨.aU,1,8,[.aK],[]⟩),
 (300,⟨.aU,1,8,[.aK],[]⟩),
 (301,⟨.aU,1,8,[.aK],[]⟩),
 (302,⟨.aU,1,8,[.aK],[]⟩),
 (303,⟨.aU,1,8,[.aK],[]⟩),
 (304,⟨.aU,1,8,[.aK],[]⟩),
 (305,⟨.ptr,1,8,[.d'],[]⟩),
 (306,⟨.bR [(0,3,1),(1,261,1),(2,262,1)],3,24,[.int .i64 0,.aK,.aK],[]⟩),
 (307,⟨.bR [(0,3,1),(1,261,1),(2,262,1)],3,24,[.int .i64 0,.aK,.aK],[]⟩),
 (308,⟨.aU,1,8,[.aK],[]⟩),
 (309,⟨.bR [(0,4,1),(1,4,1),(2,4,1),(3,4,1),(4,4,1),(5,4,1)],6,6,[.bool false,.bool false,.bool false,.bool false,.bool false,.bool false],[]⟩),
 (310,⟨.bR [(0,4,1),(1,4,1),(2,4,1),(3,4,1),(4,4,1),(5,4,1)],6,6,[.bool false,.bool false,.bool false,.bool false,.bool false,.bool false],[]⟩),
 (312,⟨.aU,1,8,[.aK],[]⟩),
 (313,⟨.aU,1,8,[.aK],[]⟩),
 (314,⟨.aU,1,8,[.aK],[]⟩),
 (315,⟨.aU,1,8,[.aK],[]⟩),
 (316,⟨.aU,1,8,[.aK],[]⟩),
 (317,⟨.aU,1,8,[.aK],[]⟩),
 (319,⟨.aU,1,8,[.aK],[]⟩),
 (320,⟨.aU,1,8,[.aK],[]⟩),
 (321,⟨.aU,1,8,[.aK],[]⟩),
 (322,⟨.aU,1,8,[.aK],[]⟩),
 (323,⟨.aU,1,8,[.aK],[]⟩),
 (324,⟨.ptr,1,8,[.d'],[]⟩),
 (325,⟨.bR [(0,9,1),(1,3,1),(2,37,1)],3,32,[.str ([]:anT),.int .i64 0,.int .i64 0],[]⟩),
 (326,⟨.bR [(0,9,1),(1,3,1),(2,37,1)],3,32,[.str ([]:anT),.int .i64 0,.int .i64 0],[]⟩),
 (327,⟨.aU,1,8,[.aK],[]⟩),
 (328,⟨.aU,1,8,[.aK],[]⟩),
 (329,⟨.aU,1,8,[.aK],[]⟩),
 (330,⟨.aU,1,8,[.aK],[]⟩),
 (331,⟨.bR [(0,3,1),(1,37,1)],2,16,[.int .i64 0,.int .i64 0],[]⟩),
 (332,⟨.bR [(0,3,1),(1,37,1)],2,16,[.int .i64 0,.int .i64 0],[]⟩),
 (334,⟨.bR [(0,235,1),(1,3,1)],2,32,[af 4 cE ([]:List Token),.int .i64 0],[]⟩),
 (335,⟨.bR [(0,235,1),(1,3,1)],2,32,[af 4 cE ([]:List Token),.int .i64 0],[]⟩),
 (336,⟨.aU,1,8,[.aK],[]⟩),
 (337,⟨.aU,1,8,[.aK],[]⟩),
 (338,⟨.aU,1,8,[.aK],[]⟩),
 (339,⟨.aU,1,8,[.aK],[]⟩),
 (340,⟨.aU,1,8,[.aK],[]⟩),
 (341,⟨.aU,1,8,[.aK],[]⟩),
 (343,⟨.aU,1,8,[.aK],[]⟩),
 (344,⟨.aU,1,8,[.aK],[]⟩),
 (345,⟨.aU,1,8,[.aK],[]⟩),
 (347,⟨.aU,1,8,[.aK],[]⟩),
 (348,⟨.aU,1,8,[.aK],[]⟩),
 (349,⟨.aU,1,8,[.aK],[]⟩),
 (350,⟨.aU,1,8,[.aK],[]⟩),
 (351,⟨.aU,1,8,[.aK],[]⟩),
 (352,⟨.aU,1,8,[.aK],[]⟩),
 (353,⟨.aU,1,8,[.aK],[]⟩),
 (354,⟨.aU,1,8,[.aK],[]⟩),
 (355,⟨.aU,1,8,[.aK],[]⟩),
 (356,⟨.aU,1,8,[.aK],[]⟩),
 (357,⟨.aU,1,8,[.aK],[]⟩),
 (359,⟨.aU,1,8,[.aK],[]⟩),
 (360,⟨.aU,1,8,[.aK],[]⟩),
 (362,⟨.aU,1,8,[.aK],[]⟩),
 (363,⟨.aU,1,8,[.aK],[]⟩),
 (364,⟨.aU,1,8,[.aK],[]⟩),
 (365,⟨.aU,1,8,[.aK],[]⟩),
 (366,⟨.aU,1,8,[.aK],[]⟩),
 (367,⟨.br 3,1,24,[af 1 acG ([]:List Int)],[]⟩),
 (368,⟨.aU,1,8,[.aK],[]⟩),
 (369,⟨.aU,1,8,[.aK],[]⟩),
 (370,⟨.aU,1,8,[.aK],[]⟩),
 (371,⟨.aU,1,8,[.aK],[]⟩),
 (372,⟨.aU,1,8,[.aK],[]⟩),
 (374,⟨.aU,1,8,[.aK],[]⟩),
 (376,⟨.aU,1,8,[.aK],[]⟩),
 (377,⟨.aU,1,8,[.aK],[]⟩),
 (379,⟨.aU,1,8,[.aK],[]⟩),
 (381,⟨.aU,1,8,[.aK],[]⟩),
 (382,⟨.aU,1,8,[.aK],[]⟩),
 (383,⟨.aU,1,8,[.aK],[]⟩),
 (385,⟨.int .u32,1,4,[.int .u32 0],[]⟩),
 (387,⟨.aU,1,8,[.aK],[]⟩),
 (388,⟨.aU,1,8,[.aK],[]⟩),
 (389,⟨.aU,1,8,[.aK],[]⟩),
 (390,⟨.int .i64,1,8,[.int .i64 0],[]⟩),
 (392,⟨.aU,1,8,[.aK],[]⟩),
 (393,⟨.ptr,1,8,[.d'],[]⟩),
 (394,⟨.aU,1,8,[.aK],[]⟩),
 (395,⟨.aU,1,8,[.aK],[]⟩),
 (398,⟨.aU,1,8,[.aK],[]⟩),
 (399,⟨.bR [(0,9,1),(1,9,1),(2,122,1)],3,48,[.str ([]:anT),.str ([]:anT),.hX],[]⟩),
 (400,⟨.bR [(0,9,1),(1,9,1),(2,122,1)],3,48,[.str ([]:anT),.str ([]:anT),.hX],[]⟩),
 (401,⟨.aU,1,8,[.aK],[]⟩),
 (402,⟨.ptr,1,8,[.d'],[]⟩),
 (403,⟨.bR [(0,9,1)],1,16,[.str ([]:anT)],[]⟩),
 (404,⟨.bR [(0,9,1)],1,16,[.str ([]:anT)],[]⟩),
 (405,⟨.bR [(0,17,1),(1,17,1),(2,17,1),(3,9,1)],4,40,[.d',.d',.d',.str ([]:anT)],[]⟩),
 (406,⟨.bR [(0,17,1),(1,17,1),(2,17,1),(3,9,1)],4,40,[.d',.d',.d',.str ([]:anT)],[]⟩),
 (410,⟨.int .u8,1,1,[.int .u8 0],[]⟩),
 (411,⟨.int .u8,1,1,[.int .u8 0],[]⟩),
 (412,⟨.aU,1,8,[.aK],[]⟩),
 (413,⟨.int .i32,1,4,[.int .i32 0],[]⟩),
 (414,⟨.int .i32,1,4,[.int .i32 0],[]⟩),
 (415,⟨.bR [(0,12,1),(1,12,1),(2,385,1),(3,410,1),(4,5,1),(5,5,1),(6,411,1),(7,412,1),(8,191,1),(9,413,1),(10,414,1)],11,48,[.int .u64 0,.int .u64 0,.int .u32 0,.int .u8 0,.int .u8 0,.int .u8 0,.int .u8 0,.aK,.d',.int .i32 0,.int .i32 0],[]⟩),
 (416,⟨.bR [(0,12,1),(1,12,1),(2,385,1),(3,410,1),(4,5,1),(5,5,1),(6,411,1),(7,412,1),(8,191,1),(9,413,1),(10,414,1)],11,48,[.int .u64 0,.int .u64 0,.int .u32 0,.int .u8 0,.int .u8 0,.int .u8 0,.int .u8 0,.aK,.d',.int .i32 0,.int .i32 0],[]⟩)]
def h3:fe Tryz.prog tt=true:=by kernel_rfl
def AY:Tryz.prog.follows .mixedOrders=true:=by kernel_rfl
end Go.Ab.Y
namespace Go.Ab.Y.T
open Go Go.Ab Go.Proofs
structure ba(f:FuncId)(args:List D)(dU:List (Nat×TypeId))(H:List (List aP)){ρ:Type}(F:Option ρ)(out:ρ→Out)(ct:ρ→List (List aP)):Prop where
 of:∀{r:ρ},F=some r→gw Tryz.prog f args dU H (out r) (ct r)
def uO(E:Nat)(rs:List ResultVar){ρ:Type}(out:ρ→Out)(ct:ρ→List (List aP))(r:ρ):b'→aD→Prop:=ss tt E rs λo bA=>o=out r∧bA=ct r
def gD(s st:aD):Option aD:=(tN (s.env.map (·.1)) (s.H.map (·.1)) s.aL st.env st.H st.aL).map (fit s)
noncomputable abbrev h4(N:Nat)(ops:Array Oper)(rs:List e8)(st:aD):=uI (je Tryz.prog) tt N ops.toList rs st
noncomputable abbrev EV(N:Nat)(ops:Array Oper)(rs:List (Nat×List e8))(st:aD):=EC (je Tryz.prog) tt N ops.toList (spread ops.toList.length 0 rs) st
noncomputable abbrev Tw(N:Nat)(ops:Array Oper)(f9:Nat)(rs:List (Nat×List e8))(st:aD):=AN (je Tryz.prog) tt N ops.toList f9 (st.aL+ops.toList.length) (spread ops.toList.length 0 rs) st
abbrev ae(x:Int):aP:=⟨.v (.int .i64 x),none⟩
abbrev dN(x:Bool):aP:=⟨.v (.bool x),none⟩
abbrev bi(x:anT):aP:=⟨.v (.str x),none⟩
abbrev aB{α:Type}[Inhabited α](k:Nat)(e:α→V)(l:List α):aP:=⟨.v (af k e l),none⟩
abbrev bh(r o:Nat):aP:=⟨.ptr r o,none⟩
abbrev gR(x:V):aP:=⟨.v x,none⟩
abbrev bk(x:Int):D:=.v (.int .i64 x)
abbrev cx(x:Bool):D:=.v (.bool x)
abbrev df(x:anT):D:=.v (.str x)
abbrev ey{α:Type}[Inhabited α](k:Nat)(e:α→V)(l:List α):D:=.v (af k e l)
abbrev a1(d:D):Out:=.ret d none
def acR(n:Nat):gC (n:Int) n=true:=aal ⟨Int.natCast_nonneg n,Int.le_refl _⟩
abbrev au:=all_nil
def ag{p:Prop}{l:List Prop}(h:p)(ab:km l):km (p::l):=⟨h,ab⟩
section
variable {N E:Nat} {st:aD} {Q:b'→aD→Prop} {next:aD→Prop} {x y:Code} {id i j:Nat} {ops:Array Oper}
def xd{x:V}(h:Q (.a8 x) st):b'.then next Q (.a8 x) st:=h
def cq(h:Q .normal st):b'.inBlock i Q (.exit i) st:=b'.abv h
def xe(h:Q (.exit j) st)(cW:Nat.beq j i=false:=by kernel_rfl):b'.inBlock i Q (.exit j) st:=b'.abw cW h
def acS{x:V}(h:Q (.a8 x) st):b'.inBlock i Q (.a8 x) st:=h
def ar(h:aV Tryz.prog N E x (b'.then (aV Tryz.prog N E y Q) Q) st):aV Tryz.prog N E (.seq x y) Q st:=aV.seq h
def av(h:Q .normal st):aV Tryz.prog N E .skip Q st:=aV.skip h
def Tx{r:Nat}(h:Q .ret (AT r st)):Ln r Q .ret st:=h
def Ty(r:Nat)(h:aV Tryz.prog N E x (Ln r Q) st):aV Tryz.prog N E x Q st:=aV.n2 r h
def xf(nE:List Nat)(h:aV Tryz.prog N E x Q {env:=forget nE st.env,H:=st.H,aL:=st.aL}):aV Tryz.prog N E x Q st:=aV.forget nE h
def acT{l:Nat}(h:Q .normal st):aV Tryz.prog N E (.label l) Q st:=aV.label h
def cr(h:Q (.exit i) st):aV Tryz.prog N E (.exit i) Q st:=aV.exit h
def Lx(h:Q .ret st):aV Tryz.prog N E .ret Q st:=aV.ret h
def acU(h:aV Tryz.prog N E x Q st):aV Tryz.prog N E (.scope x) Q st:=aV.scope h
def aY(h:aV Tryz.prog N E x (b'.inBlock i Q) st):aV Tryz.prog N E (.block i x) Q st:=aV.block h
def g_(rs:List e8){bM:List Prop}(cg:km bM)(dL:Q .normal (jk (h4 N ops rs st)))(ah:lO (h4 N ops rs st)=some bM:=by kernel_rfl):aV Tryz.prog N E (.region id ops false) Q st:=aV.rg h3 rs ah cg dL
def bT(dL:Q .normal (jk (h4 N ops [] st)))(ah:lO (h4 N ops [] st)=some []:=by kernel_rfl):aV Tryz.prog N E (.region id ops false) Q st:=g_ [] au dL ah
def G(dL:aV Tryz.prog N E y Q (jk (h4 N ops [] st)))(ah:lO (h4 N ops [] st)=some []:=by kernel_rfl):aV Tryz.prog N E (.seq (.region id ops false) y) Q st:=ar (bT (Q:=b'.then (aV Tryz.prog N E y Q) Q) dL ah)
def bc(rs:List e8){bM:List Prop}(cg:km bM)(dL:aV Tryz.prog N E y Q (jk (h4 N ops rs st)))(ah:lO (h4 N ops rs st)=some bM:=by kernel_rfl):aV Tryz.prog N E (.seq (.region id ops false) y) Q st:=ar (g_ (Q:=b'.then (aV Tryz.prog N E y Q) Q) rs cg dL ah)
section
variable {f:FuncId} {args:List D} {dU:List (Nat×TypeId)} {H ct:List (List aP)} {out:Out}
def kV(p:gw Tryz.prog f args dU H out ct)(dL:Q .normal (jk (h4 N ops [bm p []] st)))(ah:lO (h4 N ops [bm p []] st)=some [gw Tryz.prog f args dU H out ct]:=by kernel_rfl):aV Tryz.prog N E (.region id ops false) Q st:=g_ [bm p []] (ag p au) dL ah
def jS(p:gw Tryz.prog f args dU H out ct)(dL:Q .normal (jk (h4 N ops [bl p []] st)))(ah:lO (h4 N ops [bl p []] st)=some [gw Tryz.prog f args dU H out ct]:=by kernel_rfl):aV Tryz.prog N E (.region id ops false) Q st:=g_ [bl p []] (ag p au) dL ah
def b_(p:gw Tryz.prog f args dU H out ct)(dL:aV Tryz.prog N E y Q (jk (h4 N ops [bm p []] st)))(ah:lO (h4 N ops [bm p []] st)=some [gw Tryz.prog f args dU H out ct]:=by kernel_rfl):aV Tryz.prog N E (.seq (.region id ops false) y) Q st:=bc [bm p []] (ag p au) dL ah
def cY(p:gw Tryz.prog f args dU H out ct)(dL:aV Tryz.prog N E y Q (jk (h4 N ops [bl p []] st)))(ah:lO (h4 N ops [bl p []] st)=some [gw Tryz.prog f args dU H out ct]:=by kernel_rfl):aV Tryz.prog N E (.seq (.region id ops false) y) Q st:=bc [bl p []] (ag p au) dL ah
end
def f'(rs:List (Nat×List e8)){bM:List Prop}(cg:km bM)(dL:Q .normal (jk (EV N ops rs st)))(ah:lO (EV N ops rs st)=some bM:=by kernel_rfl):aV Tryz.prog N E (.region id ops true) Q st:=aV.EE h3 AY rs ah cg dL
def cZ(rs:List (Nat×List e8)){bM:List Prop}(cg:km bM)(dL:aV Tryz.prog N E y Q (jk (EV N ops rs st)))(ah:lO (EV N ops rs st)=some bM:=by kernel_rfl):aV Tryz.prog N E (.seq (.region id ops true) y) Q st:=ar (f' (Q:=b'.then (aV Tryz.prog N E y Q) Q) rs cg dL ah)
def dE(x:V)(rs:List e8){bM:List Prop}(cg:km bM)(dL:Q (.a8 x) (jk (h4 N ops rs st)))(ah:K5 (h4 N ops rs st)=some (x,bM):=by kernel_rfl):aV Tryz.prog N E (.region id ops false) Q st:=aV.K6 h3 rs ah cg dL
def ro(f9:Nat)(x:V)(rs:List (Nat×List e8)){bM:List Prop}(cg:km bM)(dL:∀n,Q (.a8 x) {env:=[],H:=Lg (Tw N ops f9 rs st),aL:=n})(ah:Lf (Tw N ops f9 rs st)=some (x,bM):=by kernel_rfl):aV Tryz.prog N E (.region id ops true) Q st:=aV.acb h3 AY f9 rs ah cg dL
def C{α:Type}{b:Bool}{p q:Option α}{r:α}{c:Nat}(h:(bif b then p else q)=some r)(aC:p=some r→aV Tryz.prog N E x Q st)(aN:q=some r→aV Tryz.prog N E y Q st)(hc:(look st.env c).map (·.d)=some (.v (.bool b)):=by kernel_rfl):aV Tryz.prog N E (.cond (.tmp c) x y) Q st:=aV.K8 h hc aC aN
section
variable {ρ:Type} {a r:ρ} {out:ρ→Out} {ct:ρ→List (List aP)} {rs:List ResultVar}
def Ez(h:some a=some r)(ab:leave tt E rs st=some (out a,ct a):=by kernel_rfl):uO E rs out ct r .ret st:=by
 obtain rfl:=Option.some.inj h;exact aby ab
def b9{Q:b'→aD→Prop}(h:some a=some r)(al:uO E rs out ct r .ret st=Q .ret st:=by rfl)(ab:leave tt E rs st=some (out a,ct a):=by kernel_rfl):aV Tryz.prog N E .ret Q st:=Lx (al ▸ Ez h ab)
def bB{Q:b'→aD→Prop}{id:Nat}{ops:Array Oper}(h:some a=some r)(al:uO E rs out ct r .ret (jk (h4 N ops [] st))=Q .ret (jk (h4 N ops [] st)):=by rfl)(ab:leave tt E rs (jk (h4 N ops [] st))=some (out a,ct a):=by kernel_rfl)(ah:lO (h4 N ops [] st)=some []:=by kernel_rfl):aV Tryz.prog N E (.seq (.region id ops false) .ret) Q st:=G (b9 h al ab) ah
def aH{Q:b'→aD→Prop}{id:Nat}{ops:Array Oper}{b:Bool}{q:Option ρ}{c:Nat}{y:Code}(h:(bif b then some a else q)=some r)(aN:q=some r→aV Tryz.prog N E y Q st)(al:uO E rs out ct r .ret (jk (h4 N ops [] st))=Q .ret (jk (h4 N ops [] st)):=by rfl)(ab:leave tt E rs (jk (h4 N ops [] st))=some (out a,ct a):=by kernel_rfl)(ah:lO (h4 N ops [] st)=some []:=by kernel_rfl)(hc:(look st.env c).map (·.d)=some (.v (.bool b)):=by kernel_rfl):aV Tryz.prog N E (.cond (.tmp c) (.seq (.region id ops false) .ret) y) Q st:=C h (λh=>bB h al ab ah) aN hc
def jT(h:some a=some r)(ab:leave tt E rs st=some (out a,ct a):=by kernel_rfl):uO E rs out ct r .normal st:=by
 obtain rfl:=Option.some.inj h;exact KR ab
def dg{x:V}(h:some a=some r)(ab:(Ee E st.H).map nx=some (ct a):=by kernel_rfl)(hx:out a = .a8 x:=by kernel_rfl):uO E rs out ct r (.a8 x) st:=by
 obtain rfl:=Option.some.inj h;show ss tt E rs _ _ _
 rw [hx];exact abz ab
end
def bb{f:FuncId}{fn:Func}{c:Code}{args:List D}{dU:List (Nat×TypeId)}{H:List (List aP)}{ρ:Type}{F:Option ρ}{out:ρ→Out}{ct:ρ→List (List aP)}(aN:Tryz.prog.funcs[f]? = some fn)(hb:fn.body=some c)
 (h : ∀ {r : ρ}, F = some r → aV Tryz.prog fn.ntmps H.length c (uO H.length fn.results.toList out ct r) { env := hy args dU, H := cB 0 H, aL := H.length }) (jf : decide (fn.name = "runtime.NumGoroutine") = false := by rfl) (ha : Nat.ble args.length fn.ntmps = true := by rfl) : ba f args dU H F out ct :=
 ⟨λh0=>abx h3 aN hb jf ha (h h0)⟩
end
section
variable {α β dm gS:Type} {p:Prop}
def dO{q:Prop}(a:p)(k:p→q):q:=k a
def sE{Tz:Type}{X:Option Tz}(c:α ⊕ β→Tz){x:α ⊕ β}{f:α→Option dm}{g:β→Option dm}{r:dm}(q:X=some (c x))(h:hQ.on x f g=some r)(cP:∀a,X=some (c (.inl a))→f a=some r→p)(aq:∀b,X=some (c (.inr b))→g b=some r→p):p:=
 match x,q,h with
 |.inl a,q,h=>cP a q h
 |.inr b,q,h=>aq b q h
def kq{r:α}(h:none=some r):p:=by cases h
def aR{b:Bool}{x:Option α}{r:α}(h:aE b x=some r)(k:b=true→x=some r→p):p:=k (rk h).1 (rk h).2
def ao{x:Option α}{f:α→Option β}{r:β}(h:Option.bind x f=some r)(k:∀a,x=some a→f a=some r→p):p:=let ⟨a,Z,aa⟩:=bind_some h;k a Z aa
def dy{x:Option (ax α β)}{f:α→β→Option dm}{g:V→β→Option dm}{r:dm}(h:Option.bind x (λz=>ax.on z f g)=some r)(cP:∀a b,x=some (.ret a b)→f a b=some r→p)(aq:∀y b,x=some (.a8 y b)→g y b=some r→p):p:=
 let ⟨z,Z,aa⟩:=bind_some h
 match z,Z,aa with
 |.ret a b,Z,aa=>cP a b Z aa
 |.a8 y b,Z,aa=>aq y b Z aa
end
section
variable {ρ:Type} {r:ρ} {N E:Nat} {st:aD} {Q:b'→aD→Prop} {x y:Code}
def da{b3:aD}{f:Option ρ}(h:f=some r)(ah:gD (b3) st=some (b3):=by kernel_rfl):gD (b3) st=some (b3)∧f=some r:=⟨ah,h⟩
def dc(b3:aD)(f:Option ρ)(Z:aV Tryz.prog N E x (b'.then (λbO=>gD (b3) bO=some (b3)∧f=some r) Q) st)(aa:f=some r→aV Tryz.prog N E y Q (b3))(bH:Nat.ble E (b3).aL=true:=by intros;kernel_rfl):aV Tryz.prog N E (.seq x y) Q st:=
 aV.cut _ Z λbO ⟨ah,h⟩=>aV.qb _ _ _ _ ah (bH) (aa h)
end
section
variable {α:Type} {ρ:Type} {r:ρ} {N E:Nat} {st:aD} {Q:b'→aD→Prop} {x y:Code}
def bn{b3:α→aD}{f:α→Option ρ}{a0:_}(h:f a0=some r)(ah:gD (b3 a0) st=some (b3 a0):=by kernel_rfl):∃a0,gD (b3 a0) st=some (b3 a0)∧f a0=some r:=⟨a0,ah,h⟩
def fA(b3:α→aD)(f:α→Option ρ)(Z:aV Tryz.prog N E x (b'.then (λbO=>∃a0,gD (b3 a0) bO=some (b3 a0)∧f a0=some r) Q) st)(aa:∀a0,f a0=some r→aV Tryz.prog N E y Q (b3 a0))(bH:∀a0,Nat.ble E (b3 a0).aL=true:=by intros;kernel_rfl):aV Tryz.prog N E (.seq x y) Q st:=
 aV.cut _ Z λbO ⟨a0,ah,h⟩=>aV.qb _ _ _ _ ah (bH a0) (aa a0 h)
def eE(b3:α→aD)(F:Nat→α→Option ρ)(B:(α→Option ρ)→α→Option ρ){n:Nat}{a0:_}(h:F n a0=some r)(body:∀k a0,B k a0=some r→aV Tryz.prog N E x (b'.then (λbO=>∃a0,gD (b3 a0) bO=some (b3 a0)∧k a0=some r) Q) (b3 a0))(hi:gD (b3 a0) st=some (b3 a0):=by kernel_rfl)(bH:∀a0,Nat.ble E (b3 a0).aL=true:=by intros;kernel_rfl)(h0:∀a0,F 0 a0=none:=by intros;rfl)(hs:∀m a0,F (m+1) a0=B (F m) a0:=by intros;rfl):aV Tryz.prog N E (.loop x) Q st:=by
 refine aV.loop (σ:=α) (λm (s:α) st=>gD (b3 s) st=some (b3 s)∧F m s=some r) ?_ (n:=n) (s:=a0) ⟨hi,h⟩
 rintro m a0 bO ⟨ah,h⟩
 cases m with
 |zero=>have aa:=(h0 a0).symm.trans h;cases aa
 |succ m=>
  refine⟨m,rfl,aV.qb _ _ _ _ ah (bH a0) ((body (F m) a0 ((hs m a0).symm.trans h)).mono ?_)⟩
  intro fm EW al;cases fm with
  |normal=>obtain⟨a0,g1,g2⟩:=al;exact⟨a0,g1,g2⟩
  |exit i=>exact al
  |ret=>exact al
  |a8 x=>exact al
end
section
variable {α β:Type} {ρ:Type} {r:ρ} {N E:Nat} {st:aD} {Q:b'→aD→Prop} {x y:Code}
def eP{b3:α→β→aD}{f:α→β→Option ρ}{a0 aT:_}(h:f a0 aT=some r)(ah:gD (b3 a0 aT) st=some (b3 a0 aT):=by kernel_rfl):∃a0 aT,gD (b3 a0 aT) st=some (b3 a0 aT)∧f a0 aT=some r:=⟨a0,aT,ah,h⟩
def nF(b3:α→β→aD)(f:α→β→Option ρ)(Z:aV Tryz.prog N E x (b'.then (λbO=>∃a0 aT,gD (b3 a0 aT) bO=some (b3 a0 aT)∧f a0 aT=some r) Q) st)(aa:∀a0 aT,f a0 aT=some r→aV Tryz.prog N E y Q (b3 a0 aT))(bH:∀a0 aT,Nat.ble E (b3 a0 aT).aL=true:=by intros;kernel_rfl):aV Tryz.prog N E (.seq x y) Q st:=
 aV.cut _ Z λbO ⟨a0,aT,ah,h⟩=>aV.qb _ _ _ _ ah (bH a0 aT) (aa a0 aT h)
def iu(b3:α→β→aD)(F:Nat→α→β→Option ρ)(B:(α→β→Option ρ)→α→β→Option ρ){n:Nat}{a0 aT:_}(h:F n a0 aT=some r)(body:∀k a0 aT,B k a0 aT=some r→aV Tryz.prog N E x (b'.then (λbO=>∃a0 aT,gD (b3 a0 aT) bO=some (b3 a0 aT)∧k a0 aT=some r) Q) (b3 a0 aT))(hi:gD (b3 a0 aT) st=some (b3 a0 aT):=by kernel_rfl)(bH:∀a0 aT,Nat.ble E (b3 a0 aT).aL=true:=by intros;kernel_rfl)(h0:∀a0 aT,F 0 a0 aT=none:=by intros;rfl)(hs:∀m a0 aT,F (m+1) a0 aT=B (F m) a0 aT:=by intros;rfl):aV Tryz.prog N E (.loop x) Q st:=by
 refine aV.loop (σ:=α×β) (λm (s:α×β) st=>gD (b3 s.1 s.2) st=some (b3 s.1 s.2)∧F m s.1 s.2=some r) ?_ (n:=n) (s:=(a0,aT)) ⟨hi,h⟩
 rintro m ⟨a0,aT⟩ bO ⟨ah,h⟩
 cases m with
 |zero=>have aa:=(h0 a0 aT).symm.trans h;cases aa
 |succ m=>
  refine⟨m,rfl,aV.qb _ _ _ _ ah (bH a0 aT) ((body (F m) a0 aT ((hs m a0 aT).symm.trans h)).mono ?_)⟩
  intro fm EW al;cases fm with
  |normal=>obtain⟨a0,aT,g1,g2⟩:=al;exact⟨(a0,aT),g1,g2⟩
  |exit i=>exact al
  |ret=>exact al
  |a8 x=>exact al
end
section
variable {α β dm:Type} {ρ:Type} {r:ρ} {N E:Nat} {st:aD} {Q:b'→aD→Prop} {x y:Code}
def iV{b3:α→β→dm→aD}{f:α→β→dm→Option ρ}{a0 aT a2:_}(h:f a0 aT a2=some r)(ah:gD (b3 a0 aT a2) st=some (b3 a0 aT a2):=by kernel_rfl):∃a0 aT a2,gD (b3 a0 aT a2) st=some (b3 a0 aT a2)∧f a0 aT a2=some r:=⟨a0,aT,a2,ah,h⟩
def sF(b3:α→β→dm→aD)(f:α→β→dm→Option ρ)(Z:aV Tryz.prog N E x (b'.then (λbO=>∃a0 aT a2,gD (b3 a0 aT a2) bO=some (b3 a0 aT a2)∧f a0 aT a2=some r) Q) st)(aa:∀a0 aT a2,f a0 aT a2=some r→aV Tryz.prog N E y Q (b3 a0 aT a2))(bH:∀a0 aT a2,Nat.ble E (b3 a0 aT a2).aL=true:=by intros;kernel_rfl):aV Tryz.prog N E (.seq x y) Q st:=
 aV.cut _ Z λbO ⟨a0,aT,a2,ah,h⟩=>aV.qb _ _ _ _ ah (bH a0 aT a2) (aa a0 aT a2 h)
def AZ(b3:α→β→dm→aD)(F:Nat→α→β→dm→Option ρ)(B:(α→β→dm→Option ρ)→α→β→dm→Option ρ){n:Nat}{a0 aT a2:_}(h:F n a0 aT a2=some r)(body:∀k a0 aT a2,B k a0 aT a2=some r→aV Tryz.prog N E x (b'.then (λbO=>∃a0 aT a2,gD (b3 a0 aT a2) bO=some (b3 a0 aT a2)∧k a0 aT a2=some r) Q) (b3 a0 aT a2))(hi:gD (b3 a0 aT a2) st=some (b3 a0 aT a2):=by kernel_rfl)(bH:∀a0 aT a2,Nat.ble E (b3 a0 aT a2).aL=true:=by intros;kernel_rfl)(h0:∀a0 aT a2,F 0 a0 aT a2=none:=by intros;rfl)(hs:∀m a0 aT a2,F (m+1) a0 aT a2=B (F m) a0 aT a2:=by intros;rfl):aV Tryz.prog N E (.loop x) Q st:=by
 refine aV.loop (σ:=α×β×dm) (λm (s:α×β×dm) st=>gD (b3 s.1 s.2.1 s.2.2) st=some (b3 s.1 s.2.1 s.2.2)∧F m s.1 s.2.1 s.2.2=some r) ?_ (n:=n) (s:=(a0,aT,a2)) ⟨hi,h⟩
 rintro m ⟨a0,aT,a2⟩ bO ⟨ah,h⟩
 cases m with
 |zero=>have aa:=(h0 a0 aT a2).symm.trans h;cases aa
 |succ m=>
  refine⟨m,rfl,aV.qb _ _ _ _ ah (bH a0 aT a2) ((body (F m) a0 aT a2 ((hs m a0 aT a2).symm.trans h)).mono ?_)⟩
  intro fm EW al;cases fm with
  |normal=>obtain⟨a0,aT,a2,g1,g2⟩:=al;exact⟨(a0,aT,a2),g1,g2⟩
  |exit i=>exact al
  |ret=>exact al
  |a8 x=>exact al
end
section
variable {α β dm gS:Type} {ρ:Type} {r:ρ} {N E:Nat} {st:aD} {Q:b'→aD→Prop} {x y:Code}
def qc{b3:α→β→dm→gS→aD}{f:α→β→dm→gS→Option ρ}{a0 aT a2 a3:_}(h:f a0 aT a2 a3=some r)(ah:gD (b3 a0 aT a2 a3) st=some (b3 a0 aT a2 a3):=by kernel_rfl):∃a0 aT a2 a3,gD (b3 a0 aT a2 a3) st=some (b3 a0 aT a2 a3)∧f a0 aT a2 a3=some r:=⟨a0,aT,a2,a3,ah,h⟩
def acV(b3:α→β→dm→gS→aD)(f:α→β→dm→gS→Option ρ)(Z:aV Tryz.prog N E x (b'.then (λbO=>∃a0 aT a2 a3,gD (b3 a0 aT a2 a3) bO=some (b3 a0 aT a2 a3)∧f a0 aT a2 a3=some r) Q) st)(aa:∀a0 aT a2 a3,f a0 aT a2 a3=some r→aV Tryz.prog N E y Q (b3 a0 aT a2 a3))(bH:∀a0 aT a2 a3,Nat.ble E (b3 a0 aT a2 a3).aL=true:=by intros;kernel_rfl):aV Tryz.prog N E (.seq x y) Q st:=
 aV.cut _ Z λbO ⟨a0,aT,a2,a3,ah,h⟩=>aV.qb _ _ _ _ ah (bH a0 aT a2 a3) (aa a0 aT a2 a3 h)
def sG(b3:α→β→dm→gS→aD)(F:Nat→α→β→dm→gS→Option ρ)(B:(α→β→dm→gS→Option ρ)→α→β→dm→gS→Option ρ){n:Nat}{a0 aT a2 a3:_}(h:F n a0 aT a2 a3=some r)(body:∀k a0 aT a2 a3,B k a0 aT a2 a3=some r→aV Tryz.prog N E x (b'.then (λbO=>∃a0 aT a2 a3,gD (b3 a0 aT a2 a3) bO=some (b3 a0 aT a2 a3)∧k a0 aT a2 a3=some r) Q) (b3 a0 aT a2 a3))(hi:gD (b3 a0 aT a2 a3) st=some (b3 a0 aT a2 a3):=by kernel_rfl)(bH:∀a0 aT a2 a3,Nat.ble E (b3 a0 aT a2 a3).aL=true:=by intros;kernel_rfl)(h0:∀a0 aT a2 a3,F 0 a0 aT a2 a3=none:=by intros;rfl)(hs:∀m a0 aT a2 a3,F (m+1) a0 aT a2 a3=B (F m) a0 aT a2 a3:=by intros;rfl):aV Tryz.prog N E (.loop x) Q st:=by
 refine aV.loop (σ:=α×β×dm×gS) (λm (s:α×β×dm×gS) st=>gD (b3 s.1 s.2.1 s.2.2.1 s.2.2.2) st=some (b3 s.1 s.2.1 s.2.2.1 s.2.2.2)∧F m s.1 s.2.1 s.2.2.1 s.2.2.2=some r) ?_ (n:=n) (s:=(a0,aT,a2,a3)) ⟨hi,h⟩
 rintro m ⟨a0,aT,a2,a3⟩ bO ⟨ah,h⟩
 cases m with
 |zero=>have aa:=(h0 a0 aT a2 a3).symm.trans h;cases aa
 |succ m=>
  refine⟨m,rfl,aV.qb _ _ _ _ ah (bH a0 aT a2 a3) ((body (F m) a0 aT a2 a3 ((hs m a0 aT a2 a3).symm.trans h)).mono ?_)⟩
  intro fm EW al;cases fm with
  |normal=>obtain⟨a0,aT,a2,a3,g1,g2⟩:=al;exact⟨(a0,aT,a2,a3),g1,g2⟩
  |exit i=>exact al
  |ret=>exact al
  |a8 x=>exact al
end
section
variable {α β dm gS rp:Type} {ρ:Type} {r:ρ} {N E:Nat} {st:aD} {Q:b'→aD→Prop} {x y:Code}
def acW{b3:α→β→dm→gS→rp→aD}{f:α→β→dm→gS→rp→Option ρ}{a0 aT a2 a3 a4:_}(h:f a0 aT a2 a3 a4=some r)(ah:gD (b3 a0 aT a2 a3 a4) st=some (b3 a0 aT a2 a3 a4):=by kernel_rfl):∃a0 aT a2 a3 a4,gD (b3 a0 aT a2 a3 a4) st=some (b3 a0 aT a2 a3 a4)∧f a0 aT a2 a3 a4=some r:=⟨a0,aT,a2,a3,a4,ah,h⟩
def acX(b3:α→β→dm→gS→rp→aD)(F:Nat→α→β→dm→gS→rp→Option ρ)(B:(α→β→dm→gS→rp→Option ρ)→α→β→dm→gS→rp→Option ρ){n:Nat}{a0 aT a2 a3 a4:_}(h:F n a0 aT a2 a3 a4=some r)(body:∀k a0 aT a2 a3 a4,B k a0 aT a2 a3 a4=some r→aV Tryz.prog N E x (b'.then (λbO=>∃a0 aT a2 a3 a4,gD (b3 a0 aT a2 a3 a4) bO=some (b3 a0 aT a2 a3 a4)∧k a0 aT a2 a3 a4=some r) Q) (b3 a0 aT a2 a3 a4))(hi:gD (b3 a0 aT a2 a3 a4) st=some (b3 a0 aT a2 a3 a4):=by kernel_rfl)(bH:∀a0 aT a2 a3 a4,Nat.ble E (b3 a0 aT a2 a3 a4).aL=true:=by intros;kernel_rfl)(h0:∀a0 aT a2 a3 a4,F 0 a0 aT a2 a3 a4=none:=by intros;rfl)(hs:∀m a0 aT a2 a3 a4,F (m+1) a0 aT a2 a3 a4=B (F m) a0 aT a2 a3 a4:=by intros;rfl):aV Tryz.prog N E (.loop x) Q st:=by
 refine aV.loop (σ:=α×β×dm×gS×rp) (λm (s:α×β×dm×gS×rp) st=>gD (b3 s.1 s.2.1 s.2.2.1 s.2.2.2.1 s.2.2.2.2) st=some (b3 s.1 s.2.1 s.2.2.1 s.2.2.2.1 s.2.2.2.2)∧F m s.1 s.2.1 s.2.2.1 s.2.2.2.1 s.2.2.2.2=some r) ?_ (n:=n) (s:=(a0,aT,a2,a3,a4)) ⟨hi,h⟩
 rintro m ⟨a0,aT,a2,a3,a4⟩ bO ⟨ah,h⟩
 cases m with
 |zero=>have aa:=(h0 a0 aT a2 a3 a4).symm.trans h;cases aa
 |succ m=>
  refine⟨m,rfl,aV.qb _ _ _ _ ah (bH a0 aT a2 a3 a4) ((body (F m) a0 aT a2 a3 a4 ((hs m a0 aT a2 a3 a4).symm.trans h)).mono ?_)⟩
  intro fm EW al;cases fm with
  |normal=>obtain⟨a0,aT,a2,a3,a4,g1,g2⟩:=al;exact⟨(a0,aT,a2,a3,a4),g1,g2⟩
  |exit i=>exact al
  |ret=>exact al
  |a8 x=>exact al
end
section
variable {α β dm gS rp amJ:Type} {ρ:Type} {r:ρ} {N E:Nat} {st:aD} {Q:b'→aD→Prop} {x y:Code}
end
end Go.Ab.Y.T
namespace Go.Ab.Y
open Go Go.Ab Go.Proofs
def EX(n:Nat)(s:anT):Option anT:=aE (decide (s.length≤281474976710656))<|some s
def EY(n:Nat)(s:anT)(c:Int):Option Int:=some (Lib.indexByte s c.toNat.toUInt8)
def xg(n:Nat)(s:anT):Option Int:=aE (decide (s.length≤140737488351232))<|some (gQ s)
def A0(s:anT):Int ⊕ Int:=
 match Lib.parseIntB 64 s with
 |.ok v=>.inl v
 |.range=>.inr (Lib.intSat 64 s)
 |_=>.inr 0
def xh(n:Nat)(s:anT)(base:Int)(EZ:Int):Option (Int ⊕ Int):=
 aE (decide (base=10∧EZ=64∧s.length≤281474976710656))<|some (A0 s)
def E0(n:Nat)(i:Int)(base:Int):Option anT:=aE (decide (base=10 ∧ -9223372036854775808≤i∧i≤9223372036854775807))<|some (Lib.itoa i)
def E1(n:Nat)(elems:List anT)(sep:anT):Option anT:=aE (decide (elems.length≤140737488355328∧(Lib.join elems sep).length≤140737488355328))<|some (Lib.join elems sep)
open Go Go.Ab Go.Proofs
def acY{n:Nat}{s:anT}{r:anT}(h:EX n s=some r):gw Tryz.prog 326 [.v (.str s)] [] [] (.ret (.v (.str r)) none) []:=by
 unfold EX at h;obtain⟨g,h⟩:=rk h;obtain rfl:=Option.some.inj h;refine uH (fd:=Tryz.f326) Tryz.func326 rfl rfl (vsOf:=λvs=>vs=[.string ⟨⟨s⟩⟩]) (λM β vs ab ah=>?_) (λvs w an hg=>?_)
 ·match vs,ab with
  |[v],_=>
   have:=ma (ah 0 v _ rfl rfl)
   rw [this]
 ·subst an;refine(Tryz.stringslite_Clone ⟨⟨s⟩⟩ w (show s.length≤281474976710656 from of_decide_eq_true g)).mono ?_
  rintro e w' ⟨rfl,hb⟩
  refine⟨_,rfl,λM β=>.v _ _ (.str _),λb aO h=>?_,by rw [hb.os,hb.output]⟩
  rw [hb.block b (Array.getElem?_eq_some_iff.1 h).1];exact h
def acZ{n:Nat}{s:anT}{c:Int}{r:Int}(h:EY n s c=some r):gw Tryz.prog 352 [.v (.str s),.v (.int .u8 c)] [] [] (.ret (.v (.int .i64 r)) none) []:=by
 unfold EY at h;obtain rfl:=Option.some.inj h;refine uH (fd:=Tryz.f352) Tryz.func352 rfl rfl (vsOf:=λvs=>vs=[.string ⟨⟨s⟩⟩,.int .u8 c]) (λM β vs ab ah=>?_) (λvs w an hg=>?_)
 ·match vs,ab with
  |[v,u],_=>
   have Z:=ma (ah 0 v _ rfl rfl);have aa:=lH (ah 1 u _ rfl rfl);rw [Z,aa]
 ·subst an;refine(Tryz.stringslite_IndexByte ⟨⟨s⟩⟩ c w).mono ?_
  rintro e w' ⟨rfl,rfl⟩
  exact⟨_,rfl,λM β=>.v _ _ (.int _ _),λb aO h=>h,rfl⟩
def TA{n:Nat}{s:anT}{r:Int}(h:xg n s=some r):gw Tryz.prog 174 [.v (.str s)] [] [] (.ret (.v (.int .i64 r)) none) []:=by
 unfold xg at h;obtain⟨g,h⟩:=rk h;obtain rfl:=Option.some.inj h;refine uH (fd:=Tryz.f174) Tryz.func174 rfl rfl (vsOf:=λvs=>vs=[.string ⟨⟨s⟩⟩]) (λM β vs ab ah=>?_) (λvs w an hg=>?_)
 ·match vs,ab with
  |[v],_=>
   have:=ma (ah 0 v _ rfl rfl)
   rw [this]
 ·subst an;refine(acF ⟨⟨s⟩⟩ w (show s.length≤140737488351232 from of_decide_eq_true g)).mono ?_
  rintro e w' ⟨rfl,pos,rfl⟩
  refine⟨_,rfl,λM β=>.v _ _ (.int _ _),λb aO h=>?_,rfl⟩
  rw [World.iter,Go.RowKit.Below.heap_alloc w _ b (Array.getElem?_eq_some_iff.1 h).1];exact h
def ac0(w:World)(e:TypeId)(t:ByteArray):((Lib.bytesWorld w e t).os,(Lib.bytesWorld w e t).output)=(w.os,w.output):=by
 rw [(Lib.bytesWorld_below w e t).os,(Lib.bytesWorld_below w e t).output]
def Ly:Jz Tryz.prog=[4,5]:=by kernel_rfl
def TB{n:Nat}{s:anT}{base:Int}{EZ:Int}{r:(Int ⊕ Int)}(h:xh n s base EZ=some r):gw Tryz.prog 351 [.v (.str s),.v (.int .i64 base),.v (.int .i64 EZ)] [] [] (hQ.on r (λTC=>.ret (.cm [.v (.int .i64 TC),.v (.hX)]) none) (λTD=>.ret (.cm [.v (.int .i64 TD),.v ((.iface 393 .any))]) none)) []:=by
 unfold xh at h;obtain⟨g,h⟩:=rk h;obtain rfl:=Option.some.inj h;obtain⟨rfl,rfl,ab⟩:=of_decide_eq_true g
 have ff:∀(M:Mem) (β:Nat→Option Nat) (vs:List Value),vs.length=3→(∀(i:Nat) v a,vs[i]? = some v→[D.v (.str s),.v (.int .i64 10),.v (.int .i64 64)][i]? = some a→ce M β v a)→vs=[.string ⟨⟨s⟩⟩,.int .i64 10,.int .i64 64]:=by
  intro M β vs ab ah
  match vs,ab with
  |[v,u,t],_=>
   have Z:=ma (ah 0 v _ rfl rfl);have aa:=lH (ah 1 u _ rfl rfl);have ai:=lH (ah 2 t _ rfl rfl);rw [Z,aa,ai]
 unfold A0;rcases hp:Lib.parseIntB 64 s with v|_|_
 ·
   refine uH (fd:=Tryz.f351) Tryz.func351 rfl rfl (vsOf:=λvs=>vs=[.string ⟨⟨s⟩⟩,.int .i64 10,.int .i64 64]) (λM β vs ab ah=>ff M β vs ab ah) (λvs w an hg=>?_)
   subst an;refine(Tryz.strconv_ParseInt_10_at64_ok ⟨⟨s⟩⟩ (show s.length≤9223372036854775806 by omega) v hp w).mono ?_
   rintro e w' ⟨rfl,hw⟩
   refine⟨_,rfl,λM β=>.cm [_,_] _ rfl λi v c hi hc=>?_,λb aO h=>?_,by rcases hw with rfl|⟨t,rfl⟩;rfl;exact ac0 _ _ _⟩
   ·match i with
    | 0=>cases hi;cases hc;exact .v _ _ (.int _ _)
    | 1=>cases hi;cases hc;exact .v _ _ .hX
    |i+2=>simp at hi
   ·rcases hw with rfl|⟨t,rfl⟩
    ·exact h
    ·rw [Lib.bytesWorld_at_old _ _ _ _ (Array.getElem?_eq_some_iff.1 h).1];exact h
 ·
   refine uH (fd:=Tryz.f351) Tryz.func351 rfl rfl (vsOf:=λvs=>vs=[.string ⟨⟨s⟩⟩,.int .i64 10,.int .i64 64]) (λM β vs ab ah=>ff M β vs ab ah) (λvs w an hg=>?_)
   subst an;obtain⟨fk,Z,aa⟩:=hg.1 4 (by rw [Ly];simp)
   refine(Tryz.strconv_ParseInt_10_at64_syntax ⟨⟨s⟩⟩ ab (by constructor;intro v;rw [show Lib.parseIntB 64 (⟨⟨s⟩⟩:ByteArray).data.toList=_ from hp];intro e;cases e;rw [show Lib.parseIntB 64 (⟨⟨s⟩⟩:ByteArray).data.toList=_ from hp];intro e;cases e) fk w Z aa).mono ?_
   rintro e w' ⟨N,rfl,aQ,hO,hb⟩
   refine⟨_,rfl,λM β=>.cm [_,_] _ rfl λi v c hi hc=>?_,λb aO h=>?_,by rw [hb.os,hb.output]⟩
   ·match i with
    | 0=>cases hi;cases hc;exact .v _ _ (.int _ _)
    | 1=>cases hi;cases hc;exact .v _ _ (.iface _ _ _ (.any _ rfl))
    |i+2=>simp at hi
   ·rw [hb.block b (Array.getElem?_eq_some_iff.1 h).1];exact h
 ·
   refine uH (fd:=Tryz.f351) Tryz.func351 rfl rfl (vsOf:=λvs=>vs=[.string ⟨⟨s⟩⟩,.int .i64 10,.int .i64 64]) (λM β vs ab ah=>ff M β vs ab ah) (λvs w an hg=>?_)
   subst an;obtain⟨fk,Z,aa⟩:=hg.1 5 (by rw [Ly];simp)
   refine(Tryz.strconv_ParseInt_10_at64_range ⟨⟨s⟩⟩ ab hp fk w Z aa).mono ?_
   rintro e w' ⟨N,rfl,aQ,hO,hb⟩
   refine⟨_,rfl,λM β=>.cm [_,_] _ rfl λi v c hi hc=>?_,λb aO h=>?_,by rw [hb.os,hb.output]⟩
   ·match i with
    | 0=>cases hi;cases hc;exact .v _ _ (.int _ _)
    | 1=>cases hi;cases hc;exact .v _ _ (.iface _ _ _ (.any _ rfl))
    |i+2=>simp at hi
   ·rw [hb.block b (Array.getElem?_eq_some_iff.1 h).1];exact h
def E2 : Tryz.prog.globalNamed "internal/strconv.uint64pow10" = some 1 := by kernel_rfl
def TE:(Lib.pow10Tab.map λz=>Value.int .u64 z).toArray=JA:=by kernel_rfl
def ac1 {w : World} (h : EA Tryz.prog w) : Lib.TabIs Tryz.prog w "internal/strconv.uint64pow10" .u64 Lib.pow10Tab := by
 obtain⟨t,kc,Z⟩:=h.2 1 E2;unfold Lib.TabIs World.var?;rw [E2,Option.bind_some,Z,TE]
def ac2{n:Nat}{i:Int}{base:Int}{r:anT}(h:E0 n i base=some r):gw Tryz.prog 320 [.v (.int .i64 i),.v (.int .i64 base)] [] [] (.ret (.v (.str r)) none) []:=by
 unfold E0 at h;obtain⟨g,h⟩:=rk h;obtain rfl:=Option.some.inj h;obtain⟨rfl,h0,Z⟩:=of_decide_eq_true g;refine uH (fd:=Tryz.f320) Tryz.func320 rfl rfl (vsOf:=λvs=>vs=[.int .i64 i,.int .i64 10]) (λM β vs ab ah=>?_) (λvs w an hg=>?_)
 ·match vs,ab with
  |[v,u],_=>
   have g1:=lH (ah 0 v _ rfl rfl);have g2:=lH (ah 1 u _ rfl rfl);rw [g1,g2]
 ·subst an;refine(Tryz.strconv_FormatInt_10 i h0 Z w (ac1 hg)).mono ?_
  rintro e w' ⟨rfl,k,os,rfl⟩
  exact⟨_,rfl,λM β=>.v _ _ (.str _),λb aO h=>(Lib.heap_grow_old w k os b (Array.getElem?_eq_some_iff.1 h).1).trans h,rfl⟩
def TF{b:List Int}(g:(oc b&&decide (b.length≤9223372036854775807))=true):b.length=(kS b).length∧∀i,i<(kS b).length→(λi=>cC (b.getD i default)) i = .int .u8 (((kS b).getD i 0).toNat:Int):=by
 simp only [Bool.and_eq_true]at g;obtain⟨Z,aa⟩:=EF g.1;exact⟨Z.symm,λi hi=>aa i (by omega)⟩
def TG{b:List Int}(g:(oc b&&decide (b.length≤9223372036854775807))=true):(kS b).length≤9223372036854775807:=by
 simp only [Bool.and_eq_true,decide_eq_true_eq]at g;rw [(EF g.1).1];exact g.2
def Lz:Go.Proofs.Builder.Extra Tryz.prog Tryz.Th where
 sizeBuilder:=by kernel_rfl
 liesBuilder:=by kernel_rfl
 t5:=Tryz.underlying5
 a5:=Tryz.isAgg5
 z5:=Tryz.sizeOf5
 v5:=Tryz.zeroValue5
 infoByte:=by kernel_rfl
 cellsByte:=by kernel_rfl
 sizeByte:=by kernel_rfl
 neB5:=by decide
def TH{n:Nat}{elems:List anT}{sep:anT}{r:anT}(h:E1 n elems sep=some r):gw Tryz.prog 119 [.v (af 1 bz elems),.v (.str sep)] [] [] (.ret (.v (.str r)) none) []:=by
 unfold E1 at h;obtain⟨g,h⟩:=rk h;obtain rfl:=Option.some.inj h;obtain⟨aQ,cL⟩:=of_decide_eq_true g
 have TI:(elems.map λs=>(⟨⟨s⟩⟩:ByteArray)).map (·.data.toList)=elems:=by
  rw [List.map_map];conv=>rhs;rw [←List.map_id elems]
  rfl
 refine SQ (fd:=Tryz.f119) Tryz.func119 rfl rfl (vsOf:=λw vs=>(∃a,vs=[.slice a 0 0,.string ⟨⟨sep⟩⟩]∧elems=[])∨∃xi o c,vs=[.slice (some ⟨xi,o,none⟩) elems.length c,.string ⟨⟨sep⟩⟩]∧elems.length≤c∧∀(j:Nat) x,elems[j]? = some x→w.cell? ⟨xi,o+j,none⟩=some (.string ⟨⟨x⟩⟩)) (λw M β vs hm ab ah=>?_) (λvs w an hg=>?_)
 ·match vs,ab with
  |[v,u],_=>
   have g2:=ma (ah 1 u _ rfl rfl);have g1:=ah 0 v _ rfl rfl;rw [g2];rcases sb (k:=1) (n:=elems.length) (get:=λi=>bz (elems.getD i default)) g1 with⟨Z,aa⟩|⟨b,off,cap,val,Z,hc,hk,cI,iF,gm⟩
   ·rcases Z with Z|⟨a,Z⟩
    ·exact .inl ⟨none,by rw [Z],List.eq_nil_of_length_eq_zero aa⟩
    ·exact .inl ⟨some a,by rw [Z],List.eq_nil_of_length_eq_zero aa⟩
   ·refine .inr ⟨b,off,cap,by rw [Z],hc,λj x hx=>?_⟩
    have hj:j<elems.length:=(List.getElem?_eq_some_iff.1 hx).1;have e1:=hm _ _ _ (cI j 0 hj (by omega))
    have e2:=gm j 0 (.str x) hj (by
     have:elems.getD j default=x:=by simp [List.getD,hx]
     rw [this];rfl)
    rw [show off+j*1+0=off+j by omega]at e1
    rw [e1];generalize val j 0=y at e2 ⊢
    cases e2;rfl
 ·rcases an with⟨a,rfl,rfl⟩|⟨xi,o,c,rfl,hc,oZ⟩
  ·refine(Any.strings_Join_none Tryz.Lp Lz a 0 ⟨⟨sep⟩⟩ w).mono ?_
   rintro e w' ⟨rfl,rfl⟩
   exact⟨_,rfl,λM β=>.v _ _ (.str _),λb aO h=>h,rfl⟩
  ·cases elems with
   |nil=>
    refine(Any.strings_Join_none Tryz.Lp Lz (some ⟨xi,o,none⟩) c ⟨⟨sep⟩⟩ w).mono ?_
    rintro e w' ⟨rfl,rfl⟩
    exact⟨_,rfl,λM β=>.v _ _ (.str _),λb aO h=>h,rfl⟩
   |cons f5 ac3=>
    have ac4:xi<w.heap.size:=lt_of_cell (oZ 0 f5 rfl)
    have hj:=Any.strings_Join Tryz.Lp Lz xi o c ((f5::ac3).map λs=>(⟨⟨s⟩⟩:ByteArray)) ⟨⟨sep⟩⟩ w (λj x hx=>by
     rw [List.getElem?_map,Option.map_eq_some_iff]at hx;obtain⟨y,bY,rfl⟩:=hx;exact oZ j y bY) ac4 (by simpa using aQ) (by simpa using hc) (by rw [TI];exact cL)
    rw [List.length_map]at hj;refine hj.mono ?_
    rintro e w' ⟨rfl,hb⟩
    refine⟨_,rfl,λM β=>?_,λb aO h=>?_,by rw [hb.os,hb.output]⟩
    ·rw [TI];exact .v _ _ (.str _)
    ·rw [hb.block b (Array.getElem?_eq_some_iff.1 h).1];exact h
end Go.Ab.Y
namespace Go.Ab.Y
open Go Go.Ab Go.Proofs T
abbrev an0{ρ:Type}(i:FuncId)(a:List D)(F:Option ρ)(o:ρ→Out):Prop:=ba i a [] [] F o λ_=>[]
abbrev an1(i:FuncId)(a:List D)(F:Option Bool):Prop:=an0 i a F λr=>a1 (cx r)
abbrev an2(i:FuncId)(a:List D)(F:Option Int):Prop:=an0 i a F λr=>a1 (bk r)
end Go.Ab.Y

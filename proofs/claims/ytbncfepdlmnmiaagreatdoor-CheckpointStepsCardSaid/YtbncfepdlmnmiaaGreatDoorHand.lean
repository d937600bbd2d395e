/- The types of this claim, and the contracts that were written by hand. -/
import Derived.Test.YtbncfepdlmnmiaaGreatDoorProg
import Derived.WalkKit
import Derived.Lib.Builder
import Derived.Lib.UnsafeStr
import Derived.Laws.Externs
import Derived.Shelf.RegionOpenPlain
import Derived.Lib.Join
import Derived.Lib.Bytealg
import Derived.Lib.ItoaNum
import Derived.Lib.ParseIntBCases
import Derived.Lib.AppendIntMem
import Derived.Lib.AtoiErrMem
import Derived.Test.YtbncfepdlmnmiaaGreatDoorShelf
set_option linter.all false
namespace Go.Ab
abbrev ajM(x:Int):Int:=IntKind.i64.wrap x
abbrev ajN{α:Type}[Inhabited α](l:List α)(i:Int):α:=l.getD i.toNat default
abbrev ajO:=Option Bool
abbrev ajP:=Option Int
abbrev V.ajQ(x:Int):V:=.int .i64 x
end Go.Ab
namespace Go.Ab.Y
open Go Go.Proofs
def mT(c:UInt8):Bool:=decide ((97≤c.toNat∧c.toNat≤122)∨(48≤c.toNat∧c.toNat≤57)∨c.toNat=95)
def oA(s:ajK):Nat:=(s.takeWhile mT).length
def DP{s:ajK}{k:Nat}(hk:k≤s.length)(h:∀(j:Nat) c,j<k→s[j]? = some c→mT c=true)(he:∀c,s[k]? = some c→mT c=false):oA s=k:=by
 unfold oA;induction s generalizing k with
 |nil=>simp at hk ⊢;omega
 |cons c s bv=>
  cases k with
  |zero=>
   have:=he c rfl
   simp [List.takeWhile,this]
  |succ k=>
   have h0:=h 0 c (by omega) rfl
   simp only [List.takeWhile,h0,List.length_cons];rw [bv (by simpa using hk) (λj c hj hc=>h (j+1) c (by omega) (by simpa using hc)) (λc hc=>he c (by simpa using hc))]
def DQ(s:ByteArray)(k:Nat)(h:k<s.size):s.data.toList[k]? = some (s[k]'h):=by
 have:k<s.data.toList.length:=by simpa using h
 rw [List.getElem?_eq_getElem this];rfl
def yV(s:ByteArray)(k:Nat):Prop:=∀(j:Nat) c,j<k→s.data.toList[j]? = some c→mT c=true
def yV.succ{s:ByteArray}{k:Nat}(h:yV s k)(hk:k<s.size)(hc:mT (s[k]'hk)=true):yV s (k+1):=by
 intro j c hj il;by_cases e:j=k
 ·subst e;rw [DQ s j hk]at il;cases il;exact hc
 ·exact h j c (by omega) il
set_option maxRecDepth 100000 in
def aah(s:ByteArray)(w:World)(hs:s.size≤140737488351232):
 Calls Tryz.prog 244 #[.string s] w λe w'=>e = .returned (.int .i64 (oA s.data.toList))∧∃pos,w'=w.iter s pos:=by
 go_enter Tryz.func244,Tryz.ntmps244
 go_wp2
 go_loopw [] (λw'=>∃k:Nat,w'=w.iter s k∧k≤s.size∧yV s k) (λw'=>s.size-w'.iterPos w.heap.size)
 case atStart=>exact⟨0,rfl,by omega,λj c hj=>by omega⟩
 case round=>
  obtain⟨k,rfl,hk,hin⟩:=hrel;by_cases hp:k<s.size
  ·by_cases ha:(s[k]'hp).toNat<128
   ·have hnx:∀ty,(Instr.next (.pointer (some ⟨w.heap.size,0,none⟩)) true ty).run Tryz.prog (w.iter s k)=_:=λty=>run_next_ascii w s k ty hp ha
    cases hw:mT (s[k]'hp)
    ·have hlen:=DP (s:=s.data.toList) (k:=k) (by simpa using hk) hin (λc hc=>by rw [DQ s k hp]at hc;cases hc;exact hw)
     have hc:=of_decide_eq_false hw;clear hw
     go_wp2
     all_goals first
      |(exfalso;simp at *;omega)
      |(go_ret;exact⟨by first |rfl |(rw [hlen];rfl),_,rfl⟩)
    ·have hc:=of_decide_eq_true hw;have hin2:=hin.succ hp hw;clear hw hin
     go_wp2
     all_goals first
      |(exfalso;simp at *;omega)
      |(
       go_roundw
       case rel=>exact⟨k+1,rfl,hp,hin2⟩
       case measure=>simp;omega)
   ·have hnx:∀ty,(Instr.next (.pointer (some ⟨w.heap.size,0,none⟩)) true ty).run Tryz.prog (w.iter s k)=_:=λty=>run_next_any w s k ty hp
    have hd:=(decode_high s k hp (by omega)).1
    have hle:=decode_le s k
    have hlen:=DP (s:=s.data.toList) (k:=k) (by simpa using hk) hin (λc hc=>by
     rw [DQ s k hp]at hc;cases hc;exact decide_eq_false (by omega))
    generalize Utf8.decode s k=d at hnx hd hle
    go_wp2
    all_goals first
     |(exfalso;simp at *;omega)
     |(go_ret;exact⟨by first |rfl |(rw [hlen];rfl),_,rfl⟩)
  ·have hnx:∀ty,(Instr.next (.pointer (some ⟨w.heap.size,0,none⟩)) true ty).run Tryz.prog (w.iter s k)=_:=λty=>run_next_end w s k ty hp
   have hlen:=DP (s:=s.data.toList) (k:=k) (by simpa using hk) hin (λc hc=>by
    have:=(List.getElem?_eq_some_iff.1 hc).1
    simp at this;omega)
   obtain rfl:k=s.size:=by omega
   go_wp2
   go_ret
   exact⟨by first|rfl|(rw [hlen];rfl),_,rfl⟩
open Go Go.Proofs Go.RowKit
def M1:(Tryz.prog.info? 106).map (·.size)=some 2:=by kernel_rfl
set_option maxHeartbeats 1000000 in
set_option maxRecDepth 100000 in
def M3(b:Nat)(w:World)(h0:w.cell? ⟨b,0,none⟩=some (.pointer (some ⟨b,0,none⟩))):
 Calls Tryz.prog 104 #[.pointer (some ⟨b,0,none⟩)] w λe w'=>e = .returned (.tuple #[])∧w'=w:=by
 obtain⟨j,hj,_⟩:=Option.map_eq_some_iff.1 M1
 go_enter Tryz.func104,Tryz.ntmps104
 go_wp2
 rw [Lib.run_neq_ptr_same w _ Tryz.underlying103 hj]
 go_wp2
 go_end0
 exact⟨rfl,rfl⟩
set_option maxHeartbeats 1000000 in
set_option maxRecDepth 100000 in
def M4(b:Nat)(w:World)(T:TypeId)(k:Nat)(h0:w.cell? ⟨b,0,none⟩=some (.pointer none))(hsh:w.shape? b=some (T,k))(hk:0<k)(hlies:liesAt Tryz.prog Tryz.prog.depth T (k / Tryz.prog.cellsOf T) 0 106 1=true)(hfz:w.frozen? ⟨b,0,none⟩=false):
 Calls Tryz.prog 104 #[.pointer (some ⟨b,0,none⟩)] w λe w'=>e = .returned (.tuple #[])∧w'=w.setCell ⟨b,0,none⟩ (.pointer (some ⟨b,0,none⟩)):=by
 obtain⟨j,hj,hjs⟩:=Option.map_eq_some_iff.1 M1
 go_enter Tryz.func104,Tryz.ntmps104
 go_wp2
 rw [Lib.run_to_unsafe w ⟨b,0,none⟩ Tryz.underlying103 Tryz.underlying213 hj (by rw [hjs];decide) hsh hk]
 simp only [Result.andThen];rw [Oper.upon_value]
 go_wp2
 rw [run_callFunc_extern Tryz.func158 (by kernel_rfl) (by kernel_rfl) (by kernel_rfl) (e:=Extern.AbiNoEscape.same) (by kernel_rfl)]
 rw [Lib.run_noEscape];simp only [Result.andThen];rw [Oper.upon_value]
 go_wp2
 rw [Lib.run_from_unsafe w ⟨b,0,none⟩ Tryz.underlying213 Tryz.underlying103 hj hsh hlies];simp only [Result.andThen];rw [Oper.upon_value]
 go_wp2
 go_end0
 exact⟨rfl,rfl⟩
def cellsByte:Tryz.prog.cellsOf 5=1:=by kernel_rfl
set_option maxHeartbeats 2000000 in
set_option maxRecDepth 100000 in
def M5(b:Nat)(w:World)(h:w.cell? ⟨b,1,none⟩=some (.slice none 0 0)):
 Calls Tryz.prog 54 #[.pointer (some ⟨b,0,none⟩)] w λe w'=>e = .returned (.string ⟨#[]⟩)∧w'=w.drew:=by
 have hUS:(Builtin.unsafeString_ #[157,3] 9 #[.pointer none,.int .i64 0]).run Tryz.prog w.drew = .ok (.string .empty) w.drew:=Lib.run_unsafeString_none w.drew _ _ _ none;have c1:w.drew.cell? ⟨b,1,none⟩=some (.slice none 0 0):=h;have hSD:(Builtin.unsafeSliceData_ #[104] 157 #[.slice none 0 0]).run Tryz.prog w.drew = .ok (.pointer none) w.drew:=rfl;have mixed:Tryz.prog.follows .mixedOrders=true:=by kernel_rfl
 go_enter Tryz.func54,Tryz.ntmps54
 go_wp2
 go_region_o
 all_goals (go_wp2;go_ret;exact⟨rfl,rfl⟩)
set_option maxHeartbeats 2000000 in
set_option maxRecDepth 100000 in
def M6(b g cap:Nat)(w:World)(hc0:cap≠0)(h:w.cell? ⟨b,1,none⟩=some (.slice (some ⟨g,0,none⟩) 0 cap)):
 Calls Tryz.prog 54 #[.pointer (some ⟨b,0,none⟩)] w λe w'=>e = .returned (.string ⟨#[]⟩)∧w'=w.drew:=by
 have hUS:(Builtin.unsafeString_ #[157,3] 9 #[.pointer (some ⟨g,0,none⟩),.int .i64 0]).run Tryz.prog w.drew = .ok (.string .empty) w.drew:=Lib.run_unsafeString_none w.drew _ _ _ _;have c1:w.drew.cell? ⟨b,1,none⟩=some (.slice (some ⟨g,0,none⟩) 0 cap):=h;have hSD:(Builtin.unsafeSliceData_ #[104] 157 #[.slice (some ⟨g,0,none⟩) 0 cap]).run Tryz.prog w.drew = .ok (.pointer (some ⟨g,0,none⟩)) w.drew:=Lib.run_unsafeSliceData_row _ _ _ _ _ _ hc0;clear hc0;have mixed:Tryz.prog.follows .mixedOrders=true:=by kernel_rfl
 go_enter Tryz.func54,Tryz.ntmps54
 go_wp2
 go_region_o
 all_goals (go_wp2;go_ret;exact⟨rfl,rfl⟩)
set_option maxHeartbeats 2000000 in
set_option maxRecDepth 100000 in
def M7(b g:Nat)(w:World)(vs:List Value)(h:w.cell? ⟨b,1,none⟩=some (.slice (some ⟨g,0,none⟩) 0 0))(hb:b<w.heap.size)(hg:w.heap[g]? = some (.cells ⟨vs⟩ 5 (0,0))):
 Calls Tryz.prog 54 #[.pointer (some ⟨b,0,none⟩)] w λe w'=>e = .returned (.string ⟨#[]⟩)∧w'=(w.drew.alloc (.view ⟨g,0,none⟩ 5)):=by
 have hUS:∀(q:Option Addr) (W:World),(Builtin.unsafeString_ #[157,3] 9 #[.pointer q,.int .i64 0]).run Tryz.prog W = .ok (.string .empty) W:=λq W=>Lib.run_unsafeString_none W _ _ _ q
 have c1:w.drew.cell? ⟨b,1,none⟩=some (.slice (some ⟨g,0,none⟩) 0 0):=h
 have hSD:(Builtin.unsafeSliceData_ #[104] 157 #[.slice (some ⟨g,0,none⟩) 0 0]).run Tryz.prog w.drew = .ok (.pointer (some ⟨w.drew.heap.size,0,none⟩)) (w.drew.alloc (.view ⟨g,0,none⟩ 5)):=
  Lib.run_unsafeSliceData_zero w.drew _ _ 5 Tryz.underlying157 ⟨g,0,none⟩ 0 (5,vs.length) (by have hg':w.drew.heap[g]? = some (.cells ⟨vs⟩ 5 (0,0)):=hg;simp [World.shape?,hg'])
 have c2:(w.drew.alloc (.view ⟨g,0,none⟩ 5)).cell? ⟨b,1,none⟩=some (.slice (some ⟨g,0,none⟩) 0 0):=by
  unfold World.cell? at h ⊢;rw [show(w.drew.alloc (.view ⟨g,0,none⟩ 5)).heap[b]? = w.heap[b]? from Lib.alloc_old w.drew _ b hb];exact h
 have c3:(w.alloc (.view ⟨g,0,none⟩ 5)).drew.cell? ⟨b,1,none⟩=some (.slice (some ⟨g,0,none⟩) 0 0):=c2;have mixed:Tryz.prog.follows .mixedOrders=true:=by kernel_rfl
 go_enter Tryz.func54,Tryz.ntmps54
 go_wp2
 go_region_o
 all_goals (go_wp2;go_ret;exact⟨rfl,rfl⟩)
set_option maxHeartbeats 2000000 in
set_option maxRecDepth 100000 in
def M8(b g cap:Nat)(w:World)(vs:List Value)(l:ajK)(h0:l≠[])(h:w.cell? ⟨b,1,none⟩=some (.slice (some ⟨g,0,none⟩) l.length cap))(hg:w.heap[g]? = some (.cells ⟨vs⟩ 5 (0,0)))
 (hn:l.length≤cap) (hcap:cap≤vs.length) (h63:l.length≤9223372036854775807) (hc:∀(j:Nat) (x:UInt8),l[j]? = some x→vs[j]? = some (Value.int .u8 x.toNat)):
 Calls Tryz.prog 54 #[.pointer (some ⟨b,0,none⟩)] w λe w'=>e = .returned (.string ⟨l.toArray⟩)∧w'=w.drew.freeze ⟨g,0,none⟩ l.length:=by
 have hl0:l.length≠0:=by simpa using h0
 have c1:w.drew.cell? ⟨b,1,none⟩=some (.slice (some ⟨g,0,none⟩) l.length cap):=h;have hg':w.drew.heap[g]? = some (.cells ⟨vs⟩ 5 (0,0)):=hg;have hSD:(Builtin.unsafeSliceData_ #[104] 157 #[.slice (some ⟨g,0,none⟩) l.length cap]).run Tryz.prog w.drew = .ok (.pointer (some ⟨g,0,none⟩)) w.drew:=Lib.run_unsafeSliceData_row _ _ _ _ _ _ (by omega)
 have hUS:(Builtin.unsafeString_ #[157,3] 9 #[.pointer (some ⟨g,0,none⟩),.int .i64 l.length]).run Tryz.prog w.drew = .ok (.string ⟨l.toArray⟩) (w.drew.freeze ⟨g,0,none⟩ l.length):=
  Lib.run_unsafeString_row w.drew 157 3 9 5 Tryz.underlying157 cellsByte g vs.length (by simp [World.shape?,hg']) l h0 (by omega) h63 (λj x hx=>by
   have:=hc j x hx
   rw [show(⟨g,0,none⟩:Addr).add j=⟨g,j,none⟩by unfold Addr.add;split<;>simp_all,Go.Ab.cell_of_heap hg',this])
 have mixed:Tryz.prog.follows .mixedOrders=true:=by kernel_rfl
 go_enter Tryz.func54,Tryz.ntmps54
 go_wp2
 go_region_o
 all_goals (go_wp2;go_ret;exact⟨rfl,rfl⟩)
open Go Go.Ab Go.Proofs
abbrev aiv(x:Int):V:=.int .i32 x
abbrev aai(x:Int):V:=.int .i64 x
abbrev aiw(x:Int):V:=.int .u32 x
abbrev aix(x:Int):V:=.int .u64 x
abbrev cI(x:Int):V:=.int .u8 x
def aiy{α β dx:Type}{a:α}{f:α→dx}{g:β→dx}{r:dx}(h:ja.on (.inl a) f g=r):f a=r:=h
def aiz{α β dx:Type}{b:β}{f:α→dx}{g:β→dx}{r:dx}(h:ja.on (.inr b) f g=r):g b=r:=h
abbrev aiA(x:Bool):V:=.bool x
abbrev a8(x:ajK):V:=.str x
structure bB where
 Kind:Int
 N:Int
 S:ajK
instance:Inhabited bB:=⟨⟨0,0,([]:ajK)⟩⟩
def dM(x:bB):V:=.agg [.int .i64 x.Kind,.int .i64 x.N,.str x.S]
structure Version where
 bH:Int
 bo:bB
instance:Inhabited Version:=⟨⟨0,(⟨0,0,([]:ajK)⟩:bB)⟩⟩
def fI(x:Version):V:=.agg [.int .i64 x.bH,.int .i64 x.bo.Kind,.int .i64 x.bo.N,.str x.bo.S]
structure Row where
 Key:ajK
 bi:List Version
instance:Inhabited Row:=⟨⟨([]:ajK),([]:List Version)⟩⟩
def bw(x:Row):V:=.agg [.str x.Key,aa 4 fI x.bi]
structure ao where
 bm:Int
 bk:Int
 Rows:List Row
instance:Inhabited ao:=⟨⟨0,0,([]:List Row)⟩⟩
def M9(x:ao):V:=.agg [.int .i64 x.bm,.int .i64 x.bk,aa 2 bw x.Rows]
structure Param where
 Name:ajK
 hT:Int
instance:Inhabited Param:=⟨⟨([]:ajK),0⟩⟩
def dN(x:Param):V:=.agg [.str x.Name,.int .i64 x.hT]
structure Expr where
 Op:Int
 N:Int
 S:ajK
 az:List Expr
instance:Inhabited Expr:=⟨⟨0,0,([]:ajK),([]:List Expr)⟩⟩
mutual
def bW:Expr→V
 |⟨Op,N,S,az⟩=>.agg [.int .i64 Op,.int .i64 N,.str S,.bC 4 az.length λi=>(vi az).getD i .eb]
def vi:List Expr→List V
 |[]=>[]
 |x::l=>bW x::vi l
end
def M_:∀l:List Expr,vi l=l.map bW
 |[]=>rfl
 |x::l=>by rw [vi,M_ l];rfl
def Na(l:List Expr)(i:Nat)(h:i<l.length):(vi l).getD i .eb=bW (l.getD i default):=by
 rw [M_];simp [List.getD,List.getElem?_eq_getElem h]
def DR(x:Expr):iI (bW x).cells [.int .i64 x.Op,.int .i64 x.N,.str x.S,aa 4 bW x.az]:=by
 cases x;exact .cons (gz _) (.cons (gz _) (.cons (gz _) (.cons (mJ λi hi=>Na _ i hi) (iI.nil))))
def vj(x:Expr):iI [.int .i64 x.Op,.int .i64 x.N,.str x.S,aa 4 bW x.az] (bW x).cells:=by
 cases x;exact .cons (gz _) (.cons (gz _) (.cons (gz _) (.cons (mJ λi hi=>(Na _ i hi).symm) (iI.nil))))
def fi(x:Expr):f0 (bW x) (.agg [.int .i64 x.Op,.int .i64 x.N,.str x.S,aa 4 bW x.az]):=by
 have h:=DR x;cases x;exact L9 h
structure Stmt where
 Op:Int
 Name:ajK
 Max:Int
 A:Expr
 B:Expr
 Body:List Stmt
 c7:List Stmt
instance:Inhabited Stmt:=⟨⟨0,([]:ajK),0,(⟨0,0,([]:ajK),([]:List Expr)⟩:Expr),(⟨0,0,([]:ajK),([]:List Expr)⟩:Expr),([]:List Stmt),([]:List Stmt)⟩⟩
mutual
def bR:Stmt→V
 |⟨Op,Name,Max,A,B,Body,c7⟩=>.agg [.int .i64 Op,.str Name,.int .i64 Max,.int .i64 A.Op,.int .i64 A.N,.str A.S,aa 4 bW A.az,.int .i64 B.Op,.int .i64 B.N,.str B.S,aa 4 bW B.az,.bC 13 Body.length λi=>(sO Body).getD i .eb,.bC 13 c7.length λi=>(sO c7).getD i .eb]
def sO:List Stmt→List V
 |[]=>[]
 |x::l=>bR x::sO l
end
def Nb:∀l:List Stmt,sO l=l.map bR
 |[]=>rfl
 |x::l=>by rw [sO,Nb l];rfl
def yW(l:List Stmt)(i:Nat)(h:i<l.length):(sO l).getD i .eb=bR (l.getD i default):=by
 rw [Nb];simp [List.getD,List.getElem?_eq_getElem h]
def aaj(x:Stmt):iI (bR x).cells [.int .i64 x.Op,.str x.Name,.int .i64 x.Max,.int .i64 x.A.Op,.int .i64 x.A.N,.str x.A.S,aa 4 bW x.A.az,.int .i64 x.B.Op,.int .i64 x.B.N,.str x.B.S,aa 4 bW x.B.az,aa 13 bR x.Body,aa 13 bR x.c7]:=by
 cases x;exact .cons (gz _) (.cons (gz _) (.cons (gz _) (.cons (gz _) (.cons (gz _) (.cons (gz _) (.cons (gz _) (.cons (gz _) (.cons (gz _) (.cons (gz _) (.cons (gz _) (.cons (mJ λi hi=>yW _ i hi) (.cons (mJ λi hi=>yW _ i hi) (iI.nil)))))))))))))
def Nc(x:Stmt):iI [.int .i64 x.Op,.str x.Name,.int .i64 x.Max,.int .i64 x.A.Op,.int .i64 x.A.N,.str x.A.S,aa 4 bW x.A.az,.int .i64 x.B.Op,.int .i64 x.B.N,.str x.B.S,aa 4 bW x.B.az,aa 13 bR x.Body,aa 13 bR x.c7] (bR x).cells:=by
 cases x;exact .cons (gz _) (.cons (gz _) (.cons (gz _) (.cons (gz _) (.cons (gz _) (.cons (gz _) (.cons (gz _) (.cons (gz _) (.cons (gz _) (.cons (gz _) (.cons (gz _) (.cons (mJ λi hi=>(yW _ i hi).symm) (.cons (mJ λi hi=>(yW _ i hi).symm) (iI.nil)))))))))))))
def fW(x:Stmt):f0 (bR x) (.agg [.int .i64 x.Op,.str x.Name,.int .i64 x.Max,.int .i64 x.A.Op,.int .i64 x.A.N,.str x.A.S,aa 4 bW x.A.az,.int .i64 x.B.Op,.int .i64 x.B.N,.str x.B.S,aa 4 bW x.B.az,aa 13 bR x.Body,aa 13 bR x.c7]):=by
 have h:=aaj x;cases x;exact L9 h
structure bj where
 Name:ajK
 Params:List Param
 Body:List Stmt
instance:Inhabited bj:=⟨⟨([]:ajK),([]:List Param),([]:List Stmt)⟩⟩
def cJ(x:bj):V:=.agg [.str x.Name,aa 2 dN x.Params,aa 13 bR x.Body]
structure Outcome where
 Status:Int
 Code:Int
 Out:List bB
instance:Inhabited Outcome:=⟨⟨0,0,([]:List bB)⟩⟩
def aak(x:Outcome):V:=.agg [.int .i64 x.Status,.int .i64 x.Code,aa 3 dM x.Out]
structure eT where
 Client:Int
 Seq:Int
 Outcome:Outcome
instance:Inhabited eT:=⟨⟨0,0,(⟨0,0,([]:List bB)⟩:Outcome)⟩⟩
def gK(x:eT):V:=.agg [.int .i64 x.Client,.int .i64 x.Seq,.int .i64 x.Outcome.Status,.int .i64 x.Outcome.Code,aa 3 dM x.Outcome.Out]
structure b1 where
 Client:Int
 Next:Int
 c':List eT
instance:Inhabited b1:=⟨⟨0,0,([]:List eT)⟩⟩
def cy(x:b1):V:=.agg [.int .i64 x.Client,.int .i64 x.Next,aa 5 gK x.c']
structure Part where
 Id:Int
 dY:ajK
 Node:Int
 gQ:Int
 cN:ajK
instance:Inhabited Part:=⟨⟨0,([]:ajK),0,0,([]:ajK)⟩⟩
def ca(x:Part):V:=.agg [.int .i64 x.Id,.str x.dY,.int .i64 x.Node,.int .i64 x.gQ,.str x.cN]
structure bX where
 Version:Int
 a7:List Part
instance:Inhabited bX:=⟨⟨0,([]:List Part)⟩⟩
def aal(x:bX):V:=.agg [.int .i64 x.Version,aa 5 ca x.a7]
structure bc where
 Key:ajK
 Count:Int
instance:Inhabited bc:=⟨⟨([]:ajK),0⟩⟩
def cO(x:bc):V:=.agg [.str x.Key,.int .i64 x.Count]
structure eX where
 ep:Bool
 Reads:List ajK
 da:List ajK
instance:Inhabited eX:=⟨⟨false,([]:List ajK),([]:List ajK)⟩⟩
def aam(x:eX):V:=.agg [.bool x.ep,aa 1 a8 x.Reads,aa 1 a8 x.da]
structure Request where
 Client:Int
 Seq:Int
 bj:ajK
 az:List bB
 fD:Bool
 bY:eX
instance:Inhabited Request:=⟨⟨0,0,([]:ajK),([]:List bB),false,(⟨false,([]:List ajK),([]:List ajK)⟩:eX)⟩⟩
def cT(x:Request):V:=.agg [.int .i64 x.Client,.int .i64 x.Seq,.str x.bj,aa 3 dM x.az,.bool x.fD,.bool x.bY.ep,aa 1 a8 x.bY.Reads,aa 1 a8 x.bY.da]
structure bF where
 Pos:Int
 ao:ao
 bI:List bj
 bT:List b1
 Place:bX
 bc:List bc
 Queue:List Request
 b6:Int
instance:Inhabited bF:=⟨⟨0,(⟨0,0,([]:List Row)⟩:ao),([]:List bj),([]:List b1),(⟨0,([]:List Part)⟩:bX),([]:List bc),([]:List Request),0⟩⟩
def aan(x:bF):V:=.agg [.int .i64 x.Pos,.int .i64 x.ao.bm,.int .i64 x.ao.bk,aa 2 bw x.ao.Rows,aa 3 cJ x.bI,aa 3 cy x.bT,.int .i64 x.Place.Version,aa 5 ca x.Place.a7,aa 2 cO x.bc,aa 8 cT x.Queue,.int .u64 x.b6]
structure aI where
 Key:ajK
 bo:bB
instance:Inhabited aI:=⟨⟨([]:ajK),(⟨0,0,([]:ajK)⟩:bB)⟩⟩
def bG(x:aI):V:=.agg [.str x.Key,.int .i64 x.bo.Kind,.int .i64 x.bo.N,.str x.bo.S]
structure de where
 bH:Int
 Rest:bF
 Next:ajK
 cN:Bool
 c8:List aI
 cU:List ajK
instance:Inhabited de:=⟨⟨0,(⟨0,(⟨0,0,([]:List Row)⟩:ao),([]:List bj),([]:List b1),(⟨0,([]:List Part)⟩:bX),([]:List bc),([]:List Request),0⟩:bF),([]:ajK),false,([]:List aI),([]:List ajK)⟩⟩
def Nd(x:de):V:=.agg [.int .i64 x.bH,.int .i64 x.Rest.Pos,.int .i64 x.Rest.ao.bm,.int .i64 x.Rest.ao.bk,aa 2 bw x.Rest.ao.Rows,aa 3 cJ x.Rest.bI,aa 3 cy x.Rest.bT,.int .i64 x.Rest.Place.Version,aa 5 ca x.Rest.Place.a7,aa 2 cO x.Rest.bc,aa 8 cT x.Rest.Queue,.int .u64 x.Rest.b6,.str x.Next,.bool x.cN,aa 4 bG x.c8,aa 1 a8 x.cU]
structure DS where
 aao:Bool
 da:List aI
 N:Int
instance:Inhabited DS:=⟨⟨false,([]:List aI),0⟩⟩
def aap(x:DS):V:=.agg [.bool x.aao,aa 4 bG x.da,.int .i64 x.N]
structure Range where
 dY:ajK
 hU:ajK
instance:Inhabited Range:=⟨⟨([]:ajK),([]:ajK)⟩⟩
def aiB(x:Range):V:=.agg [.str x.dY,.str x.hU]
structure fJ where
 s:ajK
 at_:Int
 e:Int
instance:Inhabited fJ:=⟨⟨([]:ajK),0,0⟩⟩
def aiC(x:fJ):V:=.agg [.str x.s,.int .i64 x.at_,.int .i64 x.e]
structure mf where
 fv:bF
 DT:List aI
 sources:List ajK
instance:Inhabited mf:=⟨⟨(⟨0,(⟨0,0,([]:List Row)⟩:ao),([]:List bj),([]:List b1),(⟨0,([]:List Part)⟩:bX),([]:List bc),([]:List Request),0⟩:bF),([]:List aI),([]:List ajK)⟩⟩
def aiD(x:mf):V:=.agg [.int .i64 x.fv.Pos,.int .i64 x.fv.ao.bm,.int .i64 x.fv.ao.bk,aa 2 bw x.fv.ao.Rows,aa 3 cJ x.fv.bI,aa 3 cy x.fv.bT,.int .i64 x.fv.Place.Version,aa 5 ca x.fv.Place.a7,aa 2 cO x.fv.bc,aa 8 cT x.fv.Queue,.int .u64 x.fv.b6,aa 4 bG x.DT,aa 1 a8 x.sources]
structure Token where
 Kind:Int
 Text:ajK
 N:Int
 kv:Int
instance:Inhabited Token:=⟨⟨0,([]:ajK),0,0⟩⟩
def cW(x:Token):V:=.agg [.int .i64 x.Kind,.str x.Text,.int .i64 x.N,.int .i64 x.kv]
structure ct where
 Nf:Bool
 Stmt:Stmt
 Ng:Int
 Expr:Expr
 aaq:Bool
instance:Inhabited ct:=⟨⟨false,(⟨0,([]:ajK),0,(⟨0,0,([]:ajK),([]:List Expr)⟩:Expr),(⟨0,0,([]:ajK),([]:List Expr)⟩:Expr),([]:List Stmt),([]:List Stmt)⟩:Stmt),0,(⟨0,0,([]:ajK),([]:List Expr)⟩:Expr),false⟩⟩
def hK(x:ct):V:=.agg [.bool x.Nf,.int .i64 x.Stmt.Op,.str x.Stmt.Name,.int .i64 x.Stmt.Max,.int .i64 x.Stmt.A.Op,.int .i64 x.Stmt.A.N,.str x.Stmt.A.S,aa 4 bW x.Stmt.A.az,.int .i64 x.Stmt.B.Op,.int .i64 x.Stmt.B.N,.str x.Stmt.B.S,aa 4 bW x.Stmt.B.az,aa 13 bR x.Stmt.Body,aa 13 bR x.Stmt.c7,.int .i64 x.Ng,.int .i64 x.Expr.Op,.int .i64 x.Expr.N,.str x.Expr.S,aa 4 bW x.Expr.az,.bool x.aaq]
structure Nh where
 aar:Int
 seq:Int
instance:Inhabited Nh:=⟨⟨0,0⟩⟩
def aiE(x:Nh):V:=.agg [.int .i64 x.aar,.int .i64 x.seq]
structure a1 where
 tokens:List Token
 at_:Int
instance:Inhabited a1:=⟨⟨([]:List Token),0⟩⟩
def aiF(x:a1):V:=.agg [aa 4 cW x.tokens,.int .i64 x.at_]
structure Ni where
 line:Int
 code:Int
instance:Inhabited Ni:=⟨⟨0,0⟩⟩
def aiG(x:Ni):V:=.agg [.int .i64 x.line,.int .i64 x.code]
structure jy where
 name:Bool
 a:Bool
 b:Bool
 max:Bool
 body:Bool
 other:Bool
instance:Inhabited jy:=⟨⟨false,false,false,false,false,false⟩⟩
def aiH(x:jy):V:=.agg [.bool x.name,.bool x.a,.bool x.b,.bool x.max,.bool x.body,.bool x.other]
structure jc where
 s:ajK
 at_:Int
 e:Int
instance:Inhabited jc:=⟨⟨([]:ajK),0,0⟩⟩
def aiI(x:jc):V:=.agg [.str x.s,.int .i64 x.at_,.int .i64 x.e]
structure mg where
 s:ajK
 at_:Int
 e:Int
instance:Inhabited mg:=⟨⟨([]:ajK),0,0⟩⟩
def aiJ(x:mg):V:=.agg [.str x.s,.int .i64 x.at_,.int .i64 x.e]
structure gA where
 s:ajK
 at_:Int
 e:Int
instance:Inhabited gA:=⟨⟨([]:ajK),0,0⟩⟩
def aiK(x:gA):V:=.agg [.str x.s,.int .i64 x.at_,.int .i64 x.e]
def tt:dr:=[
 (1,⟨.aT,1,8,[.aM],[]⟩),
 (2,⟨.int .i64,1,8,[.int .i64 0],[]⟩),
 (3,⟨.int .i64,1,8,[.int .i64 0],[]⟩),
 (4,⟨.bool,1,1,[.bool false],[]⟩),
 (5,⟨.int .u8,1,1,[.int .u8 0],[]⟩),
 (6,⟨.int .u8,1,1,[.int .u8 0],[]⟩),
 (7,⟨.b0 [(0,2,1),(1,3,1),(2,4,1),(3,6,1)],4,24,[.int .i64 0,.int .i64 0,.bool false,.int .u8 0],[]⟩),
 (8,⟨.b0 [(0,2,1),(1,3,1),(2,4,1),(3,6,1)],4,24,[.int .i64 0,.int .i64 0,.bool false,.int .u8 0],[]⟩),
 (9,⟨.str,1,16,[.str ([]:ajK)],[]⟩),
 (10,⟨.str,1,16,[.str ([]:ajK)],[]⟩),
 (11,⟨.str,1,16,[.str ([]:ajK)],[]⟩),
 (12,⟨.int .u64,1,8,[.int .u64 0],[]⟩),
 (13,⟨.b0 [(0,9,1),(1,12,1)],2,24,[.str ([]:ajK),.int .u64 0],[]⟩),
 (14,⟨.b0 [(0,9,1),(1,12,1)],2,24,[.str ([]:ajK),.int .u64 0],[]⟩),
 (15,⟨.ptr,1,8,[.eb],[]⟩),
 (16,⟨.ptr,1,8,[.eb],[]⟩),
 (17,⟨.ptr,1,8,[.eb],[]⟩),
 (18,⟨.b0 [(0,17,1)],1,8,[.eb],[]⟩),
 (19,⟨.b0 [(0,17,1)],1,8,[.eb],[]⟩),
 (20,⟨.lT,1,16,[.gN],[]⟩),
 (21,⟨.int .i32,1,4,[.int .i32 0],[]⟩),
 (22,⟨.bC 92,1,24,[aa 2 bw ([]:List Row)],[]⟩),
 (23,⟨.b0 [(0,2,1),(1,2,1),(2,22,1)],3,40,[.int .i64 0,.int .i64 0,aa 2 bw ([]:List Row)],[]⟩),
 (24,⟨.b0 [(0,2,1),(1,2,1),(2,22,1)],3,40,[.int .i64 0,.int .i64 0,aa 2 bw ([]:List Row)],[]⟩),
 (25,⟨.bC 73,1,24,[aa 3 cJ ([]:List bj)],[]⟩),
 (26,⟨.bC 76,1,24,[aa 3 cy ([]:List b1)],[]⟩),
 (27,⟨.bC 148,1,24,[aa 5 ca ([]:List Part)],[]⟩),
 (28,⟨.b0 [(0,2,1),(1,27,1)],2,32,[.int .i64 0,aa 5 ca ([]:List Part)],[]⟩),
 (29,⟨.b0 [(0,2,1),(1,27,1)],2,32,[.int .i64 0,aa 5 ca ([]:List Part)],[]⟩),
 (30,⟨.bC 179,1,24,[aa 2 cO ([]:List bc)],[]⟩),
 (31,⟨.bC 82,1,24,[aa 8 cT ([]:List Request)],[]⟩),
 (32,⟨.int .u64,1,8,[.int .u64 0],[]⟩),
 (33,⟨.b0 [(0,2,1),(1,24,3),(4,25,1),(5,26,1),(6,29,2),(8,30,1),(9,31,1),(10,32,1)],11,184,[.int .i64 0,.int .i64 0,.int .i64 0,aa 2 bw ([]:List Row),aa 3 cJ ([]:List bj),aa 3 cy ([]:List b1),.int .i64 0,aa 5 ca ([]:List Part),aa 2 cO ([]:List bc),aa 8 cT ([]:List Request),.int .u64 0],[]⟩),
 (34,⟨.b0 [(0,2,1),(1,24,3),(4,25,1),(5,26,1),(6,29,2),(8,30,1),(9,31,1),(10,32,1)],11,184,[.int .i64 0,.int .i64 0,.int .i64 0,aa 2 bw ([]:List Row),aa 3 cJ ([]:List bj),aa 3 cy ([]:List b1),.int .i64 0,aa 5 ca ([]:List Part),aa 2 cO ([]:List bc),aa 8 cT ([]:List Request),.int .u64 0],[]⟩),
 (35,⟨.aT,1,8,[.aM],[]⟩),
 (36,⟨.aT,1,8,[.aM],[]⟩),
 (37,⟨.bC 87,1,24,[aa 4 bG ([]:List aI)],[]⟩),
 (38,⟨.bC 9,1,24,[aa 1 a8 ([]:List ajK)],[]⟩),
 (39,⟨.b0 [(0,2,1),(1,34,11),(12,9,1),(13,4,1),(14,37,1),(15,38,1)],16,264,[.int .i64 0,.int .i64 0,.int .i64 0,.int .i64 0,aa 2 bw ([]:List Row),aa 3 cJ ([]:List bj),aa 3 cy ([]:List b1),.int .i64 0,aa 5 ca ([]:List Part),aa 2 cO ([]:List bc),aa 8 cT ([]:List Request),.int .u64 0,.str ([]:ajK),.bool false,aa 4 bG ([]:List aI),aa 1 a8 ([]:List ajK)],[]⟩),
 (40,⟨.b0 [(0,2,1),(1,34,11),(12,9,1),(13,4,1),(14,37,1),(15,38,1)],16,264,[.int .i64 0,.int .i64 0,.int .i64 0,.int .i64 0,aa 2 bw ([]:List Row),aa 3 cJ ([]:List bj),aa 3 cy ([]:List b1),.int .i64 0,aa 5 ca ([]:List Part),aa 2 cO ([]:List bc),aa 8 cT ([]:List Request),.int .u64 0,.str ([]:ajK),.bool false,aa 4 bG ([]:List aI),aa 1 a8 ([]:List ajK)],[]⟩),
 (41,⟨.int .i64,1,8,[.int .i64 0],[]⟩),
 (43,⟨.aT,1,8,[.aM],[]⟩),
 (44,⟨.aT,1,8,[.aM],[]⟩),
 (45,⟨.aT,1,8,[.aM],[]⟩),
 (46,⟨.aT,1,8,[.aM],[]⟩),
 (47,⟨.aT,1,8,[.aM],[]⟩),
 (48,⟨.aT,1,8,[.aM],[]⟩),
 (49,⟨.aT,1,8,[.aM],[]⟩),
 (51,⟨.aT,1,8,[.aM],[]⟩),
 (53,⟨.aT,1,8,[.aM],[]⟩),
 (54,⟨.aT,1,8,[.aM],[]⟩),
 (55,⟨.aT,1,8,[.aM],[]⟩),
 (56,⟨.aT,1,8,[.aM],[]⟩),
 (57,⟨.bC 3,1,24,[aa 1 aai ([]:List Int)],[]⟩),
 (59,⟨.aT,1,8,[.aM],[]⟩),
 (60,⟨.aT,1,8,[.aM],[]⟩),
 (61,⟨.aT,1,8,[.aM],[]⟩),
 (62,⟨.bC 64,1,24,[aa 3 aap ([]:List DS)],[]⟩),
 (63,⟨.b0 [(0,4,1),(1,37,1),(2,3,1)],3,40,[.bool false,aa 4 bG ([]:List aI),.int .i64 0],[]⟩),
 (64,⟨.b0 [(0,4,1),(1,37,1),(2,3,1)],3,40,[.bool false,aa 4 bG ([]:List aI),.int .i64 0],[]⟩),
 (65,⟨.aT,1,8,[.aM],[]⟩),
 (67,⟨.aT,1,8,[.aM],[]⟩),
 (68,⟨.aT,1,8,[.aM],[]⟩),
 (69,⟨.aT,1,8,[.aM],[]⟩),
 (70,⟨.bC 143,1,24,[aa 2 dN ([]:List Param)],[]⟩),
 (71,⟨.bC 200,1,24,[aa 13 bR ([]:List Stmt)],[]⟩),
 (72,⟨.b0 [(0,9,1),(1,70,1),(2,71,1)],3,64,[.str ([]:ajK),aa 2 dN ([]:List Param),aa 13 bR ([]:List Stmt)],[]⟩),
 (73,⟨.b0 [(0,9,1),(1,70,1),(2,71,1)],3,64,[.str ([]:ajK),aa 2 dN ([]:List Param),aa 13 bR ([]:List Stmt)],[]⟩),
 (74,⟨.bC 232,1,24,[aa 5 gK ([]:List eT)],[]⟩),
 (75,⟨.b0 [(0,3,1),(1,2,1),(2,74,1)],3,40,[.int .i64 0,.int .i64 0,aa 5 gK ([]:List eT)],[]⟩),
 (76,⟨.b0 [(0,3,1),(1,2,1),(2,74,1)],3,40,[.int .i64 0,.int .i64 0,aa 5 gK ([]:List eT)],[]⟩),
 (77,⟨.aT,1,8,[.aM],[]⟩),
 (78,⟨.bC 85,1,24,[aa 3 dM ([]:List bB)],[]⟩),
 (79,⟨.b0 [(0,4,1),(1,38,1),(2,38,1)],3,56,[.bool false,aa 1 a8 ([]:List ajK),aa 1 a8 ([]:List ajK)],[]⟩),
 (80,⟨.b0 [(0,4,1),(1,38,1),(2,38,1)],3,56,[.bool false,aa 1 a8 ([]:List ajK),aa 1 a8 ([]:List ajK)],[]⟩),
 (81,⟨.b0 [(0,3,1),(1,2,1),(2,9,1),(3,78,1),(4,4,1),(5,80,3)],8,120,[.int .i64 0,.int .i64 0,.str ([]:ajK),aa 3 dM ([]:List bB),.bool false,.bool false,aa 1 a8 ([]:List ajK),aa 1 a8 ([]:List ajK)],[]⟩),
 (82,⟨.b0 [(0,3,1),(1,2,1),(2,9,1),(3,78,1),(4,4,1),(5,80,3)],8,120,[.int .i64 0,.int .i64 0,.str ([]:ajK),aa 3 dM ([]:List bB),.bool false,.bool false,aa 1 a8 ([]:List ajK),aa 1 a8 ([]:List ajK)],[]⟩),
 (83,⟨.aT,1,8,[.aM],[]⟩),
 (84,⟨.b0 [(0,3,1),(1,2,1),(2,9,1)],3,32,[.int .i64 0,.int .i64 0,.str ([]:ajK)],[]⟩),
 (85,⟨.b0 [(0,3,1),(1,2,1),(2,9,1)],3,32,[.int .i64 0,.int .i64 0,.str ([]:ajK)],[]⟩),
 (86,⟨.b0 [(0,9,1),(1,85,3)],4,48,[.str ([]:ajK),.int .i64 0,.int .i64 0,.str ([]:ajK)],[]⟩),
 (87,⟨.b0 [(0,9,1),(1,85,3)],4,48,[.str ([]:ajK),.int .i64 0,.int .i64 0,.str ([]:ajK)],[]⟩),
 (89,⟨.aT,1,8,[.aM],[]⟩),
 (90,⟨.bC 138,1,24,[aa 4 fI ([]:List Version)],[]⟩),
 (91,⟨.b0 [(0,9,1),(1,90,1)],2,40,[.str ([]:ajK),aa 4 fI ([]:List Version)],[]⟩),
 (92,⟨.b0 [(0,9,1),(1,90,1)],2,40,[.str ([]:ajK),aa 4 fI ([]:List Version)],[]⟩),
 (93,⟨.b0 [(0,9,1),(1,9,1)],2,32,[.str ([]:ajK),.str ([]:ajK)],[]⟩),
 (94,⟨.b0 [(0,9,1),(1,9,1)],2,32,[.str ([]:ajK),.str ([]:ajK)],[]⟩),
 (95,⟨.aT,1,8,[.aM],[]⟩),
 (96,⟨.aT,1,8,[.aM],[]⟩),
 (98,⟨.aT,1,8,[.aM],[]⟩),
 (99,⟨.aT,1,8,[.aM],[]⟩),
 (100,⟨.aT,1,8,[.aM],[]⟩),
 (102,⟨.aT,1,8,[.aM],[]⟩),
 (103,⟨.ptr,1,8,[.eb],[]⟩),
 (104,⟨.bC 5,1,24,[aa 1 cI ([]:List Int)],[]⟩),
 (105,⟨.b0 [(0,103,1),(1,104,1)],2,32,[.eb,aa 1 cI ([]:List Int)],[]⟩),
 (106,⟨.b0 [(0,103,1),(1,104,1)],2,32,[.eb,aa 1 cI ([]:List Int)],[(0,106)]⟩),
 (107,⟨.lT,1,16,[.gN],[]⟩),
 (108,⟨.lT,1,16,[.gN],[]⟩),
 (110,⟨.aT,1,8,[.aM],[]⟩),
 (111,⟨.aT,1,8,[.aM],[]⟩),
 (112,⟨.aT,1,8,[.aM],[]⟩),
 (113,⟨.aT,1,8,[.aM],[]⟩),
 (114,⟨.aT,1,8,[.aM],[]⟩),
 (116,⟨.aT,1,8,[.aM],[]⟩),
 (117,⟨.aT,1,8,[.aM],[]⟩),
 (118,⟨.aT,1,8,[.aM],[]⟩),
 (120,⟨.aT,1,8,[.aM],[]⟩),
 (121,⟨.aT,1,8,[.aM],[]⟩),
 (122,⟨.aT,1,8,[.aM],[]⟩),
 (123,⟨.aT,1,8,[.aM],[]⟩),
 (124,⟨.aT,1,8,[.aM],[]⟩),
 (125,⟨.aT,1,8,[.aM],[]⟩),
 (126,⟨.aT,1,8,[.aM],[]⟩),
 (127,⟨.aT,1,8,[.aM],[]⟩),
 (128,⟨.aT,1,8,[.aM],[]⟩),
 (129,⟨.aT,1,8,[.aM],[]⟩),
 (130,⟨.aT,1,8,[.aM],[]⟩),
 (131,⟨.aT,1,8,[.aM],[]⟩),
 (132,⟨.aT,1,8,[.aM],[]⟩),
 (133,⟨.aT,1,8,[.aM],[]⟩),
 (134,⟨.aT,1,8,[.aM],[]⟩),
 (136,⟨.aT,1,8,[.aM],[]⟩),
 (137,⟨.b0 [(0,2,1),(1,85,3)],4,40,[.int .i64 0,.int .i64 0,.int .i64 0,.str ([]:ajK)],[]⟩),
 (138,⟨.b0 [(0,2,1),(1,85,3)],4,40,[.int .i64 0,.int .i64 0,.int .i64 0,.str ([]:ajK)],[]⟩),
 (139,⟨.aT,1,8,[.aM],[]⟩),
 (140,⟨.aT,1,8,[.aM],[]⟩),
 (141,⟨.aT,1,8,[.aM],[]⟩),
 (142,⟨.b0 [(0,9,1),(1,3,1)],2,24,[.str ([]:ajK),.int .i64 0],[]⟩),
 (143,⟨.b0 [(0,9,1),(1,3,1)],2,24,[.str ([]:ajK),.int .i64 0],[]⟩),
 (144,⟨.aT,1,8,[.aM],[]⟩),
 (145,⟨.aT,1,8,[.aM],[]⟩),
 (146,⟨.aT,1,8,[.aM],[]⟩),
 (147,⟨.b0 [(0,3,1),(1,9,1),(2,3,1),(3,3,1),(4,9,1)],5,56,[.int .i64 0,.str ([]:ajK),.int .i64 0,.int .i64 0,.str ([]:ajK)],[]⟩),
 (148,⟨.b0 [(0,3,1),(1,9,1),(2,3,1),(3,3,1),(4,9,1)],5,56,[.int .i64 0,.str ([]:ajK),.int .i64 0,.int .i64 0,.str ([]:ajK)],[]⟩),
 (149,⟨.aT,1,8,[.aM],[]⟩),
 (150,⟨.aT,1,8,[.aM],[]⟩),
 (151,⟨.aT,1,8,[.aM],[]⟩),
 (152,⟨.aT,1,8,[.aM],[]⟩),
 (153,⟨.aT,1,8,[.aM],[]⟩),
 (154,⟨.aT,1,8,[.aM],[]⟩),
 (155,⟨.aT,1,8,[.aM],[]⟩),
 (156,⟨.int .u64,1,8,[.int .u64 0],[]⟩),
 (157,⟨.ptr,1,8,[.eb],[]⟩),
 (159,⟨.aT,1,8,[.aM],[]⟩),
 (161,⟨.aT,1,8,[.aM],[]⟩),
 (163,⟨.aT,1,8,[.aM],[]⟩),
 (165,⟨.aT,1,8,[.aM],[]⟩),
 (167,⟨.aT,1,8,[.aM],[]⟩),
 (169,⟨.aT,1,8,[.aM],[]⟩),
 (171,⟨.aT,1,8,[.aM],[]⟩),
 (173,⟨.aT,1,8,[.aM],[]⟩),
 (175,⟨.aT,1,8,[.aM],[]⟩),
 (176,⟨.aT,1,8,[.aM],[]⟩),
 (177,⟨.aT,1,8,[.aM],[]⟩),
 (178,⟨.b0 [(0,9,1),(1,2,1)],2,24,[.str ([]:ajK),.int .i64 0],[]⟩),
 (179,⟨.b0 [(0,9,1),(1,2,1)],2,24,[.str ([]:ajK),.int .i64 0],[]⟩),
 (180,⟨.aT,1,8,[.aM],[]⟩),
 (181,⟨.aT,1,8,[.aM],[]⟩),
 (182,⟨.aT,1,8,[.aM],[]⟩),
 (183,⟨.aT,1,8,[.aM],[]⟩),
 (184,⟨.aT,1,8,[.aM],[]⟩),
 (185,⟨.aT,1,8,[.aM],[]⟩),
 (186,⟨.aT,1,8,[.aM],[]⟩),
 (187,⟨.aT,1,8,[.aM],[]⟩),
 (188,⟨.aT,1,8,[.aM],[]⟩),
 (189,⟨.aT,1,8,[.aM],[]⟩),
 (190,⟨.aT,1,8,[.aM],[]⟩),
 (191,⟨.aT,1,8,[.aM],[]⟩),
 (192,⟨.aT,1,8,[.aM],[]⟩),
 (193,⟨.aT,1,8,[.aM],[]⟩),
 (194,⟨.aT,1,8,[.aM],[]⟩),
 (195,⟨.aT,1,8,[.aM],[]⟩),
 (196,⟨.bC 198,1,24,[aa 4 bW ([]:List Expr)],[]⟩),
 (197,⟨.b0 [(0,3,1),(1,2,1),(2,9,1),(3,196,1)],4,56,[.int .i64 0,.int .i64 0,.str ([]:ajK),aa 4 bW ([]:List Expr)],[]⟩),
 (198,⟨.b0 [(0,3,1),(1,2,1),(2,9,1),(3,196,1)],4,56,[.int .i64 0,.int .i64 0,.str ([]:ajK),aa 4 bW ([]:List Expr)],[]⟩),
 (199,⟨.b0 [(0,3,1),(1,9,1),(2,3,1),(3,198,4),(7,198,4),(11,71,1),(12,71,1)],13,192,[.int .i64 0,.str ([]:ajK),.int .i64 0,.int .i64 0,.int .i64 0,.str ([]:ajK),aa 4 bW ([]:List Expr),.int .i64 0,.int .i64 0,.str ([]:ajK),aa 4 bW ([]:List Expr),aa 13 bR ([]:List Stmt),aa 13 bR ([]:List Stmt)],[]⟩),
 (200,⟨.b0 [(0,3,1),(1,9,1),(2,3,1),(3,198,4),(7,198,4),(11,71,1),(12,71,1)],13,192,[.int .i64 0,.str ([]:ajK),.int .i64 0,.int .i64 0,.int .i64 0,.str ([]:ajK),aa 4 bW ([]:List Expr),.int .i64 0,.int .i64 0,.str ([]:ajK),aa 4 bW ([]:List Expr),aa 13 bR ([]:List Stmt),aa 13 bR ([]:List Stmt)],[]⟩),
 (201,⟨.aT,1,8,[.aM],[]⟩),
 (202,⟨.ptr,1,8,[.eb],[]⟩),
 (203,⟨.b0 [(0,9,1),(1,3,1),(2,41,1)],3,32,[.str ([]:ajK),.int .i64 0,.int .i64 0],[]⟩),
 (204,⟨.b0 [(0,9,1),(1,3,1),(2,41,1)],3,32,[.str ([]:ajK),.int .i64 0,.int .i64 0],[]⟩),
 (205,⟨.b0 [(0,34,11),(11,37,1),(12,38,1)],13,232,[.int .i64 0,.int .i64 0,.int .i64 0,aa 2 bw ([]:List Row),aa 3 cJ ([]:List bj),aa 3 cy ([]:List b1),.int .i64 0,aa 5 ca ([]:List Part),aa 2 cO ([]:List bc),aa 8 cT ([]:List Request),.int .u64 0,aa 4 bG ([]:List aI),aa 1 a8 ([]:List ajK)],[]⟩),
 (206,⟨.b0 [(0,34,11),(11,37,1),(12,38,1)],13,232,[.int .i64 0,.int .i64 0,.int .i64 0,aa 2 bw ([]:List Row),aa 3 cJ ([]:List bj),aa 3 cy ([]:List b1),.int .i64 0,aa 5 ca ([]:List Part),aa 2 cO ([]:List bc),aa 8 cT ([]:List Request),.int .u64 0,aa 4 bG ([]:List aI),aa 1 a8 ([]:List ajK)],[]⟩),
 (207,⟨.aT,1,8,[.aM],[]⟩),
 (208,⟨.aT,1,8,[.aM],[]⟩),
 (209,⟨.aT,1,8,[.aM],[]⟩),
 (210,⟨.aT,1,8,[.aM],[]⟩),
 (211,⟨.aT,1,8,[.aM],[]⟩),
 (212,⟨.aT,1,8,[.aM],[]⟩),
 (214,⟨.aT,1,8,[.aM],[]⟩),
 (215,⟨.aT,1,8,[.aM],[]⟩),
 (216,⟨.aT,1,8,[.aM],[]⟩),
 (218,⟨.aT,1,8,[.aM],[]⟩),
 (220,⟨.aT,1,8,[.aM],[]⟩),
 (222,⟨.aT,1,8,[.aM],[]⟩),
 (224,⟨.aT,1,8,[.aM],[]⟩),
 (226,⟨.aT,1,8,[.aM],[]⟩),
 (227,⟨.aT,1,8,[.aM],[]⟩),
 (228,⟨.aT,1,8,[.aM],[]⟩),
 (229,⟨.b0 [(0,3,1),(1,3,1),(2,78,1)],3,40,[.int .i64 0,.int .i64 0,aa 3 dM ([]:List bB)],[]⟩),
 (230,⟨.b0 [(0,3,1),(1,3,1),(2,78,1)],3,40,[.int .i64 0,.int .i64 0,aa 3 dM ([]:List bB)],[]⟩),
 (231,⟨.b0 [(0,3,1),(1,2,1),(2,230,3)],5,56,[.int .i64 0,.int .i64 0,.int .i64 0,.int .i64 0,aa 3 dM ([]:List bB)],[]⟩),
 (232,⟨.b0 [(0,3,1),(1,2,1),(2,230,3)],5,56,[.int .i64 0,.int .i64 0,.int .i64 0,.int .i64 0,aa 3 dM ([]:List bB)],[]⟩),
 (233,⟨.aT,1,8,[.aM],[]⟩),
 (234,⟨.aT,1,8,[.aM],[]⟩),
 (235,⟨.aT,1,8,[.aM],[]⟩),
 (236,⟨.aT,1,8,[.aM],[]⟩),
 (237,⟨.aT,1,8,[.aM],[]⟩),
 (238,⟨.aT,1,8,[.aM],[]⟩),
 (239,⟨.aT,1,8,[.aM],[]⟩),
 (240,⟨.aT,1,8,[.aM],[]⟩),
 (241,⟨.aT,1,8,[.aM],[]⟩),
 (242,⟨.aT,1,8,[.aM],[]⟩),
 (243,⟨.aT,1,8,[.aM],[]⟩),
 (244,⟨.ptr,1,8,[.eb],[]⟩),
 (245,⟨.b0 [(0,106,2),(2,3,1)],3,40,[.eb,aa 1 cI ([]:List Int),.int .i64 0],[(0,106)]⟩),
 (246,⟨.b0 [(0,106,2),(2,3,1)],3,40,[.eb,aa 1 cI ([]:List Int),.int .i64 0],[(0,106)]⟩),
 (247,⟨.aT,1,8,[.aM],[]⟩),
 (248,⟨.aT,1,8,[.aM],[]⟩),
 (249,⟨.aT,1,8,[.aM],[]⟩),
 (250,⟨.aT,1,8,[.aM],[]⟩),
 (251,⟨.b0 [(0,161,1)],1,8,[.aM],[]⟩),
 (252,⟨.b0 [(0,161,1)],1,8,[.aM],[]⟩),
 (253,⟨.aT,1,8,[.aM],[]⟩),
 (254,⟨.b0 [(0,163,1)],1,8,[.aM],[]⟩),
 (255,⟨.b0 [(0,163,1)],1,8,[.aM],[]⟩),
 (256,⟨.aT,1,8,[.aM],[]⟩),
 (257,⟨.aT,1,8,[.aM],[]⟩),
 (258,⟨.b0 [(0,257,1)],1,8,[.aM],[]⟩),
 (259,⟨.b0 [(0,257,1)],1,8,[.aM],[]⟩),
 (260,⟨.aT,1,8,[.aM],[]⟩),
 (261,⟨.aT,1,8,[.aM],[]⟩),
 (262,⟨.aT,1,8,[.aM],[]⟩),
 (263,⟨.b0 [(0,262,1)],1,8,[.aM],[]⟩),
 (264,⟨.b0 [(0,262,1)],1,8,[.aM],[]⟩),
 (265,⟨.aT,1,8,[.aM],[]⟩),
 (266,⟨.aT,1,8,[.aM],[]⟩),
 (267,⟨.b0 [(0,167,1)],1,8,[.aM],[]⟩),
 (268,⟨.b0 [(0,167,1)],1,8,[.aM],[]⟩),
 (269,⟨.aT,1,8,[.aM],[]⟩),
 (270,⟨.b0 [(0,169,1)],1,8,[.aM],[]⟩),
 (271,⟨.b0 [(0,169,1)],1,8,[.aM],[]⟩),
 (272,⟨.aT,1,8,[.aM],[]⟩),
 (273,⟨.b0 [(0,173,1)],1,8,[.aM],[]⟩),
 (274,⟨.b0 [(0,173,1)],1,8,[.aM],[]⟩),
 (275,⟨.aT,1,8,[.aM],[]⟩),
 (276,⟨.b0 [(0,159,1)],1,8,[.aM],[]⟩),
 (277,⟨.b0 [(0,159,1)],1,8,[.aM],[]⟩),
 (278,⟨.aT,1,8,[.aM],[]⟩),
 (279,⟨.aT,1,8,[.aM],[]⟩),
 (280,⟨.aT,1,8,[.aM],[]⟩),
 (281,⟨.aT,1,8,[.aM],[]⟩),
 (282,⟨.aT,1,8,[.aM],[]⟩),
 (283,⟨.aT,1,8,[.aM],[]⟩),
 (285,⟨.aT,1,8,[.aM],[]⟩),
 (287,⟨.aT,1,8,[.aM],[]⟩),
 (289,⟨.aT,1,8,[.aM],[]⟩),
 (291,⟨.aT,1,8,[.aM],[]⟩),
 (292,⟨.bC 341,1,24,[aa 4 cW ([]:List Token)],[]⟩),
 (294,⟨.aT,1,8,[.aM],[]⟩),
 (295,⟨.aT,1,8,[.aM],[]⟩),
 (296,⟨.aT,1,8,[.aM],[]⟩),
 (297,⟨.aT,1,8,[.aM],[]⟩),
 (298,⟨.aT,1,8,[.aM],[]⟩),
 (299,⟨.aT,1,8,[.aM],[]⟩),
 (300,⟨.aT,1,8,[.aM],[]⟩),
 (301,⟨.bC 304,1,24,[aa 20 hK ([]:List ct)],[]⟩),
 (302,⟨.aT,1,8,[.aM],[]⟩),
 (303,⟨.b0 [(0,4,1),(1,200,13),(14,3,1),(15,198,4),(19,4,1)],20,272,[.bool false,.int .i64 0,.str ([]:ajK),.int .i64 0,.int .i64 0,.int .i64 0,.str ([]:ajK),aa 4 bW ([]:List Expr),.int .i64 0,.int .i64 0,.str ([]:ajK),aa 4 bW ([]:List Expr),aa 13 bR ([]:List Stmt),aa 13 bR ([]:List Stmt),.int .i64 0,.int .i64 0,.int .i64 0,.str ([]:ajK),aa 4 bW ([]:List Expr),.bool false],[]⟩),
 (304,⟨.b0 [(0,4,1),(1,200,13),(14,3,1),(15,198,4),(19,4,1)],20,272,[.bool false,.int .i64 0,.str ([]:ajK),.int .i64 0,.int .i64 0,.int .i64 0,.str ([]:ajK),aa 4 bW ([]:List Expr),.int .i64 0,.int .i64 0,.str ([]:ajK),aa 4 bW ([]:List Expr),aa 13 bR ([]:List Stmt),aa 13 bR ([]:List Stmt),.int .i64 0,.int .i64 0,.int .i64 0,.str ([]:ajK),aa 4 bW ([]:List Expr),.bool false],[]⟩),
 (305,⟨.aT,1,8,[.aM],[]⟩),
 (306,⟨.aT,1,8,[.aM],[]⟩),
 (307,⟨.aT,1,8,[.aM],[]⟩),
 (308,⟨.aT,1,8,[.aM],[]⟩),
 (309,⟨.aT,1,8,[.aM],[]⟩),
 (310,⟨.aT,1,8,[.aM],[]⟩),
 (311,⟨.aT,1,8,[.aM],[]⟩),
 (312,⟨.aT,1,8,[.aM],[]⟩),
 (313,⟨.aT,1,8,[.aM],[]⟩),
 (314,⟨.b0 [(0,3,1),(1,2,1)],2,16,[.int .i64 0,.int .i64 0],[]⟩),
 (315,⟨.b0 [(0,3,1),(1,2,1)],2,16,[.int .i64 0,.int .i64 0],[]⟩),
 (316,⟨.aT,1,8,[.aM],[]⟩),
 (317,⟨.aT,1,8,[.aM],[]⟩),
 (318,⟨.aT,1,8,[.aM],[]⟩),
 (319,⟨.aT,1,8,[.aM],[]⟩),
 (320,⟨.aT,1,8,[.aM],[]⟩),
 (321,⟨.aT,1,8,[.aM],[]⟩),
 (322,⟨.aT,1,8,[.aM],[]⟩),
 (323,⟨.aT,1,8,[.aM],[]⟩),
 (324,⟨.aT,1,8,[.aM],[]⟩),
 (325,⟨.aT,1,8,[.aM],[]⟩),
 (326,⟨.aT,1,8,[.aM],[]⟩),
 (327,⟨.ptr,1,8,[.eb],[]⟩),
 (328,⟨.b0 [(0,9,1),(1,3,1),(2,41,1)],3,32,[.str ([]:ajK),.int .i64 0,.int .i64 0],[]⟩),
 (329,⟨.b0 [(0,9,1),(1,3,1),(2,41,1)],3,32,[.str ([]:ajK),.int .i64 0,.int .i64 0],[]⟩),
 (330,⟨.aT,1,8,[.aM],[]⟩),
 (331,⟨.ptr,1,8,[.eb],[]⟩),
 (332,⟨.b0 [(0,9,1),(1,3,1),(2,41,1)],3,32,[.str ([]:ajK),.int .i64 0,.int .i64 0],[]⟩),
 (333,⟨.b0 [(0,9,1),(1,3,1),(2,41,1)],3,32,[.str ([]:ajK),.int .i64 0,.int .i64 0],[]⟩),
 (334,⟨.aT,1,8,[.aM],[]⟩),
 (336,⟨.aT,1,8,[.aM],[]⟩),
 (337,⟨.ptr,1,8,[.eb],[]⟩),
 (338,⟨.aT,1,8,[.aM],[]⟩),
 (339,⟨.aT,1,8,[.aM],[]⟩),
 (340,⟨.b0 [(0,3,1),(1,9,1),(2,2,1),(3,3,1)],4,40,[.int .i64 0,.str ([]:ajK),.int .i64 0,.int .i64 0],[]⟩),
 (341,⟨.b0 [(0,3,1),(1,9,1),(2,2,1),(3,3,1)],4,40,[.int .i64 0,.str ([]:ajK),.int .i64 0,.int .i64 0],[]⟩),
 (343,⟨.aT,1,8,[.aM],[]⟩),
 (344,⟨.aT,1,8,[.aM],[]⟩),
 (345,⟨.aT,1,8,[.aM],[]⟩),
 (347,⟨.aT,1,8,[.aM],[]⟩),
 (349,⟨.aT,1,8,[.aM],[]⟩),
 (350,⟨.aT,1,8,[.aM],[]⟩),
 (352,⟨.aT,1,8,[.aM],[]⟩),
 (353,⟨.aT,1,8,[.aM],[]⟩),
 (354,⟨.aT,1,8,[.aM],[]⟩),
 (355,⟨.aT,1,8,[.aM],[]⟩),
 (356,⟨.aT,1,8,[.aM],[]⟩),
 (357,⟨.aT,1,8,[.aM],[]⟩),
 (358,⟨.aT,1,8,[.aM],[]⟩),
 (359,⟨.aT,1,8,[.aM],[]⟩),
 (360,⟨.ptr,1,8,[.eb],[]⟩),
 (361,⟨.b0 [(0,3,1),(1,319,1),(2,320,1)],3,24,[.int .i64 0,.aM,.aM],[]⟩),
 (362,⟨.b0 [(0,3,1),(1,319,1),(2,320,1)],3,24,[.int .i64 0,.aM,.aM],[]⟩),
 (363,⟨.aT,1,8,[.aM],[]⟩),
 (364,⟨.b0 [(0,4,1),(1,4,1),(2,4,1),(3,4,1),(4,4,1),(5,4,1)],6,6,[.bool false,.bool false,.bool false,.bool false,.bool false,.bool false],[]⟩),
 (365,⟨.b0 [(0,4,1),(1,4,1),(2,4,1),(3,4,1),(4,4,1),(5,4,1)],6,6,[.bool false,.bool false,.bool false,.bool false,.bool false,.bool false],[]⟩),
 (367,⟨.aT,1,8,[.aM],[]⟩),
 (368,⟨.aT,1,8,[.aM],[]⟩),
 (369,⟨.aT,1,8,[.aM],[]⟩),
 (370,⟨.aT,1,8,[.aM],[]⟩),
 (371,⟨.aT,1,8,[.aM],[]⟩),
 (372,⟨.ptr,1,8,[.eb],[]⟩),
 (373,⟨.b0 [(0,9,1),(1,3,1),(2,41,1)],3,32,[.str ([]:ajK),.int .i64 0,.int .i64 0],[]⟩),
 (374,⟨.b0 [(0,9,1),(1,3,1),(2,41,1)],3,32,[.str ([]:ajK),.int .i64 0,.int .i64 0],[]⟩),
 (375,⟨.aT,1,8,[.aM],[]⟩),
 (376,⟨.aT,1,8,[.aM],[]⟩),
 (377,⟨.aT,1,8,[.aM],[]⟩),
 (378,⟨.b0 [(0,3,1),(1,41,1)],2,16,[.int .i64 0,.int .i64 0],[]⟩),
 (379,⟨.b0 [(0,3,1),(1,41,1)],2,16,[.int .i64 0,.int .i64 0],[]⟩),
 (381,⟨.b0 [(0,292,1),(1,3,1)],2,32,[aa 4 cW ([]:List Token),.int .i64 0],[]⟩),
 (382,⟨.b0 [(0,292,1),(1,3,1)],2,32,[aa 4 cW ([]:List Token),.int .i64 0],[]⟩),
 (383,⟨.aT,1,8,[.aM],[]⟩),
 (384,⟨.aT,1,8,[.aM],[]⟩),
 (385,⟨.aT,1,8,[.aM],[]⟩),
 (386,⟨.aT,1,8,[.aM],[]⟩),
 (387,⟨.aT,1,8,[.aM],[]⟩),
 (389,⟨.aT,1,8,[.aM],[]⟩),
 (390,⟨.aT,1,8,[.aM],[]⟩),
 (391,⟨.aT,1,8,[.aM],[]⟩),
 (393,⟨.aT,1,8,[.aM],[]⟩),
 (394,⟨.aT,1,8,[.aM],[]⟩),
 (395,⟨.aT,1,8,[.aM],[]⟩),
 (396,⟨.aT,1,8,[.aM],[]⟩),
 (397,⟨.aT,1,8,[.aM],[]⟩),
 (398,⟨.aT,1,8,[.aM],[]⟩),
 (399,⟨.aT,1,8,[.aM],[]⟩),
 (400,⟨.aT,1,8,[.aM],[]⟩),
 (401,⟨.aT,1,8,[.aM],[]⟩),
 (402,⟨.aT,1,8,[.aM],[]⟩),
 (404,⟨.aT,1,8,[.aM],[]⟩),
 (405,⟨.aT,1,8,[.aM],[]⟩),
 (407,⟨.aT,1,8,[.aM],[]⟩),
 (408,⟨.aT,1,8,[.aM],[]⟩),
 (409,⟨.aT,1,8,[.aM],[]⟩),
 (410,⟨.aT,1,8,[.aM],[]⟩),
 (411,⟨.aT,1,8,[.aM],[]⟩),
 (412,⟨.aT,1,8,[.aM],[]⟩),
 (413,⟨.aT,1,8,[.aM],[]⟩),
 (414,⟨.aT,1,8,[.aM],[]⟩),
 (415,⟨.aT,1,8,[.aM],[]⟩),
 (416,⟨.aT,1,8,[.aM],[]⟩),
 (418,⟨.aT,1,8,[.aM],[]⟩),
 (420,⟨.aT,1,8,[.aM],[]⟩),
 (421,⟨.aT,1,8,[.aM],[]⟩),
 (423,⟨.aT,1,8,[.aM],[]⟩),
 (425,⟨.aT,1,8,[.aM],[]⟩),
 (426,⟨.aT,1,8,[.aM],[]⟩),
 (428,⟨.int .u32,1,4,[.int .u32 0],[]⟩),
 (430,⟨.aT,1,8,[.aM],[]⟩),
 (431,⟨.aT,1,8,[.aM],[]⟩),
 (432,⟨.aT,1,8,[.aM],[]⟩),
 (433,⟨.int .i64,1,8,[.int .i64 0],[]⟩),
 (435,⟨.aT,1,8,[.aM],[]⟩),
 (436,⟨.ptr,1,8,[.eb],[]⟩),
 (437,⟨.aT,1,8,[.aM],[]⟩),
 (438,⟨.aT,1,8,[.aM],[]⟩),
 (441,⟨.aT,1,8,[.aM],[]⟩),
 (442,⟨.b0 [(0,9,1),(1,9,1),(2,108,1)],3,48,[.str ([]:ajK),.str ([]:ajK),.gN],[]⟩),
 (443,⟨.b0 [(0,9,1),(1,9,1),(2,108,1)],3,48,[.str ([]:ajK),.str ([]:ajK),.gN],[]⟩),
 (444,⟨.aT,1,8,[.aM],[]⟩),
 (445,⟨.ptr,1,8,[.eb],[]⟩),
 (446,⟨.b0 [(0,9,1)],1,16,[.str ([]:ajK)],[]⟩),
 (447,⟨.b0 [(0,9,1)],1,16,[.str ([]:ajK)],[]⟩),
 (448,⟨.b0 [(0,17,1),(1,17,1),(2,17,1),(3,9,1)],4,40,[.eb,.eb,.eb,.str ([]:ajK)],[]⟩),
 (449,⟨.b0 [(0,17,1),(1,17,1),(2,17,1),(3,9,1)],4,40,[.eb,.eb,.eb,.str ([]:ajK)],[]⟩),
 (453,⟨.int .u8,1,1,[.int .u8 0],[]⟩),
 (454,⟨.int .u8,1,1,[.int .u8 0],[]⟩),
 (455,⟨.aT,1,8,[.aM],[]⟩),
 (456,⟨.int .i32,1,4,[.int .i32 0],[]⟩),
 (457,⟨.int .i32,1,4,[.int .i32 0],[]⟩),
 (458,⟨.b0 [(0,12,1),(1,12,1),(2,428,1),(3,453,1),(4,5,1),(5,5,1),(6,454,1),(7,455,1),(8,157,1),(9,456,1),(10,457,1)],11,48,[.int .u64 0,.int .u64 0,.int .u32 0,.int .u8 0,.int .u8 0,.int .u8 0,.int .u8 0,.aM,.eb,.int .i32 0,.int .i32 0],[]⟩),
 (459,⟨.b0 [(0,12,1),(1,12,1),(2,428,1),(3,453,1),(4,5,1),(5,5,1),(6,454,1),(7,455,1),(8,157,1),(9,456,1),(10,457,1)],11,48,[.int .u64 0,.int .u64 0,.int .u32 0,.int .u8 0,.int .u8 0,.int .u8 0,.int .u8 0,.aM,.eb,.int .i32 0,.int .i32 0],[]⟩)]
def gB:eF Tryz.prog tt=true:=by kernel_rfl
def vk:Tryz.prog.follows .mixedOrders=true:=by kernel_rfl
end Go.Ab.Y
namespace Go.Ab.Y.T
open Go Go.Ab Go.Proofs
structure aJ(f:FuncId)(args:List D)(dX:List (Nat×TypeId))(H:List (List aS)){ρ:Type}(F:Option ρ)(out:ρ→Out)(cw:ρ→List (List aS)):Prop where
 of:∀{r:ρ},F=some r→fS Tryz.prog f args dX H (out r) (cw r)
def oB(E:Nat)(rs:List ResultVar){ρ:Type}(out:ρ→Out)(cw:ρ→List (List aS))(r:ρ):ck→aF→Prop:=ot tt E rs λo H'=>o=out r∧H'=cw r
def f6(s st:aF):Option aF:=(p8 (s.env.map (·.1)) (s.H.map (·.1)) s.aU st.env st.H st.aU).map (fit s)
noncomputable abbrev gR(N:Nat)(ops:Array Oper)(rs:List eR)(st:aF):=qY (gd Tryz.prog) tt N ops.toList rs st
noncomputable abbrev yX(N:Nat)(ops:Array Oper)(rs:List (Nat×List eR))(st:aF):=yG (gd Tryz.prog) tt N ops.toList (spread ops.toList.length 0 rs) st
noncomputable abbrev Nj(N:Nat)(ops:Array Oper)(fC:Nat)(rs:List (Nat×List eR))(st:aF):=u_ (gd Tryz.prog) tt N ops.toList fC (st.aU+ops.toList.length) (spread ops.toList.length 0 rs) st
abbrev ad(x:Int):aS:=⟨.v (.int .i64 x),none⟩
abbrev dm(x:Bool):aS:=⟨.v (.bool x),none⟩
abbrev aV(x:ajK):aS:=⟨.v (.str x),none⟩
abbrev av{α:Type}[Inhabited α](k:Nat)(e:α→V)(l:List α):aS:=⟨.v (aa k e l),none⟩
abbrev aX(r o:Nat):aS:=⟨.ptr r o,none⟩
abbrev e8(x:V):aS:=⟨.v x,none⟩
abbrev bd(x:Int):D:=.v (.int .i64 x)
abbrev b2(x:Bool):D:=.v (.bool x)
abbrev cl(x:ajK):D:=.v (.str x)
abbrev cR{α:Type}[Inhabited α](k:Nat)(e:α→V)(l:List α):D:=.v (aa k e l)
abbrev aK(d:D):Out:=.ret d none
def aas(n:Nat):gb (n:Int) n=true:=Lj ⟨Int.natCast_nonneg n,Int.le_refl _⟩
abbrev aq:=all_nil
def Z{p:Prop}{l:List Prop}(h:p)(ah:i_ l):i_ (p::l):=⟨h,ah⟩
section
variable {N E:Nat} {st:aF} {Q:ck→aF→Prop} {next:aF→Prop} {x y:Code} {id i j:Nat} {ops:Array Oper}
def sP{x:V}(h:Q (.be x) st):ck.then next Q (.be x) st:=h
def bJ(h:Q .normal st):ck.inBlock i Q (.exit i) st:=ck.Y5 h
def sQ(h:Q (.exit j) st)(dQ:Nat.beq j i=false:=by kernel_rfl):ck.inBlock i Q (.exit j) st:=ck.Y6 dQ h
def aat{x:V}(h:Q (.be x) st):ck.inBlock i Q (.be x) st:=h
def am(h:a' Tryz.prog N E x (ck.then (a' Tryz.prog N E y Q) Q) st):a' Tryz.prog N E (.seq x y) Q st:=a'.seq h
def al(h:Q .normal st):a' Tryz.prog N E .skip Q st:=a'.skip h
def Nk{r:Nat}(h:Q .ret (vf r st)):DJ r Q .ret st:=h
def Nl(r:Nat)(h:a' Tryz.prog N E x (DJ r Q) st):a' Tryz.prog N E x Q st:=a'.lY r h
def q4(me:List Nat)(h:a' Tryz.prog N E x Q {env:=forget me st.env,H:=st.H,aU:=st.aU}):a' Tryz.prog N E x Q st:=a'.forget me h
def aau{l:Nat}(h:Q .normal st):a' Tryz.prog N E (.label l) Q st:=a'.label h
def bK(h:Q (.exit i) st):a' Tryz.prog N E (.exit i) Q st:=a'.exit h
def yY(h:Q .ret st):a' Tryz.prog N E .ret Q st:=a'.ret h
def aav(h:a' Tryz.prog N E x Q st):a' Tryz.prog N E (.scope x) Q st:=a'.scope h
def aE(h:a' Tryz.prog N E x (ck.inBlock i Q) st):a' Tryz.prog N E (.block i x) Q st:=a'.block h
def ew(rs:List eR){cx:List Prop}(cv:i_ cx)(dR:Q .normal (ib (gR N ops rs st)))(ak:kf (gR N ops rs st)=some cx:=by kernel_rfl):a' Tryz.prog N E (.region id ops false) Q st:=a'.rg gB rs ak cv dR
def br(dR:Q .normal (ib (gR N ops [] st)))(ak:kf (gR N ops [] st)=some []:=by kernel_rfl):a' Tryz.prog N E (.region id ops false) Q st:=ew [] aq dR ak
def G(dR:a' Tryz.prog N E y Q (ib (gR N ops [] st)))(ak:kf (gR N ops [] st)=some []:=by kernel_rfl):a' Tryz.prog N E (.seq (.region id ops false) y) Q st:=am (br (Q:=ck.then (a' Tryz.prog N E y Q) Q) dR ak)
def aH(rs:List eR){cx:List Prop}(cv:i_ cx)(dR:a' Tryz.prog N E y Q (ib (gR N ops rs st)))(ak:kf (gR N ops rs st)=some cx:=by kernel_rfl):a' Tryz.prog N E (.seq (.region id ops false) y) Q st:=am (ew (Q:=ck.then (a' Tryz.prog N E y Q) Q) rs cv dR ak)
section
variable {f:FuncId} {args:List D} {dX:List (Nat×TypeId)} {H cw:List (List aS)} {out:Out}
def jz(p:fS Tryz.prog f args dX H out cw)(dR:Q .normal (ib (gR N ops [a_ p []] st)))(ak:kf (gR N ops [a_ p []] st)=some [fS Tryz.prog f args dX H out cw]:=by kernel_rfl):a' Tryz.prog N E (.region id ops false) Q st:=ew [a_ p []] (Z p aq) dR ak
def iL(p:fS Tryz.prog f args dX H out cw)(dR:Q .normal (ib (gR N ops [bD p []] st)))(ak:kf (gR N ops [bD p []] st)=some [fS Tryz.prog f args dX H out cw]:=by kernel_rfl):a' Tryz.prog N E (.region id ops false) Q st:=ew [bD p []] (Z p aq) dR ak
def bA(p:fS Tryz.prog f args dX H out cw)(dR:a' Tryz.prog N E y Q (ib (gR N ops [a_ p []] st)))(ak:kf (gR N ops [a_ p []] st)=some [fS Tryz.prog f args dX H out cw]:=by kernel_rfl):a' Tryz.prog N E (.seq (.region id ops false) y) Q st:=aH [a_ p []] (Z p aq) dR ak
def df(p:fS Tryz.prog f args dX H out cw)(dR:a' Tryz.prog N E y Q (ib (gR N ops [bD p []] st)))(ak:kf (gR N ops [bD p []] st)=some [fS Tryz.prog f args dX H out cw]:=by kernel_rfl):a' Tryz.prog N E (.seq (.region id ops false) y) Q st:=aH [bD p []] (Z p aq) dR ak
end
def gS(rs:List (Nat×List eR)){cx:List Prop}(cv:i_ cx)(dR:Q .normal (ib (yX N ops rs st)))(ak:kf (yX N ops rs st)=some cx:=by kernel_rfl):a' Tryz.prog N E (.region id ops true) Q st:=a'.yI gB vk rs ak cv dR
def cm(rs:List (Nat×List eR)){cx:List Prop}(cv:i_ cx)(dR:a' Tryz.prog N E y Q (ib (yX N ops rs st)))(ak:kf (yX N ops rs st)=some cx:=by kernel_rfl):a' Tryz.prog N E (.seq (.region id ops true) y) Q st:=am (gS (Q:=ck.then (a' Tryz.prog N E y Q) Q) rs cv dR ak)
def dO(x:V)(rs:List eR){cx:List Prop}(cv:i_ cx)(dR:Q (.be x) (ib (gR N ops rs st)))(ak:Dn (gR N ops rs st)=some (x,cx):=by kernel_rfl):a' Tryz.prog N E (.region id ops false) Q st:=a'.Do gB rs ak cv dR
def oC(fC:Nat)(x:V)(rs:List (Nat×List eR)){cx:List Prop}(cv:i_ cx)(dR:∀n,Q (.be x) {env:=[],H:=DB (Nj N ops fC rs st),aU:=n})(ak:DA (Nj N ops fC rs st)=some (x,cx):=by kernel_rfl):a' Tryz.prog N E (.region id ops true) Q st:=a'.ZO gB vk fC rs ak cv dR
def C{α:Type}{b:Bool}{p q:Option α}{r:α}{c:Nat}(h:(bif b then p else q)=some r)(ce:p=some r→a' Tryz.prog N E x Q st)(bh:q=some r→a' Tryz.prog N E y Q st)(hc:(look st.env c).map (·.d)=some (.v (.bool b)):=by kernel_rfl):a' Tryz.prog N E (.cond (.tmp c) x y) Q st:=a'.Dr h hc ce bh
def Nn{c:Nat}(ce:a' Tryz.prog N E x Q st)(hc:(look st.env c).map (·.d)=some (.v (.bool true)):=by kernel_rfl):a' Tryz.prog N E (.cond (.tmp c) x y) Q st:=a'.Mu hc ce
def No{c:Nat}(bh:a' Tryz.prog N E y Q st)(hc:(look st.env c).map (·.d)=some (.v (.bool false)):=by kernel_rfl):a' Tryz.prog N E (.cond (.tmp c) x y) Q st:=a'.Ds hc bh
section
variable {ρ:Type} {a r:ρ} {out:ρ→Out} {cw:ρ→List (List aS)} {rs:List ResultVar}
def yD(h:some a=some r)(ah:leave tt E rs st=some (out a,cw a):=by kernel_rfl):oB E rs out cw r .ret st:=by
 obtain rfl:=Option.some.inj h;exact Y8 ah
def aaw(yZ:Nat)(h:some a=some r)(ah:oq tt E yZ rs st=some (out a,cw a):=by kernel_rfl):oB E rs out cw r .ret st:=by
 obtain rfl:=Option.some.inj h;exact Y9 ah
def bq{Q:ck→aF→Prop}(h:some a=some r)(aR:oB E rs out cw r .ret st=Q .ret st:=by rfl)(ah:leave tt E rs st=some (out a,cw a):=by kernel_rfl):a' Tryz.prog N E .ret Q st:=yY (aR ▸ yD h ah)
def aax(yZ:Nat){Q:ck→aF→Prop}(h:some a=some r)(aR:oB E rs out cw r .ret st=Q .ret st:=by rfl)(ah:oq tt E yZ rs st=some (out a,cw a):=by kernel_rfl):a' Tryz.prog N E .ret Q st:=yY (aR ▸ aaw yZ h ah)
def bf{Q:ck→aF→Prop}{id:Nat}{ops:Array Oper}(h:some a=some r)(aR:oB E rs out cw r .ret (ib (gR N ops [] st))=Q .ret (ib (gR N ops [] st)):=by rfl)(ah:leave tt E rs (ib (gR N ops [] st))=some (out a,cw a):=by kernel_rfl)(ak:kf (gR N ops [] st)=some []:=by kernel_rfl):a' Tryz.prog N E (.seq (.region id ops false) .ret) Q st:=G (bq h aR ah) ak
def aC{Q:ck→aF→Prop}{id:Nat}{ops:Array Oper}{b:Bool}{q:Option ρ}{c:Nat}{y:Code}(h:(bif b then some a else q)=some r)(bh:q=some r→a' Tryz.prog N E y Q st)(aR:oB E rs out cw r .ret (ib (gR N ops [] st))=Q .ret (ib (gR N ops [] st)):=by rfl)(ah:leave tt E rs (ib (gR N ops [] st))=some (out a,cw a):=by kernel_rfl)(ak:kf (gR N ops [] st)=some []:=by kernel_rfl)(hc:(look st.env c).map (·.d)=some (.v (.bool b)):=by kernel_rfl):a' Tryz.prog N E (.cond (.tmp c) (.seq (.region id ops false) .ret) y) Q st:=C h (λh=>bf h aR ah ak) bh hc
def iM(h:some a=some r)(ah:leave tt E rs st=some (out a,cw a):=by kernel_rfl):oB E rs out cw r .normal st:=by
 obtain rfl:=Option.some.inj h;exact Db ah
def dv{x:V}(h:some a=some r)(ah:(yg E st.H).map lw=some (cw a):=by kernel_rfl)(hx:out a = .be x:=by kernel_rfl):oB E rs out cw r (.be x) st:=by
 obtain rfl:=Option.some.inj h;show ot tt E rs _ _ _
 rw [hx];exact Y' ah
end
def aL{f:FuncId}{fn:Func}{c:Code}{args:List D}{dX:List (Nat×TypeId)}{H:List (List aS)}{ρ:Type}{F:Option ρ}{out:ρ→Out}{cw:ρ→List (List aS)}(bh:Tryz.prog.funcs[f]? = some fn)(hb:fn.body=some c)
 (h : ∀ {r : ρ}, F = some r → a' Tryz.prog fn.ntmps H.length c (oB H.length fn.results.toList out cw r) { env := gp args dX, H := cQ 0 H, aU := H.length }) (h9 : decide (fn.name = "runtime.NumGoroutine") = false := by rfl) (ha : Nat.ble args.length fn.ntmps = true := by rfl) : aJ f args dX H F out cw :=
 ⟨λh0=>Y7 gB bh hb h9 ha (h h0)⟩
end
section
variable {α β dx ga:Type} {p:Prop}
def cP{q:Prop}(a:p)(k:p→q):q:=k a
def py{Np:Type}{X:Option Np}(c:α ⊕ β→Np){x:α ⊕ β}{f:α→Option dx}{g:β→Option dx}{r:dx}(q:X=some (c x))(h:ja.on x f g=some r)(c6:∀a,X=some (c (.inl a))→f a=some r→p)(ar:∀b,X=some (c (.inr b))→g b=some r→p):p:=
 match x,q,h with
 |.inl a,q,h=>c6 a q h
 |.inr b,q,h=>ar b q h
def gT{r:α}(h:none=some r):p:=by cases h
def aw{b:Bool}{x:Option α}{r:α}(h:au b x=some r)(k:b=true→x=some r→p):p:=k (ou h).1 (ou h).2
def aj{x:Option α}{f:α→Option β}{r:β}(h:Option.bind x f=some r)(k:∀a,x=some a→f a=some r→p):p:=let ⟨a,ab,ai⟩:=bind_some h;k a ab ai
def dG{x:Option (aO α β)}{f:α→β→Option dx}{g:V→β→Option dx}{r:dx}(h:Option.bind x (λz=>aO.on z f g)=some r)(c6:∀a b,x=some (.ret a b)→f a b=some r→p)(ar:∀y b,x=some (.be y b)→g y b=some r→p):p:=
 let ⟨z,ab,ai⟩:=bind_some h
 match z,ab,ai with
 |.ret a b,ab,ai=>c6 a b ab ai
 |.be y b,ab,ai=>ar y b ab ai
end
section
variable {ρ:Type} {r:ρ} {N E:Nat} {st:aF} {Q:ck→aF→Prop} {x y:Code}
def ch{cp:aF}{f:Option ρ}(h:f=some r)(ak:f6 (cp) st=some (cp):=by kernel_rfl):f6 (cp) st=some (cp)∧f=some r:=⟨ak,h⟩
def cr(cp:aF)(f:Option ρ)(ab:a' Tryz.prog N E x (ck.then (λbS=>f6 (cp) bS=some (cp)∧f=some r) Q) st)(ai:f=some r→a' Tryz.prog N E y Q (cp))(cB:Nat.ble E (cp).aU=true:=by intros;kernel_rfl):a' Tryz.prog N E (.seq x y) Q st:=
 a'.cut _ ab λbS ⟨ak,h⟩=>a'.nS _ _ _ _ ak (cB) (ai h)
end
section
variable {α:Type} {ρ:Type} {r:ρ} {N E:Nat} {st:aF} {Q:ck→aF→Prop} {x y:Code}
def aY{cp:α→aF}{f:α→Option ρ}{a0:_}(h:f a0=some r)(ak:f6 (cp a0) st=some (cp a0):=by kernel_rfl):∃a0,f6 (cp a0) st=some (cp a0)∧f a0=some r:=⟨a0,ak,h⟩
def dg(cp:α→aF)(f:α→Option ρ)(ab:a' Tryz.prog N E x (ck.then (λbS=>∃a0,f6 (cp a0) bS=some (cp a0)∧f a0=some r) Q) st)(ai:∀a0,f a0=some r→a' Tryz.prog N E y Q (cp a0))(cB:∀a0,Nat.ble E (cp a0).aU=true:=by intros;kernel_rfl):a' Tryz.prog N E (.seq x y) Q st:=
 a'.cut _ ab λbS ⟨a0,ak,h⟩=>a'.nS _ _ _ _ ak (cB a0) (ai a0 h)
def dl(cp:α→aF)(F:Nat→α→Option ρ)(B:(α→Option ρ)→α→Option ρ){n:Nat}{a0:_}(h:F n a0=some r)(body:∀k a0,B k a0=some r→a' Tryz.prog N E x (ck.then (λbS=>∃a0,f6 (cp a0) bS=some (cp a0)∧k a0=some r) Q) (cp a0))(hi:f6 (cp a0) st=some (cp a0):=by kernel_rfl)(cB:∀a0,Nat.ble E (cp a0).aU=true:=by intros;kernel_rfl)(h0:∀a0,F 0 a0=none:=by intros;rfl)(hs:∀m a0,F (m+1) a0=B (F m) a0:=by intros;rfl):a' Tryz.prog N E (.loop x) Q st:=by
 refine a'.loop (σ:=α) (λm (s:α) st=>f6 (cp s) st=some (cp s)∧F m s=some r) ?_ (n:=n) (s:=a0) ⟨hi,h⟩
 rintro m a0 bS ⟨ak,h⟩
 cases m with
 |zero=>have ai:=(h0 a0).symm.trans h;cases ai
 |succ m=>
  refine⟨m,rfl,a'.nS _ _ _ _ ak (cB a0) ((body (F m) a0 ((hs m a0).symm.trans h)).mono ?_)⟩
  intro eN y0 aR;cases eN with
  |normal=>obtain⟨a0,g1,g2⟩:=aR;exact⟨a0,g1,g2⟩
  |exit i=>exact aR
  |ret=>exact aR
  |be x=>exact aR
end
section
variable {α β:Type} {ρ:Type} {r:ρ} {N E:Nat} {st:aF} {Q:ck→aF→Prop} {x y:Code}
def dH{cp:α→β→aF}{f:α→β→Option ρ}{a0 bb:_}(h:f a0 bb=some r)(ak:f6 (cp a0 bb) st=some (cp a0 bb):=by kernel_rfl):∃a0 bb,f6 (cp a0 bb) st=some (cp a0 bb)∧f a0 bb=some r:=⟨a0,bb,ak,h⟩
def kW(cp:α→β→aF)(f:α→β→Option ρ)(ab:a' Tryz.prog N E x (ck.then (λbS=>∃a0 bb,f6 (cp a0 bb) bS=some (cp a0 bb)∧f a0 bb=some r) Q) st)(ai:∀a0 bb,f a0 bb=some r→a' Tryz.prog N E y Q (cp a0 bb))(cB:∀a0 bb,Nat.ble E (cp a0 bb).aU=true:=by intros;kernel_rfl):a' Tryz.prog N E (.seq x y) Q st:=
 a'.cut _ ab λbS ⟨a0,bb,ak,h⟩=>a'.nS _ _ _ _ ak (cB a0 bb) (ai a0 bb h)
def fm(cp:α→β→aF)(F:Nat→α→β→Option ρ)(B:(α→β→Option ρ)→α→β→Option ρ){n:Nat}{a0 bb:_}(h:F n a0 bb=some r)(body:∀k a0 bb,B k a0 bb=some r→a' Tryz.prog N E x (ck.then (λbS=>∃a0 bb,f6 (cp a0 bb) bS=some (cp a0 bb)∧k a0 bb=some r) Q) (cp a0 bb))(hi:f6 (cp a0 bb) st=some (cp a0 bb):=by kernel_rfl)(cB:∀a0 bb,Nat.ble E (cp a0 bb).aU=true:=by intros;kernel_rfl)(h0:∀a0 bb,F 0 a0 bb=none:=by intros;rfl)(hs:∀m a0 bb,F (m+1) a0 bb=B (F m) a0 bb:=by intros;rfl):a' Tryz.prog N E (.loop x) Q st:=by
 refine a'.loop (σ:=α×β) (λm (s:α×β) st=>f6 (cp s.1 s.2) st=some (cp s.1 s.2)∧F m s.1 s.2=some r) ?_ (n:=n) (s:=(a0,bb)) ⟨hi,h⟩
 rintro m ⟨a0,bb⟩ bS ⟨ak,h⟩
 cases m with
 |zero=>have ai:=(h0 a0 bb).symm.trans h;cases ai
 |succ m=>
  refine⟨m,rfl,a'.nS _ _ _ _ ak (cB a0 bb) ((body (F m) a0 bb ((hs m a0 bb).symm.trans h)).mono ?_)⟩
  intro eN y0 aR;cases eN with
  |normal=>obtain⟨a0,bb,g1,g2⟩:=aR;exact⟨(a0,bb),g1,g2⟩
  |exit i=>exact aR
  |ret=>exact aR
  |be x=>exact aR
end
section
variable {α β dx:Type} {ρ:Type} {r:ρ} {N E:Nat} {st:aF} {Q:ck→aF→Prop} {x y:Code}
def gq{cp:α→β→dx→aF}{f:α→β→dx→Option ρ}{a0 bb a2:_}(h:f a0 bb a2=some r)(ak:f6 (cp a0 bb a2) st=some (cp a0 bb a2):=by kernel_rfl):∃a0 bb a2,f6 (cp a0 bb a2) st=some (cp a0 bb a2)∧f a0 bb a2=some r:=⟨a0,bb,a2,ak,h⟩
def mU(cp:α→β→dx→aF)(f:α→β→dx→Option ρ)(ab:a' Tryz.prog N E x (ck.then (λbS=>∃a0 bb a2,f6 (cp a0 bb a2) bS=some (cp a0 bb a2)∧f a0 bb a2=some r) Q) st)(ai:∀a0 bb a2,f a0 bb a2=some r→a' Tryz.prog N E y Q (cp a0 bb a2))(cB:∀a0 bb a2,Nat.ble E (cp a0 bb a2).aU=true:=by intros;kernel_rfl):a' Tryz.prog N E (.seq x y) Q st:=
 a'.cut _ ab λbS ⟨a0,bb,a2,ak,h⟩=>a'.nS _ _ _ _ ak (cB a0 bb a2) (ai a0 bb a2 h)
def sR(cp:α→β→dx→aF)(F:Nat→α→β→dx→Option ρ)(B:(α→β→dx→Option ρ)→α→β→dx→Option ρ){n:Nat}{a0 bb a2:_}(h:F n a0 bb a2=some r)(body:∀k a0 bb a2,B k a0 bb a2=some r→a' Tryz.prog N E x (ck.then (λbS=>∃a0 bb a2,f6 (cp a0 bb a2) bS=some (cp a0 bb a2)∧k a0 bb a2=some r) Q) (cp a0 bb a2))(hi:f6 (cp a0 bb a2) st=some (cp a0 bb a2):=by kernel_rfl)(cB:∀a0 bb a2,Nat.ble E (cp a0 bb a2).aU=true:=by intros;kernel_rfl)(h0:∀a0 bb a2,F 0 a0 bb a2=none:=by intros;rfl)(hs:∀m a0 bb a2,F (m+1) a0 bb a2=B (F m) a0 bb a2:=by intros;rfl):a' Tryz.prog N E (.loop x) Q st:=by
 refine a'.loop (σ:=α×β×dx) (λm (s:α×β×dx) st=>f6 (cp s.1 s.2.1 s.2.2) st=some (cp s.1 s.2.1 s.2.2)∧F m s.1 s.2.1 s.2.2=some r) ?_ (n:=n) (s:=(a0,bb,a2)) ⟨hi,h⟩
 rintro m ⟨a0,bb,a2⟩ bS ⟨ak,h⟩
 cases m with
 |zero=>have ai:=(h0 a0 bb a2).symm.trans h;cases ai
 |succ m=>
  refine⟨m,rfl,a'.nS _ _ _ _ ak (cB a0 bb a2) ((body (F m) a0 bb a2 ((hs m a0 bb a2).symm.trans h)).mono ?_)⟩
  intro eN y0 aR;cases eN with
  |normal=>obtain⟨a0,bb,a2,g1,g2⟩:=aR;exact⟨(a0,bb,a2),g1,g2⟩
  |exit i=>exact aR
  |ret=>exact aR
  |be x=>exact aR
end
section
variable {α β dx ga:Type} {ρ:Type} {r:ρ} {N E:Nat} {st:aF} {Q:ck→aF→Prop} {x y:Code}
def mV{cp:α→β→dx→ga→aF}{f:α→β→dx→ga→Option ρ}{a0 bb a2 a3:_}(h:f a0 bb a2 a3=some r)(ak:f6 (cp a0 bb a2 a3) st=some (cp a0 bb a2 a3):=by kernel_rfl):∃a0 bb a2 a3,f6 (cp a0 bb a2 a3) st=some (cp a0 bb a2 a3)∧f a0 bb a2 a3=some r:=⟨a0,bb,a2,a3,ak,h⟩
def aay(cp:α→β→dx→ga→aF)(f:α→β→dx→ga→Option ρ)(ab:a' Tryz.prog N E x (ck.then (λbS=>∃a0 bb a2 a3,f6 (cp a0 bb a2 a3) bS=some (cp a0 bb a2 a3)∧f a0 bb a2 a3=some r) Q) st)(ai:∀a0 bb a2 a3,f a0 bb a2 a3=some r→a' Tryz.prog N E y Q (cp a0 bb a2 a3))(cB:∀a0 bb a2 a3,Nat.ble E (cp a0 bb a2 a3).aU=true:=by intros;kernel_rfl):a' Tryz.prog N E (.seq x y) Q st:=
 a'.cut _ ab λbS ⟨a0,bb,a2,a3,ak,h⟩=>a'.nS _ _ _ _ ak (cB a0 bb a2 a3) (ai a0 bb a2 a3 h)
def oD(cp:α→β→dx→ga→aF)(F:Nat→α→β→dx→ga→Option ρ)(B:(α→β→dx→ga→Option ρ)→α→β→dx→ga→Option ρ){n:Nat}{a0 bb a2 a3:_}(h:F n a0 bb a2 a3=some r)(body:∀k a0 bb a2 a3,B k a0 bb a2 a3=some r→a' Tryz.prog N E x (ck.then (λbS=>∃a0 bb a2 a3,f6 (cp a0 bb a2 a3) bS=some (cp a0 bb a2 a3)∧k a0 bb a2 a3=some r) Q) (cp a0 bb a2 a3))(hi:f6 (cp a0 bb a2 a3) st=some (cp a0 bb a2 a3):=by kernel_rfl)(cB:∀a0 bb a2 a3,Nat.ble E (cp a0 bb a2 a3).aU=true:=by intros;kernel_rfl)(h0:∀a0 bb a2 a3,F 0 a0 bb a2 a3=none:=by intros;rfl)(hs:∀m a0 bb a2 a3,F (m+1) a0 bb a2 a3=B (F m) a0 bb a2 a3:=by intros;rfl):a' Tryz.prog N E (.loop x) Q st:=by
 refine a'.loop (σ:=α×β×dx×ga) (λm (s:α×β×dx×ga) st=>f6 (cp s.1 s.2.1 s.2.2.1 s.2.2.2) st=some (cp s.1 s.2.1 s.2.2.1 s.2.2.2)∧F m s.1 s.2.1 s.2.2.1 s.2.2.2=some r) ?_ (n:=n) (s:=(a0,bb,a2,a3)) ⟨hi,h⟩
 rintro m ⟨a0,bb,a2,a3⟩ bS ⟨ak,h⟩
 cases m with
 |zero=>have ai:=(h0 a0 bb a2 a3).symm.trans h;cases ai
 |succ m=>
  refine⟨m,rfl,a'.nS _ _ _ _ ak (cB a0 bb a2 a3) ((body (F m) a0 bb a2 a3 ((hs m a0 bb a2 a3).symm.trans h)).mono ?_)⟩
  intro eN y0 aR;cases eN with
  |normal=>obtain⟨a0,bb,a2,a3,g1,g2⟩:=aR;exact⟨(a0,bb,a2,a3),g1,g2⟩
  |exit i=>exact aR
  |ret=>exact aR
  |be x=>exact aR
end
section
variable {α β dx ga oE:Type} {ρ:Type} {r:ρ} {N E:Nat} {st:aF} {Q:ck→aF→Prop} {x y:Code}
def aaz{cp:α→β→dx→ga→oE→aF}{f:α→β→dx→ga→oE→Option ρ}{a0 bb a2 a3 a4:_}(h:f a0 bb a2 a3 a4=some r)(ak:f6 (cp a0 bb a2 a3 a4) st=some (cp a0 bb a2 a3 a4):=by kernel_rfl):∃a0 bb a2 a3 a4,f6 (cp a0 bb a2 a3 a4) st=some (cp a0 bb a2 a3 a4)∧f a0 bb a2 a3 a4=some r:=⟨a0,bb,a2,a3,a4,ak,h⟩
def aaA(cp:α→β→dx→ga→oE→aF)(F:Nat→α→β→dx→ga→oE→Option ρ)(B:(α→β→dx→ga→oE→Option ρ)→α→β→dx→ga→oE→Option ρ){n:Nat}{a0 bb a2 a3 a4:_}(h:F n a0 bb a2 a3 a4=some r)(body:∀k a0 bb a2 a3 a4,B k a0 bb a2 a3 a4=some r→a' Tryz.prog N E x (ck.then (λbS=>∃a0 bb a2 a3 a4,f6 (cp a0 bb a2 a3 a4) bS=some (cp a0 bb a2 a3 a4)∧k a0 bb a2 a3 a4=some r) Q) (cp a0 bb a2 a3 a4))(hi:f6 (cp a0 bb a2 a3 a4) st=some (cp a0 bb a2 a3 a4):=by kernel_rfl)(cB:∀a0 bb a2 a3 a4,Nat.ble E (cp a0 bb a2 a3 a4).aU=true:=by intros;kernel_rfl)(h0:∀a0 bb a2 a3 a4,F 0 a0 bb a2 a3 a4=none:=by intros;rfl)(hs:∀m a0 bb a2 a3 a4,F (m+1) a0 bb a2 a3 a4=B (F m) a0 bb a2 a3 a4:=by intros;rfl):a' Tryz.prog N E (.loop x) Q st:=by
 refine a'.loop (σ:=α×β×dx×ga×oE) (λm (s:α×β×dx×ga×oE) st=>f6 (cp s.1 s.2.1 s.2.2.1 s.2.2.2.1 s.2.2.2.2) st=some (cp s.1 s.2.1 s.2.2.1 s.2.2.2.1 s.2.2.2.2)∧F m s.1 s.2.1 s.2.2.1 s.2.2.2.1 s.2.2.2.2=some r) ?_ (n:=n) (s:=(a0,bb,a2,a3,a4)) ⟨hi,h⟩
 rintro m ⟨a0,bb,a2,a3,a4⟩ bS ⟨ak,h⟩
 cases m with
 |zero=>have ai:=(h0 a0 bb a2 a3 a4).symm.trans h;cases ai
 |succ m=>
  refine⟨m,rfl,a'.nS _ _ _ _ ak (cB a0 bb a2 a3 a4) ((body (F m) a0 bb a2 a3 a4 ((hs m a0 bb a2 a3 a4).symm.trans h)).mono ?_)⟩
  intro eN y0 aR;cases eN with
  |normal=>obtain⟨a0,bb,a2,a3,a4,g1,g2⟩:=aR;exact⟨(a0,bb,a2,a3,a4),g1,g2⟩
  |exit i=>exact aR
  |ret=>exact aR
  |be x=>exact aR
end
section
variable {α β dx ga oE aiL:Type} {ρ:Type} {r:ρ} {N E:Nat} {st:aF} {Q:ck→aF→Prop} {x y:Code}
end
section
variable {aaB aaC aaD aaE aaF aaG aaH aaI aaJ aaK aaL aaM aaN aaO aaP aaQ:Type} {ρ:Type} {r:ρ} {N E:Nat} {st:aF} {Q:ck→aF→Prop} {x y:Code}
end
section
variable {aaB aaC aaD aaE aaF aaG aaH aaI aaJ aaK aaL aaM aaN aaO aaP aaQ aiM:Type} {ρ:Type} {r:ρ} {N E:Nat} {st:aF} {Q:ck→aF→Prop} {x y:Code}
end
end Go.Ab.Y.T
namespace Go.Ab.Y
open Go Go.Ab Go.Proofs
def y1(n:Nat)(s:ajK):Option ajK:=au (decide (s.length≤281474976710656))<|some s
def DU(n:Nat)(s:ajK)(c:Int):Option Int:=some (Lib.indexByte s c.toNat.toUInt8)
def y2(n:Nat)(s:ajK):Option Int:=au (decide (s.length≤140737488351232))<|some (oA s)
def Nq(s:ajK):Int ⊕ Int:=
 match Lib.parseIntB 64 s with
 |.ok v=>.inl v
 |.range=>.inr (Lib.intSat 64 s)
 |_=>.inr 0
def DV(n:Nat)(s:ajK)(base:Int)(y3:Int):Option (Int ⊕ Int):=
 au (decide (base=10∧y3=64∧s.length≤281474976710656))<|some (Nq s)
def DW(n:Nat)(i:Int)(base:Int):Option ajK:=au (decide (base=10 ∧ -9223372036854775808≤i∧i≤9223372036854775807))<|some (Lib.itoa i)
def DX(n:Nat)(elems:List ajK)(sep:ajK):Option ajK:=au (decide (elems.length≤140737488355328∧(Lib.join elems sep).length≤140737488355328))<|some (Lib.join elems sep)
open Go Go.Ab Go.Proofs
def aaR{n:Nat}{s:ajK}{r:ajK}(h:y1 n s=some r):fS Tryz.prog 369 [.v (.str s)] [] [] (.ret (.v (.str r)) none) []:=by
 unfold y1 at h;obtain⟨g,h⟩:=ou h;obtain rfl:=Option.some.inj h;refine qX (fd:=Tryz.f369) Tryz.func369 rfl rfl (vsOf:=λvs=>vs=[.string ⟨⟨s⟩⟩]) (λM β vs ah ak=>?_) (λvs w aA hg=>?_)
 ·match vs,ah with
  |[v],_=>
   have:=kp (ak 0 v _ rfl rfl)
   rw [this]
 ·subst aA;refine(Tryz.stringslite_Clone ⟨⟨s⟩⟩ w (show s.length≤281474976710656 from of_decide_eq_true g)).mono ?_
  rintro e w' ⟨rfl,hb⟩
  refine⟨_,rfl,λM β=>.v _ _ (.str _),λb a6 h=>?_,by rw [hb.os,hb.output]⟩
  rw [hb.block b (Array.getElem?_eq_some_iff.1 h).1];exact h
def aaS{n:Nat}{s:ajK}{c:Int}{r:Int}(h:DU n s c=some r):fS Tryz.prog 395 [.v (.str s),.v (.int .u8 c)] [] [] (.ret (.v (.int .i64 r)) none) []:=by
 unfold DU at h;obtain rfl:=Option.some.inj h;refine qX (fd:=Tryz.f395) Tryz.func395 rfl rfl (vsOf:=λvs=>vs=[.string ⟨⟨s⟩⟩,.int .u8 c]) (λM β vs ah ak=>?_) (λvs w aA hg=>?_)
 ·match vs,ah with
  |[v,u],_=>
   have ab:=kp (ak 0 v _ rfl rfl);have ai:=jZ (ak 1 u _ rfl rfl);rw [ab,ai]
 ·subst aA;refine(Tryz.stringslite_IndexByte ⟨⟨s⟩⟩ c w).mono ?_
  rintro e w' ⟨rfl,rfl⟩
  exact⟨_,rfl,λM β=>.v _ _ (.int _ _),λb a6 h=>h,rfl⟩
def Nr{n:Nat}{s:ajK}{r:Int}(h:y2 n s=some r):fS Tryz.prog 244 [.v (.str s)] [] [] (.ret (.v (.int .i64 r)) none) []:=by
 unfold y2 at h;obtain⟨g,h⟩:=ou h;obtain rfl:=Option.some.inj h;refine qX (fd:=Tryz.f244) Tryz.func244 rfl rfl (vsOf:=λvs=>vs=[.string ⟨⟨s⟩⟩]) (λM β vs ah ak=>?_) (λvs w aA hg=>?_)
 ·match vs,ah with
  |[v],_=>
   have:=kp (ak 0 v _ rfl rfl)
   rw [this]
 ·subst aA;refine(aah ⟨⟨s⟩⟩ w (show s.length≤140737488351232 from of_decide_eq_true g)).mono ?_
  rintro e w' ⟨rfl,pos,rfl⟩
  refine⟨_,rfl,λM β=>.v _ _ (.int _ _),λb a6 h=>?_,rfl⟩
  rw [World.iter,Go.RowKit.Below.heap_alloc w _ b (Array.getElem?_eq_some_iff.1 h).1];exact h
def aaT(w:World)(e:TypeId)(t:ByteArray):((Lib.bytesWorld w e t).os,(Lib.bytesWorld w e t).output)=(w.os,w.output):=by
 rw [(Lib.bytesWorld_below w e t).os,(Lib.bytesWorld_below w e t).output]
def DY:BO Tryz.prog=[4,5]:=by kernel_rfl
def Ns{n:Nat}{s:ajK}{base:Int}{y3:Int}{r:(Int ⊕ Int)}(h:DV n s base y3=some r):fS Tryz.prog 394 [.v (.str s),.v (.int .i64 base),.v (.int .i64 y3)] [] [] (ja.on r (λNt=>.ret (.cf [.v (.int .i64 Nt),.v (.gN)]) none) (λNu=>.ret (.cf [.v (.int .i64 Nu),.v ((.iface 436 .any))]) none)) []:=by
 unfold DV at h;obtain⟨g,h⟩:=ou h;obtain rfl:=Option.some.inj h;obtain⟨rfl,rfl,ah⟩:=of_decide_eq_true g
 have fz:∀(M:Mem) (β:Nat→Option Nat) (vs:List Value),vs.length=3→(∀(i:Nat) v a,vs[i]? = some v→[D.v (.str s),.v (.int .i64 10),.v (.int .i64 64)][i]? = some a→co M β v a)→vs=[.string ⟨⟨s⟩⟩,.int .i64 10,.int .i64 64]:=by
  intro M β vs ah ak
  match vs,ah with
  |[v,u,t],_=>
   have ab:=kp (ak 0 v _ rfl rfl);have ai:=jZ (ak 1 u _ rfl rfl);have ay:=jZ (ak 2 t _ rfl rfl);rw [ab,ai,ay]
 unfold Nq;rcases hp:Lib.parseIntB 64 s with v|_|_
 ·
   refine qX (fd:=Tryz.f394) Tryz.func394 rfl rfl (vsOf:=λvs=>vs=[.string ⟨⟨s⟩⟩,.int .i64 10,.int .i64 64]) (λM β vs ah ak=>fz M β vs ah ak) (λvs w aA hg=>?_)
   subst aA;refine(Tryz.strconv_ParseInt_10_at64_ok ⟨⟨s⟩⟩ (show s.length≤9223372036854775806 by omega) v hp w).mono ?_
   rintro e w' ⟨rfl,hw⟩
   refine⟨_,rfl,λM β=>.cf [_,_] _ rfl λi v c hi hc=>?_,λb a6 h=>?_,by rcases hw with rfl|⟨t,rfl⟩;rfl;exact aaT _ _ _⟩
   ·match i with
    | 0=>cases hi;cases hc;exact .v _ _ (.int _ _)
    | 1=>cases hi;cases hc;exact .v _ _ .gN
    |i+2=>simp at hi
   ·rcases hw with rfl|⟨t,rfl⟩
    ·exact h
    ·rw [Lib.bytesWorld_at_old _ _ _ _ (Array.getElem?_eq_some_iff.1 h).1];exact h
 ·
   refine qX (fd:=Tryz.f394) Tryz.func394 rfl rfl (vsOf:=λvs=>vs=[.string ⟨⟨s⟩⟩,.int .i64 10,.int .i64 64]) (λM β vs ah ak=>fz M β vs ah ak) (λvs w aA hg=>?_)
   subst aA;obtain⟨fc,ab,ai⟩:=hg.1 4 (by rw [DY];simp)
   refine(Tryz.strconv_ParseInt_10_at64_syntax ⟨⟨s⟩⟩ ah (by constructor;intro v;rw [show Lib.parseIntB 64 (⟨⟨s⟩⟩:ByteArray).data.toList=_ from hp];intro e;cases e;rw [show Lib.parseIntB 64 (⟨⟨s⟩⟩:ByteArray).data.toList=_ from hp];intro e;cases e) fc w ab ai).mono ?_
   rintro e w' ⟨N,rfl,b5,gG,hb⟩
   refine⟨_,rfl,λM β=>.cf [_,_] _ rfl λi v c hi hc=>?_,λb a6 h=>?_,by rw [hb.os,hb.output]⟩
   ·match i with
    | 0=>cases hi;cases hc;exact .v _ _ (.int _ _)
    | 1=>cases hi;cases hc;exact .v _ _ (.iface _ _ _ (.any _ rfl))
    |i+2=>simp at hi
   ·rw [hb.block b (Array.getElem?_eq_some_iff.1 h).1];exact h
 ·
   refine qX (fd:=Tryz.f394) Tryz.func394 rfl rfl (vsOf:=λvs=>vs=[.string ⟨⟨s⟩⟩,.int .i64 10,.int .i64 64]) (λM β vs ah ak=>fz M β vs ah ak) (λvs w aA hg=>?_)
   subst aA;obtain⟨fc,ab,ai⟩:=hg.1 5 (by rw [DY];simp)
   refine(Tryz.strconv_ParseInt_10_at64_range ⟨⟨s⟩⟩ ah hp fc w ab ai).mono ?_
   rintro e w' ⟨N,rfl,b5,gG,hb⟩
   refine⟨_,rfl,λM β=>.cf [_,_] _ rfl λi v c hi hc=>?_,λb a6 h=>?_,by rw [hb.os,hb.output]⟩
   ·match i with
    | 0=>cases hi;cases hc;exact .v _ _ (.int _ _)
    | 1=>cases hi;cases hc;exact .v _ _ (.iface _ _ _ (.any _ rfl))
    |i+2=>simp at hi
   ·rw [hb.block b (Array.getElem?_eq_some_iff.1 h).1];exact h
def y4 : Tryz.prog.globalNamed "internal/strconv.uint64pow10" = some 1 := by kernel_rfl
def Nv:(Lib.pow10Tab.map λz=>Value.int .u64 z).toArray=BP:=by kernel_rfl
def aaU {w : World} (h : yE Tryz.prog w) : Lib.TabIs Tryz.prog w "internal/strconv.uint64pow10" .u64 Lib.pow10Tab := by
 obtain⟨t,iW,ab⟩:=h.2 1 y4;unfold Lib.TabIs World.var?;rw [y4,Option.bind_some,ab,Nv]
def aaV{n:Nat}{i:Int}{base:Int}{r:ajK}(h:DW n i base=some r):fS Tryz.prog 365 [.v (.int .i64 i),.v (.int .i64 base)] [] [] (.ret (.v (.str r)) none) []:=by
 unfold DW at h;obtain⟨g,h⟩:=ou h;obtain rfl:=Option.some.inj h;obtain⟨rfl,h0,ab⟩:=of_decide_eq_true g;refine qX (fd:=Tryz.f365) Tryz.func365 rfl rfl (vsOf:=λvs=>vs=[.int .i64 i,.int .i64 10]) (λM β vs ah ak=>?_) (λvs w aA hg=>?_)
 ·match vs,ah with
  |[v,u],_=>
   have g1:=jZ (ak 0 v _ rfl rfl);have g2:=jZ (ak 1 u _ rfl rfl);rw [g1,g2]
 ·subst aA;refine(Tryz.strconv_FormatInt_10 i h0 ab w (aaU hg)).mono ?_
  rintro e w' ⟨rfl,k,os,rfl⟩
  exact⟨_,rfl,λM β=>.v _ _ (.str _),λb a6 h=>(Lib.heap_grow_old w k os b (Array.getElem?_eq_some_iff.1 h).1).trans h,rfl⟩
def Nw{b:List Int}(g:(ow b&&decide (b.length≤9223372036854775807))=true):b.length=(jT b).length∧∀i,i<(jT b).length→(λi=>cI (b.getD i default)) i = .int .u8 (((jT b).getD i 0).toNat:Int):=by
 simp only [Bool.and_eq_true]at g;obtain⟨ab,ai⟩:=u6 g.1;exact⟨ab.symm,λi hi=>ai i (by omega)⟩
def Nx{b:List Int}(g:(ow b&&decide (b.length≤9223372036854775807))=true):(jT b).length≤9223372036854775807:=by
 simp only [Bool.and_eq_true,decide_eq_true_eq]at g;rw [(u6 g.1).1];exact g.2
def DZ:Go.Proofs.Builder.Extra Tryz.prog Tryz.M0 where
 sizeBuilder:=by kernel_rfl
 liesBuilder:=by kernel_rfl
 t5:=Tryz.underlying5
 a5:=Tryz.isAgg5
 z5:=Tryz.sizeOf5
 v5:=Tryz.zeroValue5
 infoByte:=by kernel_rfl
 cellsByte:=by kernel_rfl
 sizeByte:=by kernel_rfl
 neB5:=by decide
def Ny{n:Nat}{elems:List ajK}{sep:ajK}{r:ajK}(h:DX n elems sep=some r):fS Tryz.prog 196 [.v (aa 1 a8 elems),.v (.str sep)] [] [] (.ret (.v (.str r)) none) []:=by
 unfold DX at h;obtain⟨g,h⟩:=ou h;obtain rfl:=Option.some.inj h;obtain⟨b5,kT⟩:=of_decide_eq_true g
 have Nz:(elems.map λs=>(⟨⟨s⟩⟩:ByteArray)).map (·.data.toList)=elems:=by
  rw [List.map_map];conv=>rhs;rw [←List.map_id elems]
  rfl
 refine Mt (fd:=Tryz.f196) Tryz.func196 rfl rfl (vsOf:=λw vs=>(∃a,vs=[.slice a 0 0,.string ⟨⟨sep⟩⟩]∧elems=[])∨∃sS o c,vs=[.slice (some ⟨sS,o,none⟩) elems.length c,.string ⟨⟨sep⟩⟩]∧elems.length≤c∧∀(j:Nat) x,elems[j]? = some x→w.cell? ⟨sS,o+j,none⟩=some (.string ⟨⟨x⟩⟩)) (λw M β vs hm ah ak=>?_) (λvs w aA hg=>?_)
 ·match vs,ah with
  |[v,u],_=>
   have g2:=kp (ak 1 u _ rfl rfl);have g1:=ak 0 v _ rfl rfl;rw [g2];rcases o7 (k:=1) (n:=elems.length) (get:=λi=>a8 (elems.getD i default)) g1 with⟨ab,ai⟩|⟨b,off,cap,val,ab,hc,hk,cX,fP,fl⟩
   ·rcases ab with ab|⟨a,ab⟩
    ·exact .inl ⟨none,by rw [ab],List.eq_nil_of_length_eq_zero ai⟩
    ·exact .inl ⟨some a,by rw [ab],List.eq_nil_of_length_eq_zero ai⟩
   ·refine .inr ⟨b,off,cap,by rw [ab],hc,λj x hx=>?_⟩
    have hj:j<elems.length:=(List.getElem?_eq_some_iff.1 hx).1;have e1:=hm _ _ _ (cX j 0 hj (by omega))
    have e2:=fl j 0 (.str x) hj (by
     have:elems.getD j default=x:=by simp [List.getD,hx]
     rw [this];rfl)
    rw [show off+j*1+0=off+j by omega]at e1
    rw [e1];generalize val j 0=y at e2 ⊢
    cases e2;rfl
 ·rcases aA with⟨a,rfl,rfl⟩|⟨sS,o,c,rfl,hc,mE⟩
  ·refine(Any.strings_Join_none Tryz.DM DZ a 0 ⟨⟨sep⟩⟩ w).mono ?_
   rintro e w' ⟨rfl,rfl⟩
   exact⟨_,rfl,λM β=>.v _ _ (.str _),λb a6 h=>h,rfl⟩
  ·cases elems with
   |nil=>
    refine(Any.strings_Join_none Tryz.DM DZ (some ⟨sS,o,none⟩) c ⟨⟨sep⟩⟩ w).mono ?_
    rintro e w' ⟨rfl,rfl⟩
    exact⟨_,rfl,λM β=>.v _ _ (.str _),λb a6 h=>h,rfl⟩
   |cons ff aaW=>
    have aaX:sS<w.heap.size:=lt_of_cell (mE 0 ff rfl)
    have hj:=Any.strings_Join Tryz.DM DZ sS o c ((ff::aaW).map λs=>(⟨⟨s⟩⟩:ByteArray)) ⟨⟨sep⟩⟩ w (λj x hx=>by
     rw [List.getElem?_map,Option.map_eq_some_iff]at hx;obtain⟨y,b_,rfl⟩:=hx;exact mE j y b_) aaX (by simpa using b5) (by simpa using hc) (by rw [Nz];exact kT)
    rw [List.length_map]at hj;refine hj.mono ?_
    rintro e w' ⟨rfl,hb⟩
    refine⟨_,rfl,λM β=>?_,λb a6 h=>?_,by rw [hb.os,hb.output]⟩
    ·rw [Nz];exact .v _ _ (.str _)
    ·rw [hb.block b (Array.getElem?_eq_some_iff.1 h).1];exact h
end Go.Ab.Y
namespace Go.Ab.Y
open Go Go.Ab Go.Proofs T
abbrev ajR{ρ:Type}(i:FuncId)(a:List D)(F:Option ρ)(o:ρ→Out):Prop:=aJ i a [] [] F o λ_=>[]
abbrev ajS(i:FuncId)(a:List D)(F:Option Bool):Prop:=ajR i a F λr=>aK (b2 r)
abbrev ajT(i:FuncId)(a:List D)(F:Option Int):Prop:=ajR i a F λr=>aK (bd r)
end Go.Ab.Y

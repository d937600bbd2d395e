/- The types of this claim, and the contracts that were written by hand. -/
import Derived.Test.YtbncfepdlmnmiaaGreatDoorProg
import Derived.WalkKit
import Derived.Lib.Builder
import Derived.Lib.UnsafeStr
import Derived.Laws.Externs
import Derived.Shelf.RegionOpenPlain
import Derived.Lib.Join
import Derived.Lib.Bytealg
import Derived.Lib.ItoaNum
import Derived.Lib.ParseIntBCases
import Derived.Lib.AppendIntMem
import Derived.Lib.AtoiErrMem
import Derived.Test.YtbncfepdlmnmiaaGreatDoorShelf
set_option linter.all false
namespace Go.Ab
abbrev ahu(x:Int):Int:=IntKind.i64.wrap x
abbrev ahv{α:Type}[Inhabited α](l:List α)(i:Int):α:=l.getD i.toNat default
abbrev ahw:=Option Bool
abbrev ahx:=Option Int
abbrev V.ahy(x:Int):V:=.int .i64 x
end Go.Ab
namespace Go.Ab.Y
open Go Go.Proofs
def nc(c:UInt8):Bool:=decide ((97≤c.toNat∧c.toNat≤122)∨(48≤c.toNat∧c.toNat≤57)∨c.toNat=95)
def oN(s:ahs):Nat:=(s.takeWhile nc).length
def CM{s:ahs}{k:Nat}(hk:k≤s.length)(h:∀(j:Nat) c,j<k→s[j]? = some c→nc c=true)(he:∀c,s[k]? = some c→nc c=false):oN s=k:=by
 unfold oN;induction s generalizing k with
 |nil=>simp at hk ⊢;omega
 |cons c s bD=>
  cases k with
  |zero=>
   have:=he c rfl
   simp [List.takeWhile,this]
  |succ k=>
   have h0:=h 0 c (by omega) rfl
   simp only [List.takeWhile,h0,List.length_cons];rw [bD (by simpa using hk) (λj c hj hc=>h (j+1) c (by omega) (by simpa using hc)) (λc hc=>he c (by simpa using hc))]
def CN(s:ByteArray)(k:Nat)(h:k<s.size):s.data.toList[k]? = some (s[k]'h):=by
 have:k<s.data.toList.length:=by simpa using h
 rw [List.getElem?_eq_getElem this];rfl
def yn(s:ByteArray)(k:Nat):Prop:=∀(j:Nat) c,j<k→s.data.toList[j]? = some c→nc c=true
def yn.succ{s:ByteArray}{k:Nat}(h:yn s k)(hk:k<s.size)(hc:nc (s[k]'hk)=true):yn s (k+1):=by
 intro j c hj ip;by_cases e:j=k
 ·subst e;rw [CN s j hk]at ip;cases ip;exact hc
 ·exact h j c (by omega) ip
set_option maxRecDepth 100000 in
def YZ(s:ByteArray)(w:World)(hs:s.size≤140737488351232):
 Calls Tryz.prog 244 #[.string s] w λe w'=>e = .returned (.int .i64 (oN s.data.toList))∧∃pos,w'=w.iter s pos:=by
 go_enter Tryz.func244,Tryz.ntmps244
 go_wp2
 go_loopw [] (λw'=>∃k:Nat,w'=w.iter s k∧k≤s.size∧yn s k) (λw'=>s.size-w'.iterPos w.heap.size)
 case atStart=>exact⟨0,rfl,by omega,λj c hj=>by omega⟩
 case round=>
  obtain⟨k,rfl,hk,hin⟩:=hrel;by_cases hp:k<s.size
  ·by_cases ha:(s[k]'hp).toNat<128
   ·have hnx:∀ty,(Instr.next (.pointer (some ⟨w.heap.size,0,none⟩)) true ty).run Tryz.prog (w.iter s k)=_:=λty=>run_next_ascii w s k ty hp ha
    cases hw:nc (s[k]'hp)
    ·have hlen:=CM (s:=s.data.toList) (k:=k) (by simpa using hk) hin (λc hc=>by rw [CN s k hp]at hc;cases hc;exact hw)
     have hc:=of_decide_eq_false hw;clear hw
     go_wp2
     all_goals first
      |(exfalso;simp at *;omega)
      |(go_ret;exact⟨by first |rfl |(rw [hlen];rfl),_,rfl⟩)
    ·have hc:=of_decide_eq_true hw;have hin2:=hin.succ hp hw;clear hw hin
     go_wp2
     all_goals first
      |(exfalso;simp at *;omega)
      |(
       go_roundw
       case rel=>exact⟨k+1,rfl,hp,hin2⟩
       case measure=>simp;omega)
   ·have hnx:∀ty,(Instr.next (.pointer (some ⟨w.heap.size,0,none⟩)) true ty).run Tryz.prog (w.iter s k)=_:=λty=>run_next_any w s k ty hp
    have hd:=(decode_high s k hp (by omega)).1
    have hle:=decode_le s k
    have hlen:=CM (s:=s.data.toList) (k:=k) (by simpa using hk) hin (λc hc=>by
     rw [CN s k hp]at hc;cases hc;exact decide_eq_false (by omega))
    generalize Utf8.decode s k=d at hnx hd hle
    go_wp2
    all_goals first
     |(exfalso;simp at *;omega)
     |(go_ret;exact⟨by first |rfl |(rw [hlen];rfl),_,rfl⟩)
  ·have hnx:∀ty,(Instr.next (.pointer (some ⟨w.heap.size,0,none⟩)) true ty).run Tryz.prog (w.iter s k)=_:=λty=>run_next_end w s k ty hp
   have hlen:=CM (s:=s.data.toList) (k:=k) (by simpa using hk) hin (λc hc=>by
    have:=(List.getElem?_eq_some_iff.1 hc).1
    simp at this;omega)
   obtain rfl:k=s.size:=by omega
   go_wp2
   go_ret
   exact⟨by first|rfl|(rw [hlen];rfl),_,rfl⟩
open Go Go.Proofs Go.RowKit
def Lx:(Tryz.prog.info? 106).map (·.size)=some 2:=by kernel_rfl
set_option maxHeartbeats 1000000 in
set_option maxRecDepth 100000 in
def Ly(b:Nat)(w:World)(h0:w.cell? ⟨b,0,none⟩=some (.pointer (some ⟨b,0,none⟩))):
 Calls Tryz.prog 104 #[.pointer (some ⟨b,0,none⟩)] w λe w'=>e = .returned (.tuple #[])∧w'=w:=by
 obtain⟨j,hj,_⟩:=Option.map_eq_some_iff.1 Lx
 go_enter Tryz.func104,Tryz.ntmps104
 go_wp2
 rw [Lib.run_neq_ptr_same w _ Tryz.underlying103 hj]
 go_wp2
 go_end0
 exact⟨rfl,rfl⟩
set_option maxHeartbeats 1000000 in
set_option maxRecDepth 100000 in
def Lz(b:Nat)(w:World)(T:TypeId)(k:Nat)(h0:w.cell? ⟨b,0,none⟩=some (.pointer none))(hsh:w.shape? b=some (T,k))(hk:0<k)(hlies:liesAt Tryz.prog Tryz.prog.depth T (k / Tryz.prog.cellsOf T) 0 106 1=true)(hfz:w.frozen? ⟨b,0,none⟩=false):
 Calls Tryz.prog 104 #[.pointer (some ⟨b,0,none⟩)] w λe w'=>e = .returned (.tuple #[])∧w'=w.setCell ⟨b,0,none⟩ (.pointer (some ⟨b,0,none⟩)):=by
 obtain⟨j,hj,hjs⟩:=Option.map_eq_some_iff.1 Lx
 go_enter Tryz.func104,Tryz.ntmps104
 go_wp2
 rw [Lib.run_to_unsafe w ⟨b,0,none⟩ Tryz.underlying103 Tryz.underlying213 hj (by rw [hjs];decide) hsh hk]
 simp only [Result.andThen];rw [Oper.upon_value]
 go_wp2
 rw [run_callFunc_extern Tryz.func158 (by kernel_rfl) (by kernel_rfl) (by kernel_rfl) (e:=Extern.AbiNoEscape.same) (by kernel_rfl)]
 rw [Lib.run_noEscape];simp only [Result.andThen];rw [Oper.upon_value]
 go_wp2
 rw [Lib.run_from_unsafe w ⟨b,0,none⟩ Tryz.underlying213 Tryz.underlying103 hj hsh hlies];simp only [Result.andThen];rw [Oper.upon_value]
 go_wp2
 go_end0
 exact⟨rfl,rfl⟩
def cellsByte:Tryz.prog.cellsOf 5=1:=by kernel_rfl
set_option maxHeartbeats 2000000 in
set_option maxRecDepth 100000 in
def LA(b:Nat)(w:World)(h:w.cell? ⟨b,1,none⟩=some (.slice none 0 0)):
 Calls Tryz.prog 54 #[.pointer (some ⟨b,0,none⟩)] w λe w'=>e = .returned (.string ⟨#[]⟩)∧w'=w.drew:=by
 have hUS:(Builtin.unsafeString_ #[157,3] 9 #[.pointer none,.int .i64 0]).run Tryz.prog w.drew = .ok (.string .empty) w.drew:=Lib.run_unsafeString_none w.drew _ _ _ none;have c1:w.drew.cell? ⟨b,1,none⟩=some (.slice none 0 0):=h;have hSD:(Builtin.unsafeSliceData_ #[104] 157 #[.slice none 0 0]).run Tryz.prog w.drew = .ok (.pointer none) w.drew:=rfl;have mixed:Tryz.prog.follows .mixedOrders=true:=by kernel_rfl
 go_enter Tryz.func54,Tryz.ntmps54
 go_wp2
 go_region_o
 all_goals (go_wp2;go_ret;exact⟨rfl,rfl⟩)
set_option maxHeartbeats 2000000 in
set_option maxRecDepth 100000 in
def LB(b g cap:Nat)(w:World)(hc0:cap≠0)(h:w.cell? ⟨b,1,none⟩=some (.slice (some ⟨g,0,none⟩) 0 cap)):
 Calls Tryz.prog 54 #[.pointer (some ⟨b,0,none⟩)] w λe w'=>e = .returned (.string ⟨#[]⟩)∧w'=w.drew:=by
 have hUS:(Builtin.unsafeString_ #[157,3] 9 #[.pointer (some ⟨g,0,none⟩),.int .i64 0]).run Tryz.prog w.drew = .ok (.string .empty) w.drew:=Lib.run_unsafeString_none w.drew _ _ _ _;have c1:w.drew.cell? ⟨b,1,none⟩=some (.slice (some ⟨g,0,none⟩) 0 cap):=h;have hSD:(Builtin.unsafeSliceData_ #[104] 157 #[.slice (some ⟨g,0,none⟩) 0 cap]).run Tryz.prog w.drew = .ok (.pointer (some ⟨g,0,none⟩)) w.drew:=Lib.run_unsafeSliceData_row _ _ _ _ _ _ hc0;clear hc0;have mixed:Tryz.prog.follows .mixedOrders=true:=by kernel_rfl
 go_enter Tryz.func54,Tryz.ntmps54
 go_wp2
 go_region_o
 all_goals (go_wp2;go_ret;exact⟨rfl,rfl⟩)
set_option maxHeartbeats 2000000 in
set_option maxRecDepth 100000 in
def LC(b g:Nat)(w:World)(vs:List Value)(h:w.cell? ⟨b,1,none⟩=some (.slice (some ⟨g,0,none⟩) 0 0))(hb:b<w.heap.size)(hg:w.heap[g]? = some (.cells ⟨vs⟩ 5 (0,0))):
 Calls Tryz.prog 54 #[.pointer (some ⟨b,0,none⟩)] w λe w'=>e = .returned (.string ⟨#[]⟩)∧w'=(w.drew.alloc (.view ⟨g,0,none⟩ 5)):=by
 have hUS:∀(q:Option Addr) (W:World),(Builtin.unsafeString_ #[157,3] 9 #[.pointer q,.int .i64 0]).run Tryz.prog W = .ok (.string .empty) W:=λq W=>Lib.run_unsafeString_none W _ _ _ q
 have c1:w.drew.cell? ⟨b,1,none⟩=some (.slice (some ⟨g,0,none⟩) 0 0):=h
 have hSD:(Builtin.unsafeSliceData_ #[104] 157 #[.slice (some ⟨g,0,none⟩) 0 0]).run Tryz.prog w.drew = .ok (.pointer (some ⟨w.drew.heap.size,0,none⟩)) (w.drew.alloc (.view ⟨g,0,none⟩ 5)):=
  Lib.run_unsafeSliceData_zero w.drew _ _ 5 Tryz.underlying157 ⟨g,0,none⟩ 0 (5,vs.length) (by have hg':w.drew.heap[g]? = some (.cells ⟨vs⟩ 5 (0,0)):=hg;simp [World.shape?,hg'])
 have c2:(w.drew.alloc (.view ⟨g,0,none⟩ 5)).cell? ⟨b,1,none⟩=some (.slice (some ⟨g,0,none⟩) 0 0):=by
  unfold World.cell? at h ⊢;rw [show(w.drew.alloc (.view ⟨g,0,none⟩ 5)).heap[b]? = w.heap[b]? from Lib.alloc_old w.drew _ b hb];exact h
 have c3:(w.alloc (.view ⟨g,0,none⟩ 5)).drew.cell? ⟨b,1,none⟩=some (.slice (some ⟨g,0,none⟩) 0 0):=c2;have mixed:Tryz.prog.follows .mixedOrders=true:=by kernel_rfl
 go_enter Tryz.func54,Tryz.ntmps54
 go_wp2
 go_region_o
 all_goals (go_wp2;go_ret;exact⟨rfl,rfl⟩)
set_option maxHeartbeats 2000000 in
set_option maxRecDepth 100000 in
def LD(b g cap:Nat)(w:World)(vs:List Value)(l:ahs)(h0:l≠[])(h:w.cell? ⟨b,1,none⟩=some (.slice (some ⟨g,0,none⟩) l.length cap))(hg:w.heap[g]? = some (.cells ⟨vs⟩ 5 (0,0)))
 (hn:l.length≤cap) (hcap:cap≤vs.length) (h63:l.length≤9223372036854775807) (hc:∀(j:Nat) (x:UInt8),l[j]? = some x→vs[j]? = some (Value.int .u8 x.toNat)):
 Calls Tryz.prog 54 #[.pointer (some ⟨b,0,none⟩)] w λe w'=>e = .returned (.string ⟨l.toArray⟩)∧w'=w.drew.freeze ⟨g,0,none⟩ l.length:=by
 have hl0:l.length≠0:=by simpa using h0
 have c1:w.drew.cell? ⟨b,1,none⟩=some (.slice (some ⟨g,0,none⟩) l.length cap):=h;have hg':w.drew.heap[g]? = some (.cells ⟨vs⟩ 5 (0,0)):=hg;have hSD:(Builtin.unsafeSliceData_ #[104] 157 #[.slice (some ⟨g,0,none⟩) l.length cap]).run Tryz.prog w.drew = .ok (.pointer (some ⟨g,0,none⟩)) w.drew:=Lib.run_unsafeSliceData_row _ _ _ _ _ _ (by omega)
 have hUS:(Builtin.unsafeString_ #[157,3] 9 #[.pointer (some ⟨g,0,none⟩),.int .i64 l.length]).run Tryz.prog w.drew = .ok (.string ⟨l.toArray⟩) (w.drew.freeze ⟨g,0,none⟩ l.length):=
  Lib.run_unsafeString_row w.drew 157 3 9 5 Tryz.underlying157 cellsByte g vs.length (by simp [World.shape?,hg']) l h0 (by omega) h63 (λj x hx=>by
   have:=hc j x hx
   rw [show(⟨g,0,none⟩:Addr).add j=⟨g,j,none⟩by unfold Addr.add;split<;>simp_all,Go.Ab.cell_of_heap hg',this])
 have mixed:Tryz.prog.follows .mixedOrders=true:=by kernel_rfl
 go_enter Tryz.func54,Tryz.ntmps54
 go_wp2
 go_region_o
 all_goals (go_wp2;go_ret;exact⟨rfl,rfl⟩)
open Go Go.Ab Go.Proofs
abbrev af8(x:Int):V:=.int .i32 x
abbrev ra(x:Int):V:=.int .i64 x
abbrev af9(x:Int):V:=.int .u32 x
abbrev af'(x:Int):V:=.int .u64 x
abbrev cA(x:Int):V:=.int .u8 x
def af_{α β dj:Type}{a:α}{f:α→dj}{g:β→dj}{r:dj}(h:jb.on (.inl a) f g=r):f a=r:=h
def aga{α β dj:Type}{b:β}{f:α→dj}{g:β→dj}{r:dj}(h:jb.on (.inr b) f g=r):g b=r:=h
abbrev agb(x:Bool):V:=.bool x
abbrev ba(x:ahs):V:=.str x
structure bv where
 Kind:Int
 N:Int
 S:ahs
instance:Inhabited bv:=⟨⟨0,0,([]:ahs)⟩⟩
def dN(x:bv):V:=.agg [.int .i64 x.Kind,.int .i64 x.N,.str x.S]
structure Version where
 b4:Int
 bk:bv
instance:Inhabited Version:=⟨⟨0,(⟨0,0,([]:ahs)⟩:bv)⟩⟩
def fF(x:Version):V:=.agg [.int .i64 x.b4,.int .i64 x.bk.Kind,.int .i64 x.bk.N,.str x.bk.S]
structure Row where
 Key:ahs
 bd:List Version
instance:Inhabited Row:=⟨⟨([]:ahs),([]:List Version)⟩⟩
def bC(x:Row):V:=.agg [.str x.Key,ad 4 fF x.bd]
structure ar where
 bo:Int
 bm:Int
 Rows:List Row
instance:Inhabited ar:=⟨⟨0,0,([]:List Row)⟩⟩
def LE(x:ar):V:=.agg [.int .i64 x.bo,.int .i64 x.bm,ad 2 bC x.Rows]
structure Param where
 Name:ahs
 hU:Int
instance:Inhabited Param:=⟨⟨([]:ahs),0⟩⟩
def dT(x:Param):V:=.agg [.str x.Name,.int .i64 x.hU]
structure Expr where
 Op:Int
 N:Int
 S:ahs
 aA:List Expr
instance:Inhabited Expr:=⟨⟨0,0,([]:ahs),([]:List Expr)⟩⟩
mutual
def bX:Expr→V
 |⟨Op,N,S,aA⟩=>.agg [.int .i64 Op,.int .i64 N,.str S,.bz 4 aA.length λi=>(u4 aA).getD i .dV]
def u4:List Expr→List V
 |[]=>[]
 |x::l=>bX x::u4 l
end
def LF:∀l:List Expr,u4 l=l.map bX
 |[]=>rfl
 |x::l=>by rw [u4,LF l];rfl
def LG(l:List Expr)(i:Nat)(h:i<l.length):(u4 l).getD i .dV=bX (l.getD i default):=by
 rw [LF];simp [List.getD,List.getElem?_eq_getElem h]
def Y0(x:Expr):ja (bX x).cells [.int .i64 x.Op,.int .i64 x.N,.str x.S,ad 4 bX x.aA]:=by
 cases x;exact .cons (gB _) (.cons (gB _) (.cons (gB _) (.cons (m4 λi hi=>LG _ i hi) (ja.nil))))
def yo(x:Expr):ja [.int .i64 x.Op,.int .i64 x.N,.str x.S,ad 4 bX x.aA] (bX x).cells:=by
 cases x;exact .cons (gB _) (.cons (gB _) (.cons (gB _) (.cons (m4 λi hi=>(LG _ i hi).symm) (ja.nil))))
def fq(x:Expr):f6 (bX x) (.agg [.int .i64 x.Op,.int .i64 x.N,.str x.S,ad 4 bX x.aA]):=by
 have h:=Y0 x;cases x;exact KE h
structure Stmt where
 Op:Int
 Name:ahs
 Max:Int
 A:Expr
 B:Expr
 Body:List Stmt
 da:List Stmt
instance:Inhabited Stmt:=⟨⟨0,([]:ahs),0,(⟨0,0,([]:ahs),([]:List Expr)⟩:Expr),(⟨0,0,([]:ahs),([]:List Expr)⟩:Expr),([]:List Stmt),([]:List Stmt)⟩⟩
mutual
def bR:Stmt→V
 |⟨Op,Name,Max,A,B,Body,da⟩=>.agg [.int .i64 Op,.str Name,.int .i64 Max,.int .i64 A.Op,.int .i64 A.N,.str A.S,ad 4 bX A.aA,.int .i64 B.Op,.int .i64 B.N,.str B.S,ad 4 bX B.aA,.bz 13 Body.length λi=>(sP Body).getD i .dV,.bz 13 da.length λi=>(sP da).getD i .dV]
def sP:List Stmt→List V
 |[]=>[]
 |x::l=>bR x::sP l
end
def LH:∀l:List Stmt,sP l=l.map bR
 |[]=>rfl
 |x::l=>by rw [sP,LH l];rfl
def yp(l:List Stmt)(i:Nat)(h:i<l.length):(sP l).getD i .dV=bR (l.getD i default):=by
 rw [LH];simp [List.getD,List.getElem?_eq_getElem h]
def Y1(x:Stmt):ja (bR x).cells [.int .i64 x.Op,.str x.Name,.int .i64 x.Max,.int .i64 x.A.Op,.int .i64 x.A.N,.str x.A.S,ad 4 bX x.A.aA,.int .i64 x.B.Op,.int .i64 x.B.N,.str x.B.S,ad 4 bX x.B.aA,ad 13 bR x.Body,ad 13 bR x.da]:=by
 cases x;exact .cons (gB _) (.cons (gB _) (.cons (gB _) (.cons (gB _) (.cons (gB _) (.cons (gB _) (.cons (gB _) (.cons (gB _) (.cons (gB _) (.cons (gB _) (.cons (gB _) (.cons (m4 λi hi=>yp _ i hi) (.cons (m4 λi hi=>yp _ i hi) (ja.nil)))))))))))))
def Y2(x:Stmt):ja [.int .i64 x.Op,.str x.Name,.int .i64 x.Max,.int .i64 x.A.Op,.int .i64 x.A.N,.str x.A.S,ad 4 bX x.A.aA,.int .i64 x.B.Op,.int .i64 x.B.N,.str x.B.S,ad 4 bX x.B.aA,ad 13 bR x.Body,ad 13 bR x.da] (bR x).cells:=by
 cases x;exact .cons (gB _) (.cons (gB _) (.cons (gB _) (.cons (gB _) (.cons (gB _) (.cons (gB _) (.cons (gB _) (.cons (gB _) (.cons (gB _) (.cons (gB _) (.cons (gB _) (.cons (m4 λi hi=>(yp _ i hi).symm) (.cons (m4 λi hi=>(yp _ i hi).symm) (ja.nil)))))))))))))
def hK(x:Stmt):f6 (bR x) (.agg [.int .i64 x.Op,.str x.Name,.int .i64 x.Max,.int .i64 x.A.Op,.int .i64 x.A.N,.str x.A.S,ad 4 bX x.A.aA,.int .i64 x.B.Op,.int .i64 x.B.N,.str x.B.S,ad 4 bX x.B.aA,ad 13 bR x.Body,ad 13 bR x.da]):=by
 have h:=Y1 x;cases x;exact KE h
structure bh where
 Name:ahs
 Params:List Param
 Body:List Stmt
instance:Inhabited bh:=⟨⟨([]:ahs),([]:List Param),([]:List Stmt)⟩⟩
def cR(x:bh):V:=.agg [.str x.Name,ad 2 dT x.Params,ad 13 bR x.Body]
structure Outcome where
 Status:Int
 Code:Int
 Out:List bv
instance:Inhabited Outcome:=⟨⟨0,0,([]:List bv)⟩⟩
def agc(x:Outcome):V:=.agg [.int .i64 x.Status,.int .i64 x.Code,ad 3 dN x.Out]
structure eV where
 Client:Int
 Seq:Int
 Outcome:Outcome
instance:Inhabited eV:=⟨⟨0,0,(⟨0,0,([]:List bv)⟩:Outcome)⟩⟩
def ht(x:eV):V:=.agg [.int .i64 x.Client,.int .i64 x.Seq,.int .i64 x.Outcome.Status,.int .i64 x.Outcome.Code,ad 3 dN x.Outcome.Out]
structure bO where
 Client:Int
 Next:Int
 dl:List eV
instance:Inhabited bO:=⟨⟨0,0,([]:List eV)⟩⟩
def cL(x:bO):V:=.agg [.int .i64 x.Client,.int .i64 x.Next,ad 5 ht x.dl]
structure Part where
 Id:Int
 ez:ahs
 Node:Int
 gO:Int
 cY:ahs
instance:Inhabited Part:=⟨⟨0,([]:ahs),0,0,([]:ahs)⟩⟩
def ci(x:Part):V:=.agg [.int .i64 x.Id,.str x.ez,.int .i64 x.Node,.int .i64 x.gO,.str x.cY]
structure cd where
 Version:Int
 a':List Part
instance:Inhabited cd:=⟨⟨0,([]:List Part)⟩⟩
def agd(x:cd):V:=.agg [.int .i64 x.Version,ad 5 ci x.a']
structure bf where
 Key:ahs
 Count:Int
instance:Inhabited bf:=⟨⟨([]:ahs),0⟩⟩
def cV(x:bf):V:=.agg [.str x.Key,.int .i64 x.Count]
structure fV where
 eX:Bool
 Reads:List ahs
 dB:List ahs
instance:Inhabited fV:=⟨⟨false,([]:List ahs),([]:List ahs)⟩⟩
def age(x:fV):V:=.agg [.bool x.eX,ad 1 ba x.Reads,ad 1 ba x.dB]
structure Request where
 Client:Int
 Seq:Int
 bh:ahs
 aA:List bv
 fM:Bool
 b9:fV
instance:Inhabited Request:=⟨⟨0,0,([]:ahs),([]:List bv),false,(⟨false,([]:List ahs),([]:List ahs)⟩:fV)⟩⟩
def cZ(x:Request):V:=.agg [.int .i64 x.Client,.int .i64 x.Seq,.str x.bh,ad 3 dN x.aA,.bool x.fM,.bool x.b9.eX,ad 1 ba x.b9.Reads,ad 1 ba x.b9.dB]
structure bS where
 Pos:Int
 ar:ar
 cj:List bh
 cB:List bO
 Place:cd
 bf:List bf
 Queue:List Request
 cE:Int
instance:Inhabited bS:=⟨⟨0,(⟨0,0,([]:List Row)⟩:ar),([]:List bh),([]:List bO),(⟨0,([]:List Part)⟩:cd),([]:List bf),([]:List Request),0⟩⟩
def agf(x:bS):V:=.agg [.int .i64 x.Pos,.int .i64 x.ar.bo,.int .i64 x.ar.bm,ad 2 bC x.ar.Rows,ad 3 cR x.cj,ad 3 cL x.cB,.int .i64 x.Place.Version,ad 5 ci x.Place.a',ad 2 cV x.bf,ad 8 cZ x.Queue,.int .u64 x.cE]
structure aJ where
 Key:ahs
 bk:bv
instance:Inhabited aJ:=⟨⟨([]:ahs),(⟨0,0,([]:ahs)⟩:bv)⟩⟩
def bP(x:aJ):V:=.agg [.str x.Key,.int .i64 x.bk.Kind,.int .i64 x.bk.N,.str x.bk.S]
structure dA where
 b4:Int
 Rest:bS
 Next:ahs
 cY:Bool
 dO:List aJ
 eD:List ahs
instance:Inhabited dA:=⟨⟨0,(⟨0,(⟨0,0,([]:List Row)⟩:ar),([]:List bh),([]:List bO),(⟨0,([]:List Part)⟩:cd),([]:List bf),([]:List Request),0⟩:bS),([]:ahs),false,([]:List aJ),([]:List ahs)⟩⟩
def agh(x:dA):V:=.agg [.int .i64 x.b4,.int .i64 x.Rest.Pos,.int .i64 x.Rest.ar.bo,.int .i64 x.Rest.ar.bm,ad 2 bC x.Rest.ar.Rows,ad 3 cR x.Rest.cj,ad 3 cL x.Rest.cB,.int .i64 x.Rest.Place.Version,ad 5 ci x.Rest.Place.a',ad 2 cV x.Rest.bf,ad 8 cZ x.Rest.Queue,.int .u64 x.Rest.cE,.str x.Next,.bool x.cY,ad 4 bP x.dO,ad 1 ba x.eD]
structure CO where
 Y3:Bool
 dB:List aJ
 N:Int
instance:Inhabited CO:=⟨⟨false,([]:List aJ),0⟩⟩
def Y4(x:CO):V:=.agg [.bool x.Y3,ad 4 bP x.dB,.int .i64 x.N]
structure Range where
 ez:ahs
 mA:ahs
instance:Inhabited Range:=⟨⟨([]:ahs),([]:ahs)⟩⟩
def agi(x:Range):V:=.agg [.str x.ez,.str x.mA]
structure fG where
 s:ahs
 at_:Int
 e:Int
instance:Inhabited fG:=⟨⟨([]:ahs),0,0⟩⟩
def agj(x:fG):V:=.agg [.str x.s,.int .i64 x.at_,.int .i64 x.e]
structure mB where
 fy:bS
 CP:List aJ
 sources:List ahs
instance:Inhabited mB:=⟨⟨(⟨0,(⟨0,0,([]:List Row)⟩:ar),([]:List bh),([]:List bO),(⟨0,([]:List Part)⟩:cd),([]:List bf),([]:List Request),0⟩:bS),([]:List aJ),([]:List ahs)⟩⟩
def agk(x:mB):V:=.agg [.int .i64 x.fy.Pos,.int .i64 x.fy.ar.bo,.int .i64 x.fy.ar.bm,ad 2 bC x.fy.ar.Rows,ad 3 cR x.fy.cj,ad 3 cL x.fy.cB,.int .i64 x.fy.Place.Version,ad 5 ci x.fy.Place.a',ad 2 cV x.fy.bf,ad 8 cZ x.fy.Queue,.int .u64 x.fy.cE,ad 4 bP x.CP,ad 1 ba x.sources]
structure Token where
 Kind:Int
 Text:ahs
 N:Int
 ky:Int
instance:Inhabited Token:=⟨⟨0,([]:ahs),0,0⟩⟩
def cK(x:Token):V:=.agg [.int .i64 x.Kind,.str x.Text,.int .i64 x.N,.int .i64 x.ky]
structure ck where
 LI:Bool
 Stmt:Stmt
 LJ:Int
 Expr:Expr
 Y5:Bool
instance:Inhabited ck:=⟨⟨false,(⟨0,([]:ahs),0,(⟨0,0,([]:ahs),([]:List Expr)⟩:Expr),(⟨0,0,([]:ahs),([]:List Expr)⟩:Expr),([]:List Stmt),([]:List Stmt)⟩:Stmt),0,(⟨0,0,([]:ahs),([]:List Expr)⟩:Expr),false⟩⟩
def hL(x:ck):V:=.agg [.bool x.LI,.int .i64 x.Stmt.Op,.str x.Stmt.Name,.int .i64 x.Stmt.Max,.int .i64 x.Stmt.A.Op,.int .i64 x.Stmt.A.N,.str x.Stmt.A.S,ad 4 bX x.Stmt.A.aA,.int .i64 x.Stmt.B.Op,.int .i64 x.Stmt.B.N,.str x.Stmt.B.S,ad 4 bX x.Stmt.B.aA,ad 13 bR x.Stmt.Body,ad 13 bR x.Stmt.da,.int .i64 x.LJ,.int .i64 x.Expr.Op,.int .i64 x.Expr.N,.str x.Expr.S,ad 4 bX x.Expr.aA,.bool x.Y5]
structure LK where
 Y6:Int
 seq:Int
instance:Inhabited LK:=⟨⟨0,0⟩⟩
def agl(x:LK):V:=.agg [.int .i64 x.Y6,.int .i64 x.seq]
structure a1 where
 tokens:List Token
 at_:Int
instance:Inhabited a1:=⟨⟨([]:List Token),0⟩⟩
def agm(x:a1):V:=.agg [ad 4 cK x.tokens,.int .i64 x.at_]
structure LL where
 line:Int
 code:Int
instance:Inhabited LL:=⟨⟨0,0⟩⟩
def agn(x:LL):V:=.agg [.int .i64 x.line,.int .i64 x.code]
structure jw where
 name:Bool
 a:Bool
 b:Bool
 max:Bool
 body:Bool
 other:Bool
instance:Inhabited jw:=⟨⟨false,false,false,false,false,false⟩⟩
def ago(x:jw):V:=.agg [.bool x.name,.bool x.a,.bool x.b,.bool x.max,.bool x.body,.bool x.other]
structure jc where
 s:ahs
 at_:Int
 e:Int
instance:Inhabited jc:=⟨⟨([]:ahs),0,0⟩⟩
def agp(x:jc):V:=.agg [.str x.s,.int .i64 x.at_,.int .i64 x.e]
structure mC where
 s:ahs
 at_:Int
 e:Int
instance:Inhabited mC:=⟨⟨([]:ahs),0,0⟩⟩
def agq(x:mC):V:=.agg [.str x.s,.int .i64 x.at_,.int .i64 x.e]
structure gC where
 s:ahs
 at_:Int
 e:Int
instance:Inhabited gC:=⟨⟨([]:ahs),0,0⟩⟩
def agr(x:gC):V:=.agg [.str x.s,.int .i64 x.at_,.int .i64 x.e]
def tt:de:=[
 (1,⟨.aS,1,8,[.aI],[]⟩),
 (2,⟨.int .i64,1,8,[.int .i64 0],[]⟩),
 (3,⟨.int .i64,1,8,[.int .i64 0],[]⟩),
 (4,⟨.bool,1,1,[.bool false],[]⟩),
 (5,⟨.int .u8,1,1,[.int .u8 0],[]⟩),
 (6,⟨.int .u8,1,1,[.int .u8 0],[]⟩),
 (7,⟨.bV [(0,2,1),(1,3,1),(2,4,1),(3,6,1)],4,24,[.int .i64 0,.int .i64 0,.bool false,.int .u8 0],[]⟩),
 (8,⟨.bV [(0,2,1),(1,3,1),(2,4,1),(3,6,1)],4,24,[.int .i64 0,.int .i64 0,.bool false,.int .u8 0],[]⟩),
 (9,⟨.str,1,16,[.str ([]:ahs)],[]⟩),
 (10,⟨.str,1,16,[.str ([]:ahs)],[]⟩),
 (11,⟨.str,1,16,[.str ([]:ahs)],[]⟩),
 (12,⟨.int .u64,1,8,[.int .u64 0],[]⟩),
 (13,⟨.bV [(0,9,1),(1,12,1)],2,24,[.str ([]:ahs),.int .u64 0],[]⟩),
 (14,⟨.bV [(0,9,1),(1,12,1)],2,24,[.str ([]:ahs),.int .u64 0],[]⟩),
 (15,⟨.ptr,1,8,[.dV],[]⟩),
 (16,⟨.ptr,1,8,[.dV],[]⟩),
 (17,⟨.ptr,1,8,[.dV],[]⟩),
 (18,⟨.bV [(0,17,1)],1,8,[.dV],[]⟩),
 (19,⟨.bV [(0,17,1)],1,8,[.dV],[]⟩),
 (20,⟨.l9,1,16,[.gM],[]⟩),
 (21,⟨.int .i32,1,4,[.int .i32 0],[]⟩),
 (22,⟨.bz 92,1,24,[ad 2 bC ([]:List Row)],[]⟩),
 (23,⟨.bV [(0,2,1),(1,2,1),(2,22,1)],3,40,[.int .i64 0,.int .i64 0,ad 2 bC ([]:List Row)],[]⟩),
 (24,⟨.bV [(0,2,1),(1,2,1),(2,22,1)],3,40,[.int .i64 0,.int .i64 0,ad 2 bC ([]:List Row)],[]⟩),
 (25,⟨.bz 73,1,24,[ad 3 cR ([]:List bh)],[]⟩),
 (26,⟨.bz 76,1,24,[ad 3 cL ([]:List bO)],[]⟩),
 (27,⟨.bz 148,1,24,[ad 5 ci ([]:List Part)],[]⟩),
 (28,⟨.bV [(0,2,1),(1,27,1)],2,32,[.int .i64 0,ad 5 ci ([]:List Part)],[]⟩),
 (29,⟨.bV [(0,2,1),(1,27,1)],2,32,[.int .i64 0,ad 5 ci ([]:List Part)],[]⟩),
 (30,⟨.bz 179,1,24,[ad 2 cV ([]:List bf)],[]⟩),
 (31,⟨.bz 82,1,24,[ad 8 cZ ([]:List Request)],[]⟩),
 (32,⟨.int .u64,1,8,[.int .u64 0],[]⟩),
 (33,⟨.bV [(0,2,1),(1,24,3),(4,25,1),(5,26,1),(6,29,2),(8,30,1),(9,31,1),(10,32,1)],11,184,[.int .i64 0,.int .i64 0,.int .i64 0,ad 2 bC ([]:List Row),ad 3 cR ([]:List bh),ad 3 cL ([]:List bO),.int .i64 0,ad 5 ci ([]:List Part),ad 2 cV ([]:List bf),ad 8 cZ ([]:List Request),.int .u64 0],[]⟩),
 (34,⟨.bV [(0,2,1),(1,24,3),(4,25,1),(5,26,1),(6,29,2),(8,30,1),(9,31,1),(10,32,1)],11,184,[.int .i64 0,.int .i64 0,.int .i64 0,ad 2 bC ([]:List Row),ad 3 cR ([]:List bh),ad 3 cL ([]:List bO),.int .i64 0,ad 5 ci ([]:List Part),ad 2 cV ([]:List bf),ad 8 cZ ([]:List Request),.int .u64 0],[]⟩),
 (35,⟨.aS,1,8,[.aI],[]⟩),
 (36,⟨.aS,1,8,[.aI],[]⟩),
 (37,⟨.bz 87,1,24,[ad 4 bP ([]:List aJ)],[]⟩),
 (38,⟨.bz 9,1,24,[ad 1 ba ([]:List ahs)],[]⟩),
 (39,⟨.bV [(0,2,1),(1,34,11),(12,9,1),(13,4,1),(14,37,1),(15,38,1)],16,264,[.int .i64 0,.int .i64 0,.int .i64 0,.int .i64 0,ad 2 bC ([]:List Row),ad 3 cR ([]:List bh),ad 3 cL ([]:List bO),.int .i64 0,ad 5 ci ([]:List Part),ad 2 cV ([]:List bf),ad 8 cZ ([]:List Request),.int .u64 0,.str ([]:ahs),.bool false,ad 4 bP ([]:List aJ),ad 1 ba ([]:List ahs)],[]⟩),
 (40,⟨.bV [(0,2,1),(1,34,11),(12,9,1),(13,4,1),(14,37,1),(15,38,1)],16,264,[.int .i64 0,.int .i64 0,.int .i64 0,.int .i64 0,ad 2 bC ([]:List Row),ad 3 cR ([]:List bh),ad 3 cL ([]:List bO),.int .i64 0,ad 5 ci ([]:List Part),ad 2 cV ([]:List bf),ad 8 cZ ([]:List Request),.int .u64 0,.str ([]:ahs),.bool false,ad 4 bP ([]:List aJ),ad 1 ba ([]:List ahs)],[]⟩),
 (41,⟨.int .i64,1,8,[.int .i64 0],[]⟩),
 (43,⟨.aS,1,8,[.aI],[]⟩),
 (44,⟨.aS,1,8,[.aI],[]⟩),
 (45,⟨.aS,1,8,[.aI],[]⟩),
 (46,⟨.aS,1,8,[.aI],[]⟩),
 (47,⟨.aS,1,8,[.aI],[]⟩),
 (48,⟨.aS,1,8,[.aI],[]⟩),
 (49,⟨.aS,1,8,[.aI],[]⟩),
 (51,⟨.aS,1,8,[.aI],[]⟩),
 (53,⟨.aS,1,8,[.aI],[]⟩),
 (54,⟨.aS,1,8,[.aI],[]⟩),
 (55,⟨.aS,1,8,[.aI],[]⟩),
 (56,⟨.aS,1,8,[.aI],[]⟩),
 (57,⟨.bz 3,1,24,[ad 1 ra ([]:List Int)],[]⟩),
 (59,⟨.aS,1,8,[.aI],[]⟩),
 (60,⟨.aS,1,8,[.aI],[]⟩),
 (61,⟨.aS,1,8,[.aI],[]⟩),
 (62,⟨.bz 64,1,24,[ad 3 Y4 ([]:List CO)],[]⟩),
 (63,⟨.bV [(0,4,1),(1,37,1),(2,3,1)],3,40,[.bool false,ad 4 bP ([]:List aJ),.int .i64 0],[]⟩),
 (64,⟨.bV [(0,4,1),(1,37,1),(2,3,1)],3,40,[.bool false,ad 4 bP ([]:List aJ),.int .i64 0],[]⟩),
 (65,⟨.aS,1,8,[.aI],[]⟩),
 (67,⟨.aS,1,8,[.aI],[]⟩),
 (68,⟨.aS,1,8,[.aI],[]⟩),
 (69,⟨.aS,1,8,[.aI],[]⟩),
 (70,⟨.bz 143,1,24,[ad 2 dT ([]:List Param)],[]⟩),
 (71,⟨.bz 200,1,24,[ad 13 bR ([]:List Stmt)],[]⟩),
 (72,⟨.bV [(0,9,1),(1,70,1),(2,71,1)],3,64,[.str ([]:ahs),ad 2 dT ([]:List Param),ad 13 bR ([]:List Stmt)],[]⟩),
 (73,⟨.bV [(0,9,1),(1,70,1),(2,71,1)],3,64,[.str ([]:ahs),ad 2 dT ([]:List Param),ad 13 bR ([]:List Stmt)],[]⟩),
 (74,⟨.bz 232,1,24,[ad 5 ht ([]:List eV)],[]⟩),
 (75,⟨.bV [(0,3,1),(1,2,1),(2,74,1)],3,40,[.int .i64 0,.int .i64 0,ad 5 ht ([]:List eV)],[]⟩),
 (76,⟨.bV [(0,3,1),(1,2,1),(2,74,1)],3,40,[.int .i64 0,.int .i64 0,ad 5 ht ([]:List eV)],[]⟩),
 (77,⟨.aS,1,8,[.aI],[]⟩),
 (78,⟨.bz 85,1,24,[ad 3 dN ([]:List bv)],[]⟩),
 (79,⟨.bV [(0,4,1),(1,38,1),(2,38,1)],3,56,[.bool false,ad 1 ba ([]:List ahs),ad 1 ba ([]:List ahs)],[]⟩),
 (80,⟨.bV [(0,4,1),(1,38,1),(2,38,1)],3,56,[.bool false,ad 1 ba ([]:List ahs),ad 1 ba ([]:List ahs)],[]⟩),
 (81,⟨.bV [(0,3,1),(1,2,1),(2,9,1),(3,78,1),(4,4,1),(5,80,3)],8,120,[.int .i64 0,.int .i64 0,.str ([]:ahs),ad 3 dN ([]:List bv),.bool false,.bool false,ad 1 ba ([]:List ahs),ad 1 ba ([]:List ahs)],[]⟩),
 (82,⟨.bV [(0,3,1),(1,2,1),(2,9,1),(3,78,1),(4,4,1),(5,80,3)],8,120,[.int .i64 0,.int .i64 0,.str ([]:ahs),ad 3 dN ([]:List bv),.bool false,.bool false,ad 1 ba ([]:List ahs),ad 1 ba ([]:List ahs)],[]⟩),
 (83,⟨.aS,1,8,[.aI],[]⟩),
 (84,⟨.bV [(0,3,1),(1,2,1),(2,9,1)],3,32,[.int .i64 0,.int .i64 0,.str ([]:ahs)],[]⟩),
 (85,⟨.bV [(0,3,1),(1,2,1),(2,9,1)],3,32,[.int .i64 0,.int .i64 0,.str ([]:ahs)],[]⟩),
 (86,⟨.bV [(0,9,1),(1,85,3)],4,48,[.str ([]:ahs),.int .i64 0,.int .i64 0,.str ([]:ahs)],[]⟩),
 (87,⟨.bV [(0,9,1),(1,85,3)],4,48,[.str ([]:ahs),.int .i64 0,.int .i64 0,.str ([]:ahs)],[]⟩),
 (89,⟨.aS,1,8,[.aI],[]⟩),
 (90,⟨.bz 138,1,24,[ad 4 fF ([]:List Version)],[]⟩),
 (91,⟨.bV [(0,9,1),(1,90,1)],2,40,[.str ([]:ahs),ad 4 fF ([]:List Version)],[]⟩),
 (92,⟨.bV [(0,9,1),(1,90,1)],2,40,[.str ([]:ahs),ad 4 fF ([]:List Version)],[]⟩),
 (93,⟨.bV [(0,9,1),(1,9,1)],2,32,[.str ([]:ahs),.str ([]:ahs)],[]⟩),
 (94,⟨.bV [(0,9,1),(1,9,1)],2,32,[.str ([]:ahs),.str ([]:ahs)],[]⟩),
 (95,⟨.aS,1,8,[.aI],[]⟩),
 (96,⟨.aS,1,8,[.aI],[]⟩),
 (98,⟨.aS,1,8,[.aI],[]⟩),
 (99,⟨.aS,1,8,[.aI],[]⟩),
 (100,⟨.aS,1,8,[.aI],[]⟩),
 (102,⟨.aS,1,8,[.aI],[]⟩),
 (103,⟨.ptr,1,8,[.dV],[]⟩),
 (104,⟨.bz 5,1,24,[ad 1 cA ([]:List Int)],[]⟩),
 (105,⟨.bV [(0,103,1),(1,104,1)],2,32,[.dV,ad 1 cA ([]:List Int)],[]⟩),
 (106,⟨.bV [(0,103,1),(1,104,1)],2,32,[.dV,ad 1 cA ([]:List Int)],[(0,106)]⟩),
 (107,⟨.l9,1,16,[.gM],[]⟩),
 (108,⟨.l9,1,16,[.gM],[]⟩),
 (110,⟨.aS,1,8,[.aI],[]⟩),
 (111,⟨.aS,1,8,[.aI],[]⟩),
 (112,⟨.aS,1,8,[.aI],[]⟩),
 (113,⟨.aS,1,8,[.aI],[]⟩),
 (114,⟨.aS,1,8,[.aI],[]⟩),
 (116,⟨.aS,1,8,[.aI],[]⟩),
 (117,⟨.aS,1,8,[.aI],[]⟩),
 (118,⟨.aS,1,8,[.aI],[]⟩),
 (120,⟨.aS,1,8,[.aI],[]⟩),
 (121,⟨.aS,1,8,[.aI],[]⟩),
 (122,⟨.aS,1,8,[.aI],[]⟩),
 (123,⟨.aS,1,8,[.aI],[]⟩),
 (124,⟨.aS,1,8,[.aI],[]⟩),
 (125,⟨.aS,1,8,[.aI],[]⟩),
 (126,⟨.aS,1,8,[.aI],[]⟩),
 (127,⟨.aS,1,8,[.aI],[]⟩),
 (128,⟨.aS,1,8,[.aI],[]⟩),
 (129,⟨.aS,1,8,[.aI],[]⟩),
 (130,⟨.aS,1,8,[.aI],[]⟩),
 (131,⟨.aS,1,8,[.aI],[]⟩),
 (132,⟨.aS,1,8,[.aI],[]⟩),
 (133,⟨.aS,1,8,[.aI],[]⟩),
 (134,⟨.aS,1,8,[.aI],[]⟩),
 (136,⟨.aS,1,8,[.aI],[]⟩),
 (137,⟨.bV [(0,2,1),(1,85,3)],4,40,[.int .i64 0,.int .i64 0,.int .i64 0,.str ([]:ahs)],[]⟩),
 (138,⟨.bV [(0,2,1),(1,85,3)],4,40,[.int .i64 0,.int .i64 0,.int .i64 0,.str ([]:ahs)],[]⟩),
 (139,⟨.aS,1,8,[.aI],[]⟩),
 (140,⟨.aS,1,8,[.aI],[]⟩),
 (141,⟨.aS,1,8,[.aI],[]⟩),
 (142,⟨.bV [(0,9,1),(1,3,1)],2,24,[.str ([]:ahs),.int .i64 0],[]⟩),
 (143,⟨.bV [(0,9,1),(1,3,1)],2,24,[.str ([]:ahs),.int .i64 0],[]⟩),
 (144,⟨.aS,1,8,[.aI],[]⟩),
 (145,⟨.aS,1,8,[.aI],[]⟩),
 (146,⟨.aS,1,8,[.aI],[]⟩),
 (147,⟨.bV [(0,3,1),(1,9,1),(2,3,1),(3,3,1),(4,9,1)],5,56,[.int .i64 0,.str ([]:ahs),.int .i64 0,.int .i64 0,.str ([]:ahs)],[]⟩),
 (148,⟨.bV [(0,3,1),(1,9,1),(2,3,1),(3,3,1),(4,9,1)],5,56,[.int .i64 0,.str ([]:ahs),.int .i64 0,.int .i64 0,.str ([]:ahs)],[]⟩),
 (149,⟨.aS,1,8,[.aI],[]⟩),
 (150,⟨.aS,1,8,[.aI],[]⟩),
 (151,⟨.aS,1,8,[.aI],[]⟩),
 (152,⟨.aS,1,8,[.aI],[]⟩),
 (153,⟨.aS,1,8,[.aI],[]⟩),
 (154,⟨.aS,1,8,[.aI],[]⟩),
 (155,⟨.aS,1,8,[.aI],[]⟩),
 (156,⟨.int .u64,1,8,[.int .u64 0],[]⟩),
 (157,⟨.ptr,1,8,[.dV],[]⟩),
 (159,⟨.aS,1,8,[.aI],[]⟩),
 (161,⟨.aS,1,8,[.aI],[]⟩),
 (163,⟨.aS,1,8,[.aI],[]⟩),
 (165,⟨.aS,1,8,[.aI],[]⟩),
 (167,⟨.aS,1,8,[.aI],[]⟩),
 (169,⟨.aS,1,8,[.aI],[]⟩),
 (171,⟨.aS,1,8,[.aI],[]⟩),
 (173,⟨.aS,1,8,[.aI],[]⟩),
 (175,⟨.aS,1,8,[.aI],[]⟩),
 (176,⟨.aS,1,8,[.aI],[]⟩),
 (177,⟨.aS,1,8,[.aI],[]⟩),
 (178,⟨.bV [(0,9,1),(1,2,1)],2,24,[.str ([]:ahs),.int .i64 0],[]⟩),
 (179,⟨.bV [(0,9,1),(1,2,1)],2,24,[.str ([]:ahs),.int .i64 0],[]⟩),
 (180,⟨.aS,1,8,[.aI],[]⟩),
 (181,⟨.aS,1,8,[.aI],[]⟩),
 (182,⟨.aS,1,8,[.aI],[]⟩),
 (183,⟨.aS,1,8,[.aI],[]⟩),
 (184,⟨.aS,1,8,[.aI],[]⟩),
 (185,⟨.aS,1,8,[.aI],[]⟩),
 (186,⟨.aS,1,8,[.aI],[]⟩),
 (187,⟨.aS,1,8,[.aI],[]⟩),
 (188,⟨.aS,1,8,[.aI],[]⟩),
 (189,⟨.aS,1,8,[.aI],[]⟩),
 (190,⟨.aS,1,8,[.aI],[]⟩),
 (191,⟨.aS,1,8,[.aI],[]⟩),
 (192,⟨.aS,1,8,[.aI],[]⟩),
 (193,⟨.aS,1,8,[.aI],[]⟩),
 (194,⟨.aS,1,8,[.aI],[]⟩),
 (195,⟨.aS,1,8,[.aI],[]⟩),
 (196,⟨.bz 198,1,24,[ad 4 bX ([]:List Expr)],[]⟩),
 (197,⟨.bV [(0,3,1),(1,2,1),(2,9,1),(3,196,1)],4,56,[.int .i64 0,.int .i64 0,.str ([]:ahs),ad 4 bX ([]:List Expr)],[]⟩),
 (198,⟨.bV [(0,3,1),(1,2,1),(2,9,1),(3,196,1)],4,56,[.int .i64 0,.int .i64 0,.str ([]:ahs),ad 4 bX ([]:List Expr)],[]⟩),
 (199,⟨.bV [(0,3,1),(1,9,1),(2,3,1),(3,198,4),(7,198,4),(11,71,1),(12,71,1)],13,192,[.int .i64 0,.str ([]:ahs),.int .i64 0,.int .i64 0,.int .i64 0,.str ([]:ahs),ad 4 bX ([]:List Expr),.int .i64 0,.int .i64 0,.str ([]:ahs),ad 4 bX ([]:List Expr),ad 13 bR ([]:List Stmt),ad 13 bR ([]:List Stmt)],[]⟩),
 (200,⟨.bV [(0,3,1),(1,9,1),(2,3,1),(3,198,4),(7,198,4),(11,71,1),(12,71,1)],13,192,[.int .i64 0,.str ([]:ahs),.int .i64 0,.int .i64 0,.int .i64 0,.str ([]:ahs),ad 4 bX ([]:List Expr),.int .i64 0,.int .i64 0,.str ([]:ahs),ad 4 bX ([]:List Expr),ad 13 bR ([]:List Stmt),ad 13 bR ([]:List Stmt)],[]⟩),
 (201,⟨.aS,1,8,[.aI],[]⟩),
 (202,⟨.ptr,1,8,[.dV],[]⟩),
 (203,⟨.bV [(0,9,1),(1,3,1),(2,41,1)],3,32,[.str ([]:ahs),.int .i64 0,.int .i64 0],[]⟩),
 (204,⟨.bV [(0,9,1),(1,3,1),(2,41,1)],3,32,[.str ([]:ahs),.int .i64 0,.int .i64 0],[]⟩),
 (205,⟨.bV [(0,34,11),(11,37,1),(12,38,1)],13,232,[.int .i64 0,.int .i64 0,.int .i64 0,ad 2 bC ([]:List Row),ad 3 cR ([]:List bh),ad 3 cL ([]:List bO),.int .i64 0,ad 5 ci ([]:List Part),ad 2 cV ([]:List bf),ad 8 cZ ([]:List Request),.int .u64 0,ad 4 bP ([]:List aJ),ad 1 ba ([]:List ahs)],[]⟩),
 (206,⟨.bV [(0,34,11),(11,37,1),(12,38,1)],13,232,[.int .i64 0,.int .i64 0,.int .i64 0,ad 2 bC ([]:List Row),ad 3 cR ([]:List bh),ad 3 cL ([]:List bO),.int .i64 0,ad 5 ci ([]:List Part),ad 2 cV ([]:List bf),ad 8 cZ ([]:List Request),.int .u64 0,ad 4 bP ([]:List aJ),ad 1 ba ([]:List ahs)],[]⟩),
 (207,⟨.aS,1,8,[.aI],[]⟩),
 (208,⟨.aS,1,8,[.aI],[]⟩),
 (209,⟨.aS,1,8,[.aI],[]⟩),
 (210,⟨.aS,1,8,[.aI],[]⟩),
 (211,⟨.aS,1,8,[.aI],[]⟩),
 (212,⟨.aS,1,8,[.aI],[]⟩),
 (214,⟨.aS,1,8,[.aI],[]⟩),
 (215,⟨.aS,1,8,[.aI],[]⟩),
 (216,⟨.aS,1,8,[.aI],[]⟩),
 (218,⟨.aS,1,8,[.aI],[]⟩),
 (220,⟨.aS,1,8,[.aI],[]⟩),
 (222,⟨.aS,1,8,[.aI],[]⟩),
 (224,⟨.aS,1,8,[.aI],[]⟩),
 (226,⟨.aS,1,8,[.aI],[]⟩),
 (227,⟨.aS,1,8,[.aI],[]⟩),
 (228,⟨.aS,1,8,[.aI],[]⟩),
 (229,⟨.bV [(0,3,1),(1,3,1),(2,78,1)],3,40,[.int .i64 0,.int .i64 0,ad 3 dN ([]:List bv)],[]⟩),
 (230,⟨.bV [(0,3,1),(1,3,1),(2,78,1)],3,40,[.int .i64 0,.int .i64 0,ad 3 dN ([]:List bv)],[]⟩),
 (231,⟨.bV [(0,3,1),(1,2,1),(2,230,3)],5,56,[.int .i64 0,.int .i64 0,.int .i64 0,.int .i64 0,ad 3 dN ([]:List bv)],[]⟩),
 (232,⟨.bV [(0,3,1),(1,2,1),(2,230,3)],5,56,[.int .i64 0,.int .i64 0,.int .i64 0,.int .i64 0,ad 3 dN ([]:List bv)],[]⟩),
 (233,⟨.aS,1,8,[.aI],[]⟩),
 (234,⟨.aS,1,8,[.aI],[]⟩),
 (235,⟨.aS,1,8,[.aI],[]⟩),
 (236,⟨.aS,1,8,[.aI],[]⟩),
 (237,⟨.aS,1,8,[.aI],[]⟩),
 (238,⟨.aS,1,8,[.aI],[]⟩),
 (239,⟨.aS,1,8,[.aI],[]⟩),
 (240,⟨.aS,1,8,[.aI],[]⟩),
 (241,⟨.aS,1,8,[.aI],[]⟩),
 (242,⟨.aS,1,8,[.aI],[]⟩),
 (243,⟨.aS,1,8,[.aI],[]⟩),
 (244,⟨.ptr,1,8,[.dV],[]⟩),
 (245,⟨.bV [(0,106,2),(2,3,1)],3,40,[.dV,ad 1 cA ([]:List Int),.int .i64 0],[(0,106)]⟩),
 (246,⟨.bV [(0,106,2),(2,3,1)],3,40,[.dV,ad 1 cA ([]:List Int),.int .i64 0],[(0,106)]⟩),
 (247,⟨.aS,1,8,[.aI],[]⟩),
 (248,⟨.aS,1,8,[.aI],[]⟩),
 (249,⟨.aS,1,8,[.aI],[]⟩),
 (250,⟨.aS,1,8,[.aI],[]⟩),
 (251,⟨.bV [(0,161,1)],1,8,[.aI],[]⟩),
 (252,⟨.bV [(0,161,1)],1,8,[.aI],[]⟩),
 (253,⟨.aS,1,8,[.aI],[]⟩),
 (254,⟨.bV [(0,163,1)],1,8,[.aI],[]⟩),
 (255,⟨.bV [(0,163,1)],1,8,[.aI],[]⟩),
 (256,⟨.aS,1,8,[.aI],[]⟩),
 (257,⟨.aS,1,8,[.aI],[]⟩),
 (258,⟨.bV [(0,257,1)],1,8,[.aI],[]⟩),
 (259,⟨.bV [(0,257,1)],1,8,[.aI],[]⟩),
 (260,⟨.aS,1,8,[.aI],[]⟩),
 (261,⟨.aS,1,8,[.aI],[]⟩),
 (262,⟨.aS,1,8,[.aI],[]⟩),
 (263,⟨.bV [(0,262,1)],1,8,[.aI],[]⟩),
 (264,⟨.bV [(0,262,1)],1,8,[.aI],[]⟩),
 (265,⟨.aS,1,8,[.aI],[]⟩),
 (266,⟨.aS,1,8,[.aI],[]⟩),
 (267,⟨.bV [(0,167,1)],1,8,[.aI],[]⟩),
 (268,⟨.bV [(0,167,1)],1,8,[.aI],[]⟩),
 (269,⟨.aS,1,8,[.aI],[]⟩),
 (270,⟨.bV [(0,169,1)],1,8,[.aI],[]⟩),
 (271,⟨.bV [(0,169,1)],1,8,[.aI],[]⟩),
 (272,⟨.aS,1,8,[.aI],[]⟩),
 (273,⟨.bV [(0,173,1)],1,8,[.aI],[]⟩),
 (274,⟨.bV [(0,173,1)],1,8,[.aI],[]⟩),
 (275,⟨.aS,1,8,[.aI],[]⟩),
 (276,⟨.bV [(0,159,1)],1,8,[.aI],[]⟩),
 (277,⟨.bV [(0,159,1)],1,8,[.aI],[]⟩),
 (278,⟨.aS,1,8,[.aI],[]⟩),
 (279,⟨.aS,1,8,[.aI],[]⟩),
 (280,⟨.aS,1,8,[.aI],[]⟩),
 (281,⟨.aS,1,8,[.aI],[]⟩),
 (282,⟨.aS,1,8,[.aI],[]⟩),
 (283,⟨.aS,1,8,[.aI],[]⟩),
 (285,⟨.aS,1,8,[.aI],[]⟩),
 (287,⟨.aS,1,8,[.aI],[]⟩),
 (289,⟨.aS,1,8,[.aI],[]⟩),
 (291,⟨.aS,1,8,[.aI],[]⟩),
 (292,⟨.bz 341,1,24,[ad 4 cK ([]:List Token)],[]⟩),
 (294,⟨.aS,1,8,[.aI],[]⟩),
 (295,⟨.aS,1,8,[.aI],[]⟩),
 (296,⟨.aS,1,8,[.aI],[]⟩),
 (297,⟨.aS,1,8,[.aI],[]⟩),
 (298,⟨.aS,1,8,[.aI],[]⟩),
 (299,⟨.aS,1,8,[.aI],[]⟩),
 (300,⟨.aS,1,8,[.aI],[]⟩),
 (301,⟨.bz 304,1,24,[ad 20 hL ([]:List ck)],[]⟩),
 (302,⟨.aS,1,8,[.aI],[]⟩),
 (303,⟨.bV [(0,4,1),(1,200,13),(14,3,1),(15,198,4),(19,4,1)],20,272,[.bool false,.int .i64 0,.str ([]:ahs),.int .i64 0,.int .i64 0,.int .i64 0,.str ([]:ahs),ad 4 bX ([]:List Expr),.int .i64 0,.int .i64 0,.str ([]:ahs),ad 4 bX ([]:List Expr),ad 13 bR ([]:List Stmt),ad 13 bR ([]:List Stmt),.int .i64 0,.int .i64 0,.int .i64 0,.str ([]:ahs),ad 4 bX ([]:List Expr),.bool false],[]⟩),
 (304,⟨.bV [(0,4,1),(1,200,13),(14,3,1),(15,198,4),(19,4,1)],20,272,[.bool false,.int .i64 0,.str ([]:ahs),.int .i64 0,.int .i64 0,.int .i64 0,.str ([]:ahs),ad 4 bX ([]:List Expr),.int .i64 0,.int .i64 0,.str ([]:ahs),ad 4 bX ([]:List Expr),ad 13 bR ([]:List Stmt),ad 13 bR ([]:List Stmt),.int .i64 0,.int .i64 0,.int .i64 0,.str ([]:ahs),ad 4 bX ([]:List Expr),.bool false],[]⟩),
 (305,⟨.aS,1,8,[.aI],[]⟩),
 (306,⟨.aS,1,8,[.aI],[]⟩),
 (307,⟨.aS,1,8,[.aI],[]⟩),
 (308,⟨.aS,1,8,[.aI],[]⟩),
 (309,⟨.aS,1,8,[.aI],[]⟩),
 (310,⟨.aS,1,8,[.aI],[]⟩),
 (311,⟨.aS,1,8,[.aI],[]⟩),
 (312,⟨.aS,1,8,[.aI],[]⟩),
 (313,⟨.aS,1,8,[.aI],[]⟩),
 (314,⟨.bV [(0,3,1),(1,2,1)],2,16,[.int .i64 0,.int .i64 0],[]⟩),
 (315,⟨.bV [(0,3,1),(1,2,1)],2,16,[.int .i64 0,.int .i64 0],[]⟩),
 (316,⟨.aS,1,8,[.aI],[]⟩),
 (317,⟨.aS,1,8,[.aI],[]⟩),
 (318,⟨.aS,1,8,[.aI],[]⟩),
 (319,⟨.aS,1,8,[.aI],[]⟩),
 (320,⟨.aS,1,8,[.aI],[]⟩),
 (321,⟨.aS,1,8,[.aI],[]⟩),
 (322,⟨.aS,1,8,[.aI],[]⟩),
 (323,⟨.aS,1,8,[.aI],[]⟩),
 (324,⟨.aS,1,8,[.aI],[]⟩),
 (325,⟨.aS,1,8,[.aI],[]⟩),
 (326,⟨.aS,1,8,[.aI],[]⟩),
 (327,⟨.ptr,1,8,[.dV],[]⟩),
 (328,⟨.bV [(0,9,1),(1,3,1),(2,41,1)],3,32,[.str ([]:ahs),.int .i64 0,.int .i64 0],[]⟩),
 (329,⟨.bV [(0,9,1),(1,3,1),(2,41,1)],3,32,[.str ([]:ahs),.int .i64 0,.int .i64 0],[]⟩),
 (330,⟨.aS,1,8,[.aI],[]⟩),
 (331,⟨.ptr,1,8,[.dV],[]⟩),
 (332,⟨.bV [(0,9,1),(1,3,1),(2,41,1)],3,32,[.str ([]:ahs),.int .i64 0,.int .i64 0],[]⟩),
 (333,⟨.bV [(0,9,1),(1,3,1),(2,41,1)],3,32,[.str ([]:ahs),.int .i64 0,.int .i64 0],[]⟩),
 (334,⟨.aS,1,8,[.aI],[]⟩),
 (336,⟨.aS,1,8,[.aI],[]⟩),
 (337,⟨.ptr,1,8,[.dV],[]⟩),
 (338,⟨.aS,1,8,[.aI],[]⟩),
 (339,⟨.aS,1,8,[.aI],[]⟩),
 (340,⟨.bV [(0,3,1),(1,9,1),(2,2,1),(3,3,1)],4,40,[.int .i64 0,.str ([]:ahs),.int .i64 0,.int .i64 0],[]⟩),
 (341,⟨.bV [(0,3,1),(1,9,1),(2,2,1),(3,3,1)],4,40,[.int .i64 0,.str ([]:ahs),.int .i64 0,.int .i64 0],[]⟩),
 (343,⟨.aS,1,8,[.aI],[]⟩),
 (344,⟨.aS,1,8,[.aI],[]⟩),
 (345,⟨.aS,1,8,[.aI],[]⟩),
 (347,⟨.aS,1,8,[.aI],[]⟩),
 (349,⟨.aS,1,8,[.aI],[]⟩),
 (350,⟨.aS,1,8,[.aI],[]⟩),
 (352,⟨.aS,1,8,[.aI],[]⟩),
 (353,⟨.aS,1,8,[.aI],[]⟩),
 (354,⟨.aS,1,8,[.aI],[]⟩),
 (355,⟨.aS,1,8,[.aI],[]⟩),
 (356,⟨.aS,1,8,[.aI],[]⟩),
 (357,⟨.aS,1,8,[.aI],[]⟩),
 (358,⟨.aS,1,8,[.aI],[]⟩),
 (359,⟨.aS,1,8,[.aI],[]⟩),
 (360,⟨.ptr,1,8,[.dV],[]⟩),
 (361,⟨.bV [(0,3,1),(1,319,1),(2,320,1)],3,24,[.int .i64 0,.aI,.aI],[]⟩),
 (362,⟨.bV [(0,3,1),(1,319,1),(2,320,1)],3,24,[.int .i64 0,.aI,.aI],[]⟩),
 (363,⟨.aS,1,8,[.aI],[]⟩),
 (364,⟨.bV [(0,4,1),(1,4,1),(2,4,1),(3,4,1),(4,4,1),(5,4,1)],6,6,[.bool false,.bool false,.bool false,.bool false,.bool false,.bool false],[]⟩),
 (365,⟨.bV [(0,4,1),(1,4,1),(2,4,1),(3,4,1),(4,4,1),(5,4,1)],6,6,[.bool false,.bool false,.bool false,.bool false,.bool false,.bool false],[]⟩),
 (367,⟨.aS,1,8,[.aI],[]⟩),
 (368,⟨.aS,1,8,[.aI],[]⟩),
 (369,⟨.aS,1,8,[.aI],[]⟩),
 (370,⟨.aS,1,8,[.aI],[]⟩),
 (371,⟨.aS,1,8,[.aI],[]⟩),
 (372,⟨.ptr,1,8,[.dV],[]⟩),
 (373,⟨.bV [(0,9,1),(1,3,1),(2,41,1)],3,32,[.str ([]:ahs),.int .i64 0,.int .i64 0],[]⟩),
 (374,⟨.bV [(0,9,1),(1,3,1),(2,41,1)],3,32,[.str ([]:ahs),.int .i64 0,.int .i64 0],[]⟩),
 (375,⟨.aS,1,8,[.aI],[]⟩),
 (376,⟨.aS,1,8,[.aI],[]⟩),
 (377,⟨.aS,1,8,[.aI],[]⟩),
 (378,⟨.bV [(0,3,1),(1,41,1)],2,16,[.int .i64 0,.int .i64 0],[]⟩),
 (379,⟨.bV [(0,3,1),(1,41,1)],2,16,[.int .i64 0,.int .i64 0],[]⟩),
 (381,⟨.bV [(0,292,1),(1,3,1)],2,32,[ad 4 cK ([]:List Token),.int .i64 0],[]⟩),
 (382,⟨.bV [(0,292,1),(1,3,1)],2,32,[ad 4 cK ([]:List Token),.int .i64 0],[]⟩),
 (383,⟨.aS,1,8,[.aI],[]⟩),
 (384,⟨.aS,1,8,[.aI],[]⟩),
 (385,⟨.aS,1,8,[.aI],[]⟩),
 (386,⟨.aS,1,8,[.aI],[]⟩),
 (387,⟨.aS,1,8,[.aI],[]⟩),
 (389,⟨.aS,1,8,[.aI],[]⟩),
 (390,⟨.aS,1,8,[.aI],[]⟩),
 (391,⟨.aS,1,8,[.aI],[]⟩),
 (393,⟨.aS,1,8,[.aI],[]⟩),
 (394,⟨.aS,1,8,[.aI],[]⟩),
 (395,⟨.aS,1,8,[.aI],[]⟩),
 (396,⟨.aS,1,8,[.aI],[]⟩),
 (397,⟨.aS,1,8,[.aI],[]⟩),
 (398,⟨.aS,1,8,[.aI],[]⟩),
 (399,⟨.aS,1,8,[.aI],[]⟩),
 (400,⟨.aS,1,8,[.aI],[]⟩),
 (401,⟨.aS,1,8,[.aI],[]⟩),
 (402,⟨.aS,1,8,[.aI],[]⟩),
 (404,⟨.aS,1,8,[.aI],[]⟩),
 (405,⟨.aS,1,8,[.aI],[]⟩),
 (407,⟨.aS,1,8,[.aI],[]⟩),
 (408,⟨.aS,1,8,[.aI],[]⟩),
 (409,⟨.aS,1,8,[.aI],[]⟩),
 (410,⟨.aS,1,8,[.aI],[]⟩),
 (411,⟨.aS,1,8,[.aI],[]⟩),
 (412,⟨.aS,1,8,[.aI],[]⟩),
 (413,⟨.aS,1,8,[.aI],[]⟩),
 (414,⟨.aS,1,8,[.aI],[]⟩),
 (415,⟨.aS,1,8,[.aI],[]⟩),
 (416,⟨.aS,1,8,[.aI],[]⟩),
 (418,⟨.aS,1,8,[.aI],[]⟩),
 (420,⟨.aS,1,8,[.aI],[]⟩),
 (421,⟨.aS,1,8,[.aI],[]⟩),
 (423,⟨.aS,1,8,[.aI],[]⟩),
 (425,⟨.aS,1,8,[.aI],[]⟩),
 (426,⟨.aS,1,8,[.aI],[]⟩),
 (428,⟨.int .u32,1,4,[.int .u32 0],[]⟩),
 (430,⟨.aS,1,8,[.aI],[]⟩),
 (431,⟨.aS,1,8,[.aI],[]⟩),
 (432,⟨.aS,1,8,[.aI],[]⟩),
 (433,⟨.int .i64,1,8,[.int .i64 0],[]⟩),
 (435,⟨.aS,1,8,[.aI],[]⟩),
 (436,⟨.ptr,1,8,[.dV],[]⟩),
 (437,⟨.aS,1,8,[.aI],[]⟩),
 (438,⟨.aS,1,8,[.aI],[]⟩),
 (441,⟨.aS,1,8,[.aI],[]⟩),
 (442,⟨.bV [(0,9,1),(1,9,1),(2,108,1)],3,48,[.str ([]:ahs),.str ([]:ahs),.gM],[]⟩),
 (443,⟨.bV [(0,9,1),(1,9,1),(2,108,1)],3,48,[.str ([]:ahs),.str ([]:ahs),.gM],[]⟩),
 (444,⟨.aS,1,8,[.aI],[]⟩),
 (445,⟨.ptr,1,8,[.dV],[]⟩),
 (446,⟨.bV [(0,9,1)],1,16,[.str ([]:ahs)],[]⟩),
 (447,⟨.bV [(0,9,1)],1,16,[.str ([]:ahs)],[]⟩),
 (448,⟨.bV [(0,17,1),(1,17,1),(2,17,1),(3,9,1)],4,40,[.dV,.dV,.dV,.str ([]:ahs)],[]⟩),
 (449,⟨.bV [(0,17,1),(1,17,1),(2,17,1),(3,9,1)],4,40,[.dV,.dV,.dV,.str ([]:ahs)],[]⟩),
 (453,⟨.int .u8,1,1,[.int .u8 0],[]⟩),
 (454,⟨.int .u8,1,1,[.int .u8 0],[]⟩),
 (455,⟨.aS,1,8,[.aI],[]⟩),
 (456,⟨.int .i32,1,4,[.int .i32 0],[]⟩),
 (457,⟨.int .i32,1,4,[.int .i32 0],[]⟩),
 (458,⟨.bV [(0,12,1),(1,12,1),(2,428,1),(3,453,1),(4,5,1),(5,5,1),(6,454,1),(7,455,1),(8,157,1),(9,456,1),(10,457,1)],11,48,[.int .u64 0,.int .u64 0,.int .u32 0,.int .u8 0,.int .u8 0,.int .u8 0,.int .u8 0,.aI,.dV,.int .i32 0,.int .i32 0],[]⟩),
 (459,⟨.bV [(0,12,1),(1,12,1),(2,428,1),(3,453,1),(4,5,1),(5,5,1),(6,454,1),(7,455,1),(8,157,1),(9,456,1),(10,457,1)],11,48,[.int .u64 0,.int .u64 0,.int .u32 0,.int .u8 0,.int .u8 0,.int .u8 0,.int .u8 0,.aI,.dV,.int .i32 0,.int .i32 0],[]⟩)]
def gD:eJ Tryz.prog tt=true:=by kernel_rfl
def u5:Tryz.prog.follows .mixedOrders=true:=by kernel_rfl
end Go.Ab.Y
namespace Go.Ab.Y.T
open Go Go.Ab Go.Proofs
structure aK(f:FuncId)(args:List D)(dM:List (Nat×TypeId))(H:List (List aR)){ρ:Type}(F:Option ρ)(out:ρ→Out)(cn:ρ→List (List aR)):Prop where
 of:∀{r:ρ},F=some r→fP Tryz.prog f args dM H (out r) (cn r)
def oO(E:Nat)(rs:List ResultVar){ρ:Type}(out:ρ→Out)(cn:ρ→List (List aR))(r:ρ):b8→aF→Prop:=oH tt E rs λo H'=>o=out r∧H'=cn r
def fr(s st:aF):Option aF:=(qd (s.env.map (·.1)) (s.H.map (·.1)) s.aT st.env st.H st.aT).map (fit s)
noncomputable abbrev gP(N:Nat)(ops:Array Oper)(rs:List eT)(st:aF):=q4 (gg Tryz.prog) tt N ops.toList rs st
noncomputable abbrev yq(N:Nat)(ops:Array Oper)(rs:List (Nat×List eT))(st:aF):=x_ (gg Tryz.prog) tt N ops.toList (spread ops.toList.length 0 rs) st
noncomputable abbrev LM(N:Nat)(ops:Array Oper)(fB:Nat)(rs:List (Nat×List eT))(st:aF):=uV (gg Tryz.prog) tt N ops.toList fB (st.aT+ops.toList.length) (spread ops.toList.length 0 rs) st
abbrev aa(x:Int):aR:=⟨.v (.int .i64 x),none⟩
abbrev db(x:Bool):aR:=⟨.v (.bool x),none⟩
abbrev aW(x:ahs):aR:=⟨.v (.str x),none⟩
abbrev au{α:Type}[Inhabited α](k:Nat)(e:α→V)(l:List α):aR:=⟨.v (ad k e l),none⟩
abbrev aY(r o:Nat):aR:=⟨.ptr r o,none⟩
abbrev e4(x:V):aR:=⟨.v x,none⟩
abbrev bc(x:Int):D:=.v (.int .i64 x)
abbrev b6(x:Bool):D:=.v (.bool x)
abbrev cg(x:ahs):D:=.v (.str x)
abbrev cO{α:Type}[Inhabited α](k:Nat)(e:α→V)(l:List α):D:=.v (ad k e l)
abbrev aL(d:D):Out:=.ret d none
def Y7(n:Nat):gm (n:Int) n=true:=Wx ⟨Int.natCast_nonneg n,Int.le_refl _⟩
abbrev an:=all_nil
def Z{p:Prop}{l:List Prop}(h:p)(ag:i_ l):i_ (p::l):=⟨h,ag⟩
section
variable {N E:Nat} {st:aF} {Q:b8→aF→Prop} {next:aF→Prop} {x y:Code} {id i j:Nat} {ops:Array Oper}
def sQ{x:V}(h:Q (.bb x) st):b8.then next Q (.bb x) st:=h
def bJ(h:Q .normal st):b8.inBlock i Q (.exit i) st:=b8.XL h
def sR(h:Q (.exit j) st)(dF:Nat.beq j i=false:=by kernel_rfl):b8.inBlock i Q (.exit j) st:=b8.XM dF h
def Y8{x:V}(h:Q (.bb x) st):b8.inBlock i Q (.bb x) st:=h
def am(h:a7 Tryz.prog N E x (b8.then (a7 Tryz.prog N E y Q) Q) st):a7 Tryz.prog N E (.seq x y) Q st:=a7.seq h
def al(h:Q .normal st):a7 Tryz.prog N E .skip Q st:=a7.skip h
def LN{r:Nat}(h:Q .ret (u1 r st)):CG r Q .ret st:=h
def LO(r:Nat)(h:a7 Tryz.prog N E x (CG r Q) st):a7 Tryz.prog N E x Q st:=a7.mc r h
def rb(mz:List Nat)(h:a7 Tryz.prog N E x Q {env:=forget mz st.env,H:=st.H,aT:=st.aT}):a7 Tryz.prog N E x Q st:=a7.forget mz h
def Y9{l:Nat}(h:Q .normal st):a7 Tryz.prog N E (.label l) Q st:=a7.label h
def bK(h:Q (.exit i) st):a7 Tryz.prog N E (.exit i) Q st:=a7.exit h
def yr(h:Q .ret st):a7 Tryz.prog N E .ret Q st:=a7.ret h
def Y'(h:a7 Tryz.prog N E x Q st):a7 Tryz.prog N E (.scope x) Q st:=a7.scope h
def aG(h:a7 Tryz.prog N E x (b8.inBlock i Q) st):a7 Tryz.prog N E (.block i x) Q st:=a7.block h
def eR(rs:List eT){cp:List Prop}(cm:i_ cp)(dG:Q .normal (ib (gP N ops rs st)))(aj:ke (gP N ops rs st)=some cp:=by kernel_rfl):a7 Tryz.prog N E (.region id ops false) Q st:=a7.rg gD rs aj cm dG
def br(dG:Q .normal (ib (gP N ops [] st)))(aj:ke (gP N ops [] st)=some []:=by kernel_rfl):a7 Tryz.prog N E (.region id ops false) Q st:=eR [] an dG aj
def G(dG:a7 Tryz.prog N E y Q (ib (gP N ops [] st)))(aj:ke (gP N ops [] st)=some []:=by kernel_rfl):a7 Tryz.prog N E (.seq (.region id ops false) y) Q st:=am (br (Q:=b8.then (a7 Tryz.prog N E y Q) Q) dG aj)
def aN(rs:List eT){cp:List Prop}(cm:i_ cp)(dG:a7 Tryz.prog N E y Q (ib (gP N ops rs st)))(aj:ke (gP N ops rs st)=some cp:=by kernel_rfl):a7 Tryz.prog N E (.seq (.region id ops false) y) Q st:=am (eR (Q:=b8.then (a7 Tryz.prog N E y Q) Q) rs cm dG aj)
section
variable {f:FuncId} {args:List D} {dM:List (Nat×TypeId)} {H cn:List (List aR)} {out:Out}
def jx(p:fP Tryz.prog f args dM H out cn)(dG:Q .normal (ib (gP N ops [a_ p []] st)))(aj:ke (gP N ops [a_ p []] st)=some [fP Tryz.prog f args dM H out cn]:=by kernel_rfl):a7 Tryz.prog N E (.region id ops false) Q st:=eR [a_ p []] (Z p an) dG aj
def iL(p:fP Tryz.prog f args dM H out cn)(dG:Q .normal (ib (gP N ops [bA p []] st)))(aj:ke (gP N ops [bA p []] st)=some [fP Tryz.prog f args dM H out cn]:=by kernel_rfl):a7 Tryz.prog N E (.region id ops false) Q st:=eR [bA p []] (Z p an) dG aj
def bw(p:fP Tryz.prog f args dM H out cn)(dG:a7 Tryz.prog N E y Q (ib (gP N ops [a_ p []] st)))(aj:ke (gP N ops [a_ p []] st)=some [fP Tryz.prog f args dM H out cn]:=by kernel_rfl):a7 Tryz.prog N E (.seq (.region id ops false) y) Q st:=aN [a_ p []] (Z p an) dG aj
def cX(p:fP Tryz.prog f args dM H out cn)(dG:a7 Tryz.prog N E y Q (ib (gP N ops [bA p []] st)))(aj:ke (gP N ops [bA p []] st)=some [fP Tryz.prog f args dM H out cn]:=by kernel_rfl):a7 Tryz.prog N E (.seq (.region id ops false) y) Q st:=aN [bA p []] (Z p an) dG aj
end
def gQ(rs:List (Nat×List eT)){cp:List Prop}(cm:i_ cp)(dG:Q .normal (ib (yq N ops rs st)))(aj:ke (yq N ops rs st)=some cp:=by kernel_rfl):a7 Tryz.prog N E (.region id ops true) Q st:=a7.yb gD u5 rs aj cm dG
def cf(rs:List (Nat×List eT)){cp:List Prop}(cm:i_ cp)(dG:a7 Tryz.prog N E y Q (ib (yq N ops rs st)))(aj:ke (yq N ops rs st)=some cp:=by kernel_rfl):a7 Tryz.prog N E (.seq (.region id ops true) y) Q st:=am (gQ (Q:=b8.then (a7 Tryz.prog N E y Q) Q) rs cm dG aj)
def dC(x:V)(rs:List eT){cp:List Prop}(cm:i_ cp)(dG:Q (.bb x) (ib (gP N ops rs st)))(aj:Ci (gP N ops rs st)=some (x,cp):=by kernel_rfl):a7 Tryz.prog N E (.region id ops false) Q st:=a7.Cj gD rs aj cm dG
def oP(fB:Nat)(x:V)(rs:List (Nat×List eT)){cp:List Prop}(cm:i_ cp)(dG:∀n,Q (.bb x) {env:=[],H:=Cy (LM N ops fB rs st),aT:=n})(aj:Cx (LM N ops fB rs st)=some (x,cp):=by kernel_rfl):a7 Tryz.prog N E (.region id ops true) Q st:=a7.Yu gD u5 fB rs aj cm dG
def C{α:Type}{b:Bool}{p q:Option α}{r:α}{c:Nat}(h:(bif b then p else q)=some r)(cc:p=some r→a7 Tryz.prog N E x Q st)(b2:q=some r→a7 Tryz.prog N E y Q st)(hc:(look st.env c).map (·.d)=some (.v (.bool b)):=by kernel_rfl):a7 Tryz.prog N E (.cond (.tmp c) x y) Q st:=a7.Cm h hc cc b2
def LP{c:Nat}(cc:a7 Tryz.prog N E x Q st)(hc:(look st.env c).map (·.d)=some (.v (.bool true)):=by kernel_rfl):a7 Tryz.prog N E (.cond (.tmp c) x y) Q st:=a7.K1 hc cc
def LQ{c:Nat}(b2:a7 Tryz.prog N E y Q st)(hc:(look st.env c).map (·.d)=some (.v (.bool false)):=by kernel_rfl):a7 Tryz.prog N E (.cond (.tmp c) x y) Q st:=a7.Cn hc b2
section
variable {ρ:Type} {a r:ρ} {out:ρ→Out} {cn:ρ→List (List aR)} {rs:List ResultVar}
def x8(h:some a=some r)(ag:leave tt E rs st=some (out a,cn a):=by kernel_rfl):oO E rs out cn r .ret st:=by
 obtain rfl:=Option.some.inj h;exact XO ag
def Y_(yt:Nat)(h:some a=some r)(ag:oG tt E yt rs st=some (out a,cn a):=by kernel_rfl):oO E rs out cn r .ret st:=by
 obtain rfl:=Option.some.inj h;exact XP ag
def bn{Q:b8→aF→Prop}(h:some a=some r)(aP:oO E rs out cn r .ret st=Q .ret st:=by rfl)(ag:leave tt E rs st=some (out a,cn a):=by kernel_rfl):a7 Tryz.prog N E .ret Q st:=yr (aP ▸ x8 h ag)
def Za(yt:Nat){Q:b8→aF→Prop}(h:some a=some r)(aP:oO E rs out cn r .ret st=Q .ret st:=by rfl)(ag:oG tt E yt rs st=some (out a,cn a):=by kernel_rfl):a7 Tryz.prog N E .ret Q st:=yr (aP ▸ Y_ yt h ag)
def bg{Q:b8→aF→Prop}{id:Nat}{ops:Array Oper}(h:some a=some r)(aP:oO E rs out cn r .ret (ib (gP N ops [] st))=Q .ret (ib (gP N ops [] st)):=by rfl)(ag:leave tt E rs (ib (gP N ops [] st))=some (out a,cn a):=by kernel_rfl)(aj:ke (gP N ops [] st)=some []:=by kernel_rfl):a7 Tryz.prog N E (.seq (.region id ops false) .ret) Q st:=G (bn h aP ag) aj
def aC{Q:b8→aF→Prop}{id:Nat}{ops:Array Oper}{b:Bool}{q:Option ρ}{c:Nat}{y:Code}(h:(bif b then some a else q)=some r)(b2:q=some r→a7 Tryz.prog N E y Q st)(aP:oO E rs out cn r .ret (ib (gP N ops [] st))=Q .ret (ib (gP N ops [] st)):=by rfl)(ag:leave tt E rs (ib (gP N ops [] st))=some (out a,cn a):=by kernel_rfl)(aj:ke (gP N ops [] st)=some []:=by kernel_rfl)(hc:(look st.env c).map (·.d)=some (.v (.bool b)):=by kernel_rfl):a7 Tryz.prog N E (.cond (.tmp c) (.seq (.region id ops false) .ret) y) Q st:=C h (λh=>bg h aP ag aj) b2 hc
def iM(h:some a=some r)(ag:leave tt E rs st=some (out a,cn a):=by kernel_rfl):oO E rs out cn r .normal st:=by
 obtain rfl:=Option.some.inj h;exact B7 ag
def di{x:V}(h:some a=some r)(ag:(xN E st.H).map lw=some (cn a):=by kernel_rfl)(hx:out a = .bb x:=by kernel_rfl):oO E rs out cn r (.bb x) st:=by
 obtain rfl:=Option.some.inj h;show oH tt E rs _ _ _
 rw [hx];exact XQ ag
end
def aM{f:FuncId}{fn:Func}{c:Code}{args:List D}{dM:List (Nat×TypeId)}{H:List (List aR)}{ρ:Type}{F:Option ρ}{out:ρ→Out}{cn:ρ→List (List aR)}(b2:Tryz.prog.funcs[f]? = some fn)(hb:fn.body=some c)
 (h : ∀ {r : ρ}, F = some r → a7 Tryz.prog fn.ntmps H.length c (oO H.length fn.results.toList out cn r) { env := gu args dM, H := cH 0 H, aT := H.length }) (h9 : decide (fn.name = "runtime.NumGoroutine") = false := by rfl) (ha : Nat.ble args.length fn.ntmps = true := by rfl) : aK f args dM H F out cn :=
 ⟨λh0=>XN gD b2 hb h9 ha (h h0)⟩
end
section
variable {α β dj gd:Type} {p:Prop}
def cS{q:Prop}(a:p)(k:p→q):q:=k a
def pI{LR:Type}{X:Option LR}(c:α ⊕ β→LR){x:α ⊕ β}{f:α→Option dj}{g:β→Option dj}{r:dj}(q:X=some (c x))(h:jb.on x f g=some r)(ed:∀a,X=some (c (.inl a))→f a=some r→p)(ao:∀b,X=some (c (.inr b))→g b=some r→p):p:=
 match x,q,h with
 |.inl a,q,h=>ed a q h
 |.inr b,q,h=>ao b q h
def hM{r:α}(h:none=some r):p:=by cases h
def ax{b:Bool}{x:Option α}{r:α}(h:av b x=some r)(k:b=true→x=some r→p):p:=k (oI h).1 (oI h).2
def ak{x:Option α}{f:α→Option β}{r:β}(h:Option.bind x f=some r)(k:∀a,x=some a→f a=some r→p):p:=let ⟨a,ab,ah⟩:=bind_some h;k a ab ah
def dt{x:Option (aQ α β)}{f:α→β→Option dj}{g:V→β→Option dj}{r:dj}(h:Option.bind x (λz=>aQ.on z f g)=some r)(ed:∀a b,x=some (.ret a b)→f a b=some r→p)(ao:∀y b,x=some (.bb y b)→g y b=some r→p):p:=
 let ⟨z,ab,ah⟩:=bind_some h
 match z,ab,ah with
 |.ret a b,ab,ah=>ed a b ab ah
 |.bb y b,ab,ah=>ao y b ab ah
end
section
variable {ρ:Type} {r:ρ} {N E:Nat} {st:aF} {Q:b8→aF→Prop} {x y:Code}
def co{bM:aF}{f:Option ρ}(h:f=some r)(aj:fr (bM) st=some (bM):=by kernel_rfl):fr (bM) st=some (bM)∧f=some r:=⟨aj,h⟩
def cz(bM:aF)(f:Option ρ)(ab:a7 Tryz.prog N E x (b8.then (λbG=>fr (bM) bG=some (bM)∧f=some r) Q) st)(ah:f=some r→a7 Tryz.prog N E y Q (bM))(ch:Nat.ble E (bM).aT=true:=by intros;kernel_rfl):a7 Tryz.prog N E (.seq x y) Q st:=
 a7.cut _ ab λbG ⟨aj,h⟩=>a7.my _ _ _ _ aj (ch) (ah h)
end
section
variable {α:Type} {ρ:Type} {r:ρ} {N E:Nat} {st:aF} {Q:b8→aF→Prop} {x y:Code}
def a8{bM:α→aF}{f:α→Option ρ}{a0:_}(h:f a0=some r)(aj:fr (bM a0) st=some (bM a0):=by kernel_rfl):∃a0,fr (bM a0) st=some (bM a0)∧f a0=some r:=⟨a0,aj,h⟩
def dc(bM:α→aF)(f:α→Option ρ)(ab:a7 Tryz.prog N E x (b8.then (λbG=>∃a0,fr (bM a0) bG=some (bM a0)∧f a0=some r) Q) st)(ah:∀a0,f a0=some r→a7 Tryz.prog N E y Q (bM a0))(ch:∀a0,Nat.ble E (bM a0).aT=true:=by intros;kernel_rfl):a7 Tryz.prog N E (.seq x y) Q st:=
 a7.cut _ ab λbG ⟨a0,aj,h⟩=>a7.my _ _ _ _ aj (ch a0) (ah a0 h)
def dk(bM:α→aF)(F:Nat→α→Option ρ)(B:(α→Option ρ)→α→Option ρ){n:Nat}{a0:_}(h:F n a0=some r)(body:∀k a0,B k a0=some r→a7 Tryz.prog N E x (b8.then (λbG=>∃a0,fr (bM a0) bG=some (bM a0)∧k a0=some r) Q) (bM a0))(hi:fr (bM a0) st=some (bM a0):=by kernel_rfl)(ch:∀a0,Nat.ble E (bM a0).aT=true:=by intros;kernel_rfl)(h0:∀a0,F 0 a0=none:=by intros;rfl)(hs:∀m a0,F (m+1) a0=B (F m) a0:=by intros;rfl):a7 Tryz.prog N E (.loop x) Q st:=by
 refine a7.loop (σ:=α) (λm (s:α) st=>fr (bM s) st=some (bM s)∧F m s=some r) ?_ (n:=n) (s:=a0) ⟨hi,h⟩
 rintro m a0 bG ⟨aj,h⟩
 cases m with
 |zero=>have ah:=(h0 a0).symm.trans h;cases ah
 |succ m=>
  refine⟨m,rfl,a7.my _ _ _ _ aj (ch a0) ((body (F m) a0 ((hs m a0).symm.trans h)).mono ?_)⟩
  intro eB u6 aP;cases eB with
  |normal=>obtain⟨a0,g1,g2⟩:=aP;exact⟨a0,g1,g2⟩
  |exit i=>exact aP
  |ret=>exact aP
  |bb x=>exact aP
end
section
variable {α β:Type} {ρ:Type} {r:ρ} {N E:Nat} {st:aF} {Q:b8→aF→Prop} {x y:Code}
def dD{bM:α→β→aF}{f:α→β→Option ρ}{a0 aU:_}(h:f a0 aU=some r)(aj:fr (bM a0 aU) st=some (bM a0 aU):=by kernel_rfl):∃a0 aU,fr (bM a0 aU) st=some (bM a0 aU)∧f a0 aU=some r:=⟨a0,aU,aj,h⟩
def kY(bM:α→β→aF)(f:α→β→Option ρ)(ab:a7 Tryz.prog N E x (b8.then (λbG=>∃a0 aU,fr (bM a0 aU) bG=some (bM a0 aU)∧f a0 aU=some r) Q) st)(ah:∀a0 aU,f a0 aU=some r→a7 Tryz.prog N E y Q (bM a0 aU))(ch:∀a0 aU,Nat.ble E (bM a0 aU).aT=true:=by intros;kernel_rfl):a7 Tryz.prog N E (.seq x y) Q st:=
 a7.cut _ ab λbG ⟨a0,aU,aj,h⟩=>a7.my _ _ _ _ aj (ch a0 aU) (ah a0 aU h)
def fC(bM:α→β→aF)(F:Nat→α→β→Option ρ)(B:(α→β→Option ρ)→α→β→Option ρ){n:Nat}{a0 aU:_}(h:F n a0 aU=some r)(body:∀k a0 aU,B k a0 aU=some r→a7 Tryz.prog N E x (b8.then (λbG=>∃a0 aU,fr (bM a0 aU) bG=some (bM a0 aU)∧k a0 aU=some r) Q) (bM a0 aU))(hi:fr (bM a0 aU) st=some (bM a0 aU):=by kernel_rfl)(ch:∀a0 aU,Nat.ble E (bM a0 aU).aT=true:=by intros;kernel_rfl)(h0:∀a0 aU,F 0 a0 aU=none:=by intros;rfl)(hs:∀m a0 aU,F (m+1) a0 aU=B (F m) a0 aU:=by intros;rfl):a7 Tryz.prog N E (.loop x) Q st:=by
 refine a7.loop (σ:=α×β) (λm (s:α×β) st=>fr (bM s.1 s.2) st=some (bM s.1 s.2)∧F m s.1 s.2=some r) ?_ (n:=n) (s:=(a0,aU)) ⟨hi,h⟩
 rintro m ⟨a0,aU⟩ bG ⟨aj,h⟩
 cases m with
 |zero=>have ah:=(h0 a0 aU).symm.trans h;cases ah
 |succ m=>
  refine⟨m,rfl,a7.my _ _ _ _ aj (ch a0 aU) ((body (F m) a0 aU ((hs m a0 aU).symm.trans h)).mono ?_)⟩
  intro eB u6 aP;cases eB with
  |normal=>obtain⟨a0,aU,g1,g2⟩:=aP;exact⟨(a0,aU),g1,g2⟩
  |exit i=>exact aP
  |ret=>exact aP
  |bb x=>exact aP
end
section
variable {α β dj:Type} {ρ:Type} {r:ρ} {N E:Nat} {st:aF} {Q:b8→aF→Prop} {x y:Code}
def gJ{bM:α→β→dj→aF}{f:α→β→dj→Option ρ}{a0 aU a2:_}(h:f a0 aU a2=some r)(aj:fr (bM a0 aU a2) st=some (bM a0 aU a2):=by kernel_rfl):∃a0 aU a2,fr (bM a0 aU a2) st=some (bM a0 aU a2)∧f a0 aU a2=some r:=⟨a0,aU,a2,aj,h⟩
def n2(bM:α→β→dj→aF)(f:α→β→dj→Option ρ)(ab:a7 Tryz.prog N E x (b8.then (λbG=>∃a0 aU a2,fr (bM a0 aU a2) bG=some (bM a0 aU a2)∧f a0 aU a2=some r) Q) st)(ah:∀a0 aU a2,f a0 aU a2=some r→a7 Tryz.prog N E y Q (bM a0 aU a2))(ch:∀a0 aU a2,Nat.ble E (bM a0 aU a2).aT=true:=by intros;kernel_rfl):a7 Tryz.prog N E (.seq x y) Q st:=
 a7.cut _ ab λbG ⟨a0,aU,a2,aj,h⟩=>a7.my _ _ _ _ aj (ch a0 aU a2) (ah a0 aU a2 h)
def sS(bM:α→β→dj→aF)(F:Nat→α→β→dj→Option ρ)(B:(α→β→dj→Option ρ)→α→β→dj→Option ρ){n:Nat}{a0 aU a2:_}(h:F n a0 aU a2=some r)(body:∀k a0 aU a2,B k a0 aU a2=some r→a7 Tryz.prog N E x (b8.then (λbG=>∃a0 aU a2,fr (bM a0 aU a2) bG=some (bM a0 aU a2)∧k a0 aU a2=some r) Q) (bM a0 aU a2))(hi:fr (bM a0 aU a2) st=some (bM a0 aU a2):=by kernel_rfl)(ch:∀a0 aU a2,Nat.ble E (bM a0 aU a2).aT=true:=by intros;kernel_rfl)(h0:∀a0 aU a2,F 0 a0 aU a2=none:=by intros;rfl)(hs:∀m a0 aU a2,F (m+1) a0 aU a2=B (F m) a0 aU a2:=by intros;rfl):a7 Tryz.prog N E (.loop x) Q st:=by
 refine a7.loop (σ:=α×β×dj) (λm (s:α×β×dj) st=>fr (bM s.1 s.2.1 s.2.2) st=some (bM s.1 s.2.1 s.2.2)∧F m s.1 s.2.1 s.2.2=some r) ?_ (n:=n) (s:=(a0,aU,a2)) ⟨hi,h⟩
 rintro m ⟨a0,aU,a2⟩ bG ⟨aj,h⟩
 cases m with
 |zero=>have ah:=(h0 a0 aU a2).symm.trans h;cases ah
 |succ m=>
  refine⟨m,rfl,a7.my _ _ _ _ aj (ch a0 aU a2) ((body (F m) a0 aU a2 ((hs m a0 aU a2).symm.trans h)).mono ?_)⟩
  intro eB u6 aP;cases eB with
  |normal=>obtain⟨a0,aU,a2,g1,g2⟩:=aP;exact⟨(a0,aU,a2),g1,g2⟩
  |exit i=>exact aP
  |ret=>exact aP
  |bb x=>exact aP
end
section
variable {α β dj gd:Type} {ρ:Type} {r:ρ} {N E:Nat} {st:aF} {Q:b8→aF→Prop} {x y:Code}
def nd{bM:α→β→dj→gd→aF}{f:α→β→dj→gd→Option ρ}{a0 aU a2 a3:_}(h:f a0 aU a2 a3=some r)(aj:fr (bM a0 aU a2 a3) st=some (bM a0 aU a2 a3):=by kernel_rfl):∃a0 aU a2 a3,fr (bM a0 aU a2 a3) st=some (bM a0 aU a2 a3)∧f a0 aU a2 a3=some r:=⟨a0,aU,a2,a3,aj,h⟩
def Zb(bM:α→β→dj→gd→aF)(f:α→β→dj→gd→Option ρ)(ab:a7 Tryz.prog N E x (b8.then (λbG=>∃a0 aU a2 a3,fr (bM a0 aU a2 a3) bG=some (bM a0 aU a2 a3)∧f a0 aU a2 a3=some r) Q) st)(ah:∀a0 aU a2 a3,f a0 aU a2 a3=some r→a7 Tryz.prog N E y Q (bM a0 aU a2 a3))(ch:∀a0 aU a2 a3,Nat.ble E (bM a0 aU a2 a3).aT=true:=by intros;kernel_rfl):a7 Tryz.prog N E (.seq x y) Q st:=
 a7.cut _ ab λbG ⟨a0,aU,a2,a3,aj,h⟩=>a7.my _ _ _ _ aj (ch a0 aU a2 a3) (ah a0 aU a2 a3 h)
def oQ(bM:α→β→dj→gd→aF)(F:Nat→α→β→dj→gd→Option ρ)(B:(α→β→dj→gd→Option ρ)→α→β→dj→gd→Option ρ){n:Nat}{a0 aU a2 a3:_}(h:F n a0 aU a2 a3=some r)(body:∀k a0 aU a2 a3,B k a0 aU a2 a3=some r→a7 Tryz.prog N E x (b8.then (λbG=>∃a0 aU a2 a3,fr (bM a0 aU a2 a3) bG=some (bM a0 aU a2 a3)∧k a0 aU a2 a3=some r) Q) (bM a0 aU a2 a3))(hi:fr (bM a0 aU a2 a3) st=some (bM a0 aU a2 a3):=by kernel_rfl)(ch:∀a0 aU a2 a3,Nat.ble E (bM a0 aU a2 a3).aT=true:=by intros;kernel_rfl)(h0:∀a0 aU a2 a3,F 0 a0 aU a2 a3=none:=by intros;rfl)(hs:∀m a0 aU a2 a3,F (m+1) a0 aU a2 a3=B (F m) a0 aU a2 a3:=by intros;rfl):a7 Tryz.prog N E (.loop x) Q st:=by
 refine a7.loop (σ:=α×β×dj×gd) (λm (s:α×β×dj×gd) st=>fr (bM s.1 s.2.1 s.2.2.1 s.2.2.2) st=some (bM s.1 s.2.1 s.2.2.1 s.2.2.2)∧F m s.1 s.2.1 s.2.2.1 s.2.2.2=some r) ?_ (n:=n) (s:=(a0,aU,a2,a3)) ⟨hi,h⟩
 rintro m ⟨a0,aU,a2,a3⟩ bG ⟨aj,h⟩
 cases m with
 |zero=>have ah:=(h0 a0 aU a2 a3).symm.trans h;cases ah
 |succ m=>
  refine⟨m,rfl,a7.my _ _ _ _ aj (ch a0 aU a2 a3) ((body (F m) a0 aU a2 a3 ((hs m a0 aU a2 a3).symm.trans h)).mono ?_)⟩
  intro eB u6 aP;cases eB with
  |normal=>obtain⟨a0,aU,a2,a3,g1,g2⟩:=aP;exact⟨(a0,aU,a2,a3),g1,g2⟩
  |exit i=>exact aP
  |ret=>exact aP
  |bb x=>exact aP
end
section
variable {α β dj gd oR:Type} {ρ:Type} {r:ρ} {N E:Nat} {st:aF} {Q:b8→aF→Prop} {x y:Code}
def Zc{bM:α→β→dj→gd→oR→aF}{f:α→β→dj→gd→oR→Option ρ}{a0 aU a2 a3 a4:_}(h:f a0 aU a2 a3 a4=some r)(aj:fr (bM a0 aU a2 a3 a4) st=some (bM a0 aU a2 a3 a4):=by kernel_rfl):∃a0 aU a2 a3 a4,fr (bM a0 aU a2 a3 a4) st=some (bM a0 aU a2 a3 a4)∧f a0 aU a2 a3 a4=some r:=⟨a0,aU,a2,a3,a4,aj,h⟩
def Zd(bM:α→β→dj→gd→oR→aF)(F:Nat→α→β→dj→gd→oR→Option ρ)(B:(α→β→dj→gd→oR→Option ρ)→α→β→dj→gd→oR→Option ρ){n:Nat}{a0 aU a2 a3 a4:_}(h:F n a0 aU a2 a3 a4=some r)(body:∀k a0 aU a2 a3 a4,B k a0 aU a2 a3 a4=some r→a7 Tryz.prog N E x (b8.then (λbG=>∃a0 aU a2 a3 a4,fr (bM a0 aU a2 a3 a4) bG=some (bM a0 aU a2 a3 a4)∧k a0 aU a2 a3 a4=some r) Q) (bM a0 aU a2 a3 a4))(hi:fr (bM a0 aU a2 a3 a4) st=some (bM a0 aU a2 a3 a4):=by kernel_rfl)(ch:∀a0 aU a2 a3 a4,Nat.ble E (bM a0 aU a2 a3 a4).aT=true:=by intros;kernel_rfl)(h0:∀a0 aU a2 a3 a4,F 0 a0 aU a2 a3 a4=none:=by intros;rfl)(hs:∀m a0 aU a2 a3 a4,F (m+1) a0 aU a2 a3 a4=B (F m) a0 aU a2 a3 a4:=by intros;rfl):a7 Tryz.prog N E (.loop x) Q st:=by
 refine a7.loop (σ:=α×β×dj×gd×oR) (λm (s:α×β×dj×gd×oR) st=>fr (bM s.1 s.2.1 s.2.2.1 s.2.2.2.1 s.2.2.2.2) st=some (bM s.1 s.2.1 s.2.2.1 s.2.2.2.1 s.2.2.2.2)∧F m s.1 s.2.1 s.2.2.1 s.2.2.2.1 s.2.2.2.2=some r) ?_ (n:=n) (s:=(a0,aU,a2,a3,a4)) ⟨hi,h⟩
 rintro m ⟨a0,aU,a2,a3,a4⟩ bG ⟨aj,h⟩
 cases m with
 |zero=>have ah:=(h0 a0 aU a2 a3 a4).symm.trans h;cases ah
 |succ m=>
  refine⟨m,rfl,a7.my _ _ _ _ aj (ch a0 aU a2 a3 a4) ((body (F m) a0 aU a2 a3 a4 ((hs m a0 aU a2 a3 a4).symm.trans h)).mono ?_)⟩
  intro eB u6 aP;cases eB with
  |normal=>obtain⟨a0,aU,a2,a3,a4,g1,g2⟩:=aP;exact⟨(a0,aU,a2,a3,a4),g1,g2⟩
  |exit i=>exact aP
  |ret=>exact aP
  |bb x=>exact aP
end
section
variable {α β dj gd oR ags:Type} {ρ:Type} {r:ρ} {N E:Nat} {st:aF} {Q:b8→aF→Prop} {x y:Code}
end
section
variable {lC lD lE lF lG lH lI lJ lK lL lM lN lO lP lQ lR:Type} {ρ:Type} {r:ρ} {N E:Nat} {st:aF} {Q:b8→aF→Prop} {x y:Code}
def LS{bM:lC→lD→lE→lF→lG→lH→lI→lJ→lK→lL→lM→lN→lO→lP→lQ→lR→aF}{f:lC→lD→lE→lF→lG→lH→lI→lJ→lK→lL→lM→lN→lO→lP→lQ→lR→Option ρ}{a0 aU a2 a3 a4 a5 eg eh ei a9 ej ek a12 el en eo:_}(h:f a0 aU a2 a3 a4 a5 eg eh ei a9 ej ek a12 el en eo=some r)(aj:fr (bM a0 aU a2 a3 a4 a5 eg eh ei a9 ej ek a12 el en eo) st=some (bM a0 aU a2 a3 a4 a5 eg eh ei a9 ej ek a12 el en eo):=by kernel_rfl):∃a0 aU a2 a3 a4 a5 eg eh ei a9 ej ek a12 el en eo,fr (bM a0 aU a2 a3 a4 a5 eg eh ei a9 ej ek a12 el en eo) st=some (bM a0 aU a2 a3 a4 a5 eg eh ei a9 ej ek a12 el en eo)∧f a0 aU a2 a3 a4 a5 eg eh ei a9 ej ek a12 el en eo=some r:=⟨a0,aU,a2,a3,a4,a5,eg,eh,ei,a9,ej,ek,a12,el,en,eo,aj,h⟩
def LT(bM:lC→lD→lE→lF→lG→lH→lI→lJ→lK→lL→lM→lN→lO→lP→lQ→lR→aF)(f:lC→lD→lE→lF→lG→lH→lI→lJ→lK→lL→lM→lN→lO→lP→lQ→lR→Option ρ)(ab:a7 Tryz.prog N E x (b8.then (λbG=>∃a0 aU a2 a3 a4 a5 eg eh ei a9 ej ek a12 el en eo,fr (bM a0 aU a2 a3 a4 a5 eg eh ei a9 ej ek a12 el en eo) bG=some (bM a0 aU a2 a3 a4 a5 eg eh ei a9 ej ek a12 el en eo)∧f a0 aU a2 a3 a4 a5 eg eh ei a9 ej ek a12 el en eo=some r) Q) st)(ah:∀a0 aU a2 a3 a4 a5 eg eh ei a9 ej ek a12 el en eo,f a0 aU a2 a3 a4 a5 eg eh ei a9 ej ek a12 el en eo=some r→a7 Tryz.prog N E y Q (bM a0 aU a2 a3 a4 a5 eg eh ei a9 ej ek a12 el en eo))(ch:∀a0 aU a2 a3 a4 a5 eg eh ei a9 ej ek a12 el en eo,Nat.ble E (bM a0 aU a2 a3 a4 a5 eg eh ei a9 ej ek a12 el en eo).aT=true:=by intros;kernel_rfl):a7 Tryz.prog N E (.seq x y) Q st:=
 a7.cut _ ab λbG ⟨a0,aU,a2,a3,a4,a5,eg,eh,ei,a9,ej,ek,a12,el,en,eo,aj,h⟩=>a7.my _ _ _ _ aj (ch a0 aU a2 a3 a4 a5 eg eh ei a9 ej ek a12 el en eo) (ah a0 aU a2 a3 a4 a5 eg eh ei a9 ej ek a12 el en eo h)
end
section
variable {lC lD lE lF lG lH lI lJ lK lL lM lN lO lP lQ lR pJ:Type} {ρ:Type} {r:ρ} {N E:Nat} {st:aF} {Q:b8→aF→Prop} {x y:Code}
def Ze{bM:lC→lD→lE→lF→lG→lH→lI→lJ→lK→lL→lM→lN→lO→lP→lQ→lR→pJ→aF}{f:lC→lD→lE→lF→lG→lH→lI→lJ→lK→lL→lM→lN→lO→lP→lQ→lR→pJ→Option ρ}{a0 aU a2 a3 a4 a5 eg eh ei a9 ej ek a12 el en eo fW:_}(h:f a0 aU a2 a3 a4 a5 eg eh ei a9 ej ek a12 el en eo fW=some r)(aj:fr (bM a0 aU a2 a3 a4 a5 eg eh ei a9 ej ek a12 el en eo fW) st=some (bM a0 aU a2 a3 a4 a5 eg eh ei a9 ej ek a12 el en eo fW):=by kernel_rfl):∃a0 aU a2 a3 a4 a5 eg eh ei a9 ej ek a12 el en eo fW,fr (bM a0 aU a2 a3 a4 a5 eg eh ei a9 ej ek a12 el en eo fW) st=some (bM a0 aU a2 a3 a4 a5 eg eh ei a9 ej ek a12 el en eo fW)∧f a0 aU a2 a3 a4 a5 eg eh ei a9 ej ek a12 el en eo fW=some r:=⟨a0,aU,a2,a3,a4,a5,eg,eh,ei,a9,ej,ek,a12,el,en,eo,fW,aj,h⟩
def Zf(bM:lC→lD→lE→lF→lG→lH→lI→lJ→lK→lL→lM→lN→lO→lP→lQ→lR→pJ→aF)(F:Nat→lC→lD→lE→lF→lG→lH→lI→lJ→lK→lL→lM→lN→lO→lP→lQ→lR→pJ→Option ρ)(B:(lC→lD→lE→lF→lG→lH→lI→lJ→lK→lL→lM→lN→lO→lP→lQ→lR→pJ→Option ρ)→lC→lD→lE→lF→lG→lH→lI→lJ→lK→lL→lM→lN→lO→lP→lQ→lR→pJ→Option ρ){n:Nat}{a0 aU a2 a3 a4 a5 eg eh ei a9 ej ek a12 el en eo fW:_}(h:F n a0 aU a2 a3 a4 a5 eg eh ei a9 ej ek a12 el en eo fW=some r)(body:∀k a0 aU a2 a3 a4 a5 eg eh ei a9 ej ek a12 el en eo fW,B k a0 aU a2 a3 a4 a5 eg eh ei a9 ej ek a12 el en eo fW=some r→a7 Tryz.prog N E x (b8.then (λbG=>∃a0 aU a2 a3 a4 a5 eg eh ei a9 ej ek a12 el en eo fW,fr (bM a0 aU a2 a3 a4 a5 eg eh ei a9 ej ek a12 el en eo fW) bG=some (bM a0 aU a2 a3 a4 a5 eg eh ei a9 ej ek a12 el en eo fW)∧k a0 aU a2 a3 a4 a5 eg eh ei a9 ej ek a12 el en eo fW=some r) Q) (bM a0 aU a2 a3 a4 a5 eg eh ei a9 ej ek a12 el en eo fW))(hi:fr (bM a0 aU a2 a3 a4 a5 eg eh ei a9 ej ek a12 el en eo fW) st=some (bM a0 aU a2 a3 a4 a5 eg eh ei a9 ej ek a12 el en eo fW):=by kernel_rfl)(ch:∀a0 aU a2 a3 a4 a5 eg eh ei a9 ej ek a12 el en eo fW,Nat.ble E (bM a0 aU a2 a3 a4 a5 eg eh ei a9 ej ek a12 el en eo fW).aT=true:=by intros;kernel_rfl)(h0:∀a0 aU a2 a3 a4 a5 eg eh ei a9 ej ek a12 el en eo fW,F 0 a0 aU a2 a3 a4 a5 eg eh ei a9 ej ek a12 el en eo fW=none:=by intros;rfl)(hs:∀m a0 aU a2 a3 a4 a5 eg eh ei a9 ej ek a12 el en eo fW,F (m+1) a0 aU a2 a3 a4 a5 eg eh ei a9 ej ek a12 el en eo fW=B (F m) a0 aU a2 a3 a4 a5 eg eh ei a9 ej ek a12 el en eo fW:=by intros;rfl):a7 Tryz.prog N E (.loop x) Q st:=by
 refine a7.loop (σ:=lC×lD×lE×lF×lG×lH×lI×lJ×lK×lL×lM×lN×lO×lP×lQ×lR×pJ) (λm (s:lC×lD×lE×lF×lG×lH×lI×lJ×lK×lL×lM×lN×lO×lP×lQ×lR×pJ) st=>fr (bM s.1 s.2.1 s.2.2.1 s.2.2.2.1 s.2.2.2.2.1 s.2.2.2.2.2.1 s.2.2.2.2.2.2.1 s.2.2.2.2.2.2.2.1 s.2.2.2.2.2.2.2.2.1 s.2.2.2.2.2.2.2.2.2.1 s.2.2.2.2.2.2.2.2.2.2.1 s.2.2.2.2.2.2.2.2.2.2.2.1 s.2.2.2.2.2.2.2.2.2.2.2.2.1 s.2.2.2.2.2.2.2.2.2.2.2.2.2.1 s.2.2.2.2.2.2.2.2.2.2.2.2.2.2.1 s.2.2.2.2.2.2.2.2.2.2.2.2.2.2.2.1 s.2.2.2.2.2.2.2.2.2.2.2.2.2.2.2.2) st=some (bM s.1 s.2.1 s.2.2.1 s.2.2.2.1 s.2.2.2.2.1 s.2.2.2.2.2.1 s.2.2.2.2.2.2.1 s.2.2.2.2.2.2.2.1 s.2.2.2.2.2.2.2.2.1 s.2.2.2.2.2.2.2.2.2.1 s.2.2.2.2.2.2.2.2.2.2.1 s.2.2.2.2.2.2.2.2.2.2.2.1 s.2.2.2.2.2.2.2.2.2.2.2.2.1 s.2.2.2.2.2.2.2.2.2.2.2.2.2.1 s.2.2.2.2.2.2.2.2.2.2.2.2.2.2.1 s.2.2.2.2.2.2.2.2.2.2.2.2.2.2.2.1 s.2.2.2.2.2.2.2.2.2.2.2.2.2.2.2.2)∧F m s.1 s.2.1 s.2.2.1 s.2.2.2.1 s.2.2.2.2.1 s.2.2.2.2.2.1 s.2.2.2.2.2.2.1 s.2.2.2.2.2.2.2.1 s.2.2.2.2.2.2.2.2.1 s.2.2.2.2.2.2.2.2.2.1 s.2.2.2.2.2.2.2.2.2.2.1 s.2.2.2.2.2.2.2.2.2.2.2.1 s.2.2.2.2.2.2.2.2.2.2.2.2.1 s.2.2.2.2.2.2.2.2.2.2.2.2.2.1 s.2.2.2.2.2.2.2.2.2.2.2.2.2.2.1 s.2.2.2.2.2.2.2.2.2.2.2.2.2.2.2.1 s.2.2.2.2.2.2.2.2.2.2.2.2.2.2.2.2=some r) ?_ (n:=n) (s:=(a0,aU,a2,a3,a4,a5,eg,eh,ei,a9,ej,ek,a12,el,en,eo,fW)) ⟨hi,h⟩
 rintro m ⟨a0,aU,a2,a3,a4,a5,eg,eh,ei,a9,ej,ek,a12,el,en,eo,fW⟩ bG ⟨aj,h⟩
 cases m with
 |zero=>have ah:=(h0 a0 aU a2 a3 a4 a5 eg eh ei a9 ej ek a12 el en eo fW).symm.trans h;cases ah
 |succ m=>
  refine⟨m,rfl,a7.my _ _ _ _ aj (ch a0 aU a2 a3 a4 a5 eg eh ei a9 ej ek a12 el en eo fW) ((body (F m) a0 aU a2 a3 a4 a5 eg eh ei a9 ej ek a12 el en eo fW ((hs m a0 aU a2 a3 a4 a5 eg eh ei a9 ej ek a12 el en eo fW).symm.trans h)).mono ?_)⟩
  intro eB u6 aP;cases eB with
  |normal=>obtain⟨a0,aU,a2,a3,a4,a5,eg,eh,ei,a9,ej,ek,a12,el,en,eo,fW,g1,g2⟩:=aP;exact⟨(a0,aU,a2,a3,a4,a5,eg,eh,ei,a9,ej,ek,a12,el,en,eo,fW),g1,g2⟩
  |exit i=>exact aP
  |ret=>exact aP
  |bb x=>exact aP
end
end Go.Ab.Y.T
namespace Go.Ab.Y
open Go Go.Ab Go.Proofs
def yu(n:Nat)(s:ahs):Option ahs:=av (decide (s.length≤281474976710656))<|some s
def CQ(n:Nat)(s:ahs)(c:Int):Option Int:=some (Lib.indexByte s c.toNat.toUInt8)
def yv(n:Nat)(s:ahs):Option Int:=av (decide (s.length≤140737488351232))<|some (oN s)
def LU(s:ahs):Int ⊕ Int:=
 match Lib.parseIntB 64 s with
 |.ok v=>.inl v
 |.range=>.inr (Lib.intSat 64 s)
 |_=>.inr 0
def CR(n:Nat)(s:ahs)(base:Int)(yw:Int):Option (Int ⊕ Int):=
 av (decide (base=10∧yw=64∧s.length≤281474976710656))<|some (LU s)
def CS(n:Nat)(i:Int)(base:Int):Option ahs:=av (decide (base=10 ∧ -9223372036854775808≤i∧i≤9223372036854775807))<|some (Lib.itoa i)
def CT(n:Nat)(elems:List ahs)(sep:ahs):Option ahs:=av (decide (elems.length≤140737488355328∧(Lib.join elems sep).length≤140737488355328))<|some (Lib.join elems sep)
open Go Go.Ab Go.Proofs
def Zg{n:Nat}{s:ahs}{r:ahs}(h:yu n s=some r):fP Tryz.prog 369 [.v (.str s)] [] [] (.ret (.v (.str r)) none) []:=by
 unfold yu at h;obtain⟨g,h⟩:=oI h;obtain rfl:=Option.some.inj h;refine q3 (fd:=Tryz.f369) Tryz.func369 rfl rfl (vsOf:=λvs=>vs=[.string ⟨⟨s⟩⟩]) (λM β vs ag aj=>?_) (λvs w az hg=>?_)
 ·match vs,ag with
  |[v],_=>
   have:=ku (aj 0 v _ rfl rfl)
   rw [this]
 ·subst az;refine(Tryz.stringslite_Clone ⟨⟨s⟩⟩ w (show s.length≤281474976710656 from of_decide_eq_true g)).mono ?_
  rintro e w' ⟨rfl,hb⟩
  refine⟨_,rfl,λM β=>.v _ _ (.str _),λb a6 h=>?_,by rw [hb.os,hb.output]⟩
  rw [hb.block b (Array.getElem?_eq_some_iff.1 h).1];exact h
def Zh{n:Nat}{s:ahs}{c:Int}{r:Int}(h:CQ n s c=some r):fP Tryz.prog 395 [.v (.str s),.v (.int .u8 c)] [] [] (.ret (.v (.int .i64 r)) none) []:=by
 unfold CQ at h;obtain rfl:=Option.some.inj h;refine q3 (fd:=Tryz.f395) Tryz.func395 rfl rfl (vsOf:=λvs=>vs=[.string ⟨⟨s⟩⟩,.int .u8 c]) (λM β vs ag aj=>?_) (λvs w az hg=>?_)
 ·match vs,ag with
  |[v,u],_=>
   have ab:=ku (aj 0 v _ rfl rfl);have ah:=jZ (aj 1 u _ rfl rfl);rw [ab,ah]
 ·subst az;refine(Tryz.stringslite_IndexByte ⟨⟨s⟩⟩ c w).mono ?_
  rintro e w' ⟨rfl,rfl⟩
  exact⟨_,rfl,λM β=>.v _ _ (.int _ _),λb a6 h=>h,rfl⟩
def LV{n:Nat}{s:ahs}{r:Int}(h:yv n s=some r):fP Tryz.prog 244 [.v (.str s)] [] [] (.ret (.v (.int .i64 r)) none) []:=by
 unfold yv at h;obtain⟨g,h⟩:=oI h;obtain rfl:=Option.some.inj h;refine q3 (fd:=Tryz.f244) Tryz.func244 rfl rfl (vsOf:=λvs=>vs=[.string ⟨⟨s⟩⟩]) (λM β vs ag aj=>?_) (λvs w az hg=>?_)
 ·match vs,ag with
  |[v],_=>
   have:=ku (aj 0 v _ rfl rfl)
   rw [this]
 ·subst az;refine(YZ ⟨⟨s⟩⟩ w (show s.length≤140737488351232 from of_decide_eq_true g)).mono ?_
  rintro e w' ⟨rfl,pos,rfl⟩
  refine⟨_,rfl,λM β=>.v _ _ (.int _ _),λb a6 h=>?_,rfl⟩
  rw [World.iter,Go.RowKit.Below.heap_alloc w _ b (Array.getElem?_eq_some_iff.1 h).1];exact h
def Zi(w:World)(e:TypeId)(t:ByteArray):((Lib.bytesWorld w e t).os,(Lib.bytesWorld w e t).output)=(w.os,w.output):=by
 rw [(Lib.bytesWorld_below w e t).os,(Lib.bytesWorld_below w e t).output]
def CU:AJ Tryz.prog=[4,5]:=by kernel_rfl
def LW{n:Nat}{s:ahs}{base:Int}{yw:Int}{r:(Int ⊕ Int)}(h:CR n s base yw=some r):fP Tryz.prog 394 [.v (.str s),.v (.int .i64 base),.v (.int .i64 yw)] [] [] (jb.on r (λLX=>.ret (.b_ [.v (.int .i64 LX),.v (.gM)]) none) (λLY=>.ret (.b_ [.v (.int .i64 LY),.v ((.iface 436 .any))]) none)) []:=by
 unfold CR at h;obtain⟨g,h⟩:=oI h;obtain rfl:=Option.some.inj h;obtain⟨rfl,rfl,ag⟩:=of_decide_eq_true g
 have fA:∀(M:Mem) (β:Nat→Option Nat) (vs:List Value),vs.length=3→(∀(i:Nat) v a,vs[i]? = some v→[D.v (.str s),.v (.int .i64 10),.v (.int .i64 64)][i]? = some a→ce M β v a)→vs=[.string ⟨⟨s⟩⟩,.int .i64 10,.int .i64 64]:=by
  intro M β vs ag aj
  match vs,ag with
  |[v,u,t],_=>
   have ab:=ku (aj 0 v _ rfl rfl);have ah:=jZ (aj 1 u _ rfl rfl);have ay:=jZ (aj 2 t _ rfl rfl);rw [ab,ah,ay]
 unfold LU;rcases hp:Lib.parseIntB 64 s with v|_|_
 ·
   refine q3 (fd:=Tryz.f394) Tryz.func394 rfl rfl (vsOf:=λvs=>vs=[.string ⟨⟨s⟩⟩,.int .i64 10,.int .i64 64]) (λM β vs ag aj=>fA M β vs ag aj) (λvs w az hg=>?_)
   subst az;refine(Tryz.strconv_ParseInt_10_at64_ok ⟨⟨s⟩⟩ (show s.length≤9223372036854775806 by omega) v hp w).mono ?_
   rintro e w' ⟨rfl,hw⟩
   refine⟨_,rfl,λM β=>.b_ [_,_] _ rfl λi v c hi hc=>?_,λb a6 h=>?_,by rcases hw with rfl|⟨t,rfl⟩;rfl;exact Zi _ _ _⟩
   ·match i with
    | 0=>cases hi;cases hc;exact .v _ _ (.int _ _)
    | 1=>cases hi;cases hc;exact .v _ _ .gM
    |i+2=>simp at hi
   ·rcases hw with rfl|⟨t,rfl⟩
    ·exact h
    ·rw [Lib.bytesWorld_at_old _ _ _ _ (Array.getElem?_eq_some_iff.1 h).1];exact h
 ·
   refine q3 (fd:=Tryz.f394) Tryz.func394 rfl rfl (vsOf:=λvs=>vs=[.string ⟨⟨s⟩⟩,.int .i64 10,.int .i64 64]) (λM β vs ag aj=>fA M β vs ag aj) (λvs w az hg=>?_)
   subst az;obtain⟨e_,ab,ah⟩:=hg.1 4 (by rw [CU];simp)
   refine(Tryz.strconv_ParseInt_10_at64_syntax ⟨⟨s⟩⟩ ag (by constructor;intro v;rw [show Lib.parseIntB 64 (⟨⟨s⟩⟩:ByteArray).data.toList=_ from hp];intro e;cases e;rw [show Lib.parseIntB 64 (⟨⟨s⟩⟩:ByteArray).data.toList=_ from hp];intro e;cases e) e_ w ab ah).mono ?_
   rintro e w' ⟨N,rfl,cw,gH,hb⟩
   refine⟨_,rfl,λM β=>.b_ [_,_] _ rfl λi v c hi hc=>?_,λb a6 h=>?_,by rw [hb.os,hb.output]⟩
   ·match i with
    | 0=>cases hi;cases hc;exact .v _ _ (.int _ _)
    | 1=>cases hi;cases hc;exact .v _ _ (.iface _ _ _ (.any _ rfl))
    |i+2=>simp at hi
   ·rw [hb.block b (Array.getElem?_eq_some_iff.1 h).1];exact h
 ·
   refine q3 (fd:=Tryz.f394) Tryz.func394 rfl rfl (vsOf:=λvs=>vs=[.string ⟨⟨s⟩⟩,.int .i64 10,.int .i64 64]) (λM β vs ag aj=>fA M β vs ag aj) (λvs w az hg=>?_)
   subst az;obtain⟨e_,ab,ah⟩:=hg.1 5 (by rw [CU];simp)
   refine(Tryz.strconv_ParseInt_10_at64_range ⟨⟨s⟩⟩ ag hp e_ w ab ah).mono ?_
   rintro e w' ⟨N,rfl,cw,gH,hb⟩
   refine⟨_,rfl,λM β=>.b_ [_,_] _ rfl λi v c hi hc=>?_,λb a6 h=>?_,by rw [hb.os,hb.output]⟩
   ·match i with
    | 0=>cases hi;cases hc;exact .v _ _ (.int _ _)
    | 1=>cases hi;cases hc;exact .v _ _ (.iface _ _ _ (.any _ rfl))
    |i+2=>simp at hi
   ·rw [hb.block b (Array.getElem?_eq_some_iff.1 h).1];exact h
def yx : Tryz.prog.globalNamed "internal/strconv.uint64pow10" = some 1 := by kernel_rfl
def LZ:(Lib.pow10Tab.map λz=>Value.int .u64 z).toArray=AK:=by kernel_rfl
def Zj {w : World} (h : x9 Tryz.prog w) : Lib.TabIs Tryz.prog w "internal/strconv.uint64pow10" .u64 Lib.pow10Tab := by
 obtain⟨t,iW,ab⟩:=h.2 1 yx;unfold Lib.TabIs World.var?;rw [yx,Option.bind_some,ab,LZ]
def Zk{n:Nat}{i:Int}{base:Int}{r:ahs}(h:CS n i base=some r):fP Tryz.prog 365 [.v (.int .i64 i),.v (.int .i64 base)] [] [] (.ret (.v (.str r)) none) []:=by
 unfold CS at h;obtain⟨g,h⟩:=oI h;obtain rfl:=Option.some.inj h;obtain⟨rfl,h0,ab⟩:=of_decide_eq_true g;refine q3 (fd:=Tryz.f365) Tryz.func365 rfl rfl (vsOf:=λvs=>vs=[.int .i64 i,.int .i64 10]) (λM β vs ag aj=>?_) (λvs w az hg=>?_)
 ·match vs,ag with
  |[v,u],_=>
   have g1:=jZ (aj 0 v _ rfl rfl);have g2:=jZ (aj 1 u _ rfl rfl);rw [g1,g2]
 ·subst az;refine(Tryz.strconv_FormatInt_10 i h0 ab w (Zj hg)).mono ?_
  rintro e w' ⟨rfl,k,os,rfl⟩
  exact⟨_,rfl,λM β=>.v _ _ (.str _),λb a6 h=>(Lib.heap_grow_old w k os b (Array.getElem?_eq_some_iff.1 h).1).trans h,rfl⟩
def L0{b:List Int}(g:(oK b&&decide (b.length≤9223372036854775807))=true):b.length=(jS b).length∧∀i,i<(jS b).length→(λi=>cA (b.getD i default)) i = .int .u8 (((jS b).getD i 0).toNat:Int):=by
 simp only [Bool.and_eq_true]at g;obtain⟨ab,ah⟩:=uT g.1;exact⟨ab.symm,λi hi=>ah i (by omega)⟩
def L1{b:List Int}(g:(oK b&&decide (b.length≤9223372036854775807))=true):(jS b).length≤9223372036854775807:=by
 simp only [Bool.and_eq_true,decide_eq_true_eq]at g;rw [(uT g.1).1];exact g.2
def CV:Go.Proofs.Builder.Extra Tryz.prog Tryz.Lw where
 sizeBuilder:=by kernel_rfl
 liesBuilder:=by kernel_rfl
 t5:=Tryz.underlying5
 a5:=Tryz.isAgg5
 z5:=Tryz.sizeOf5
 v5:=Tryz.zeroValue5
 infoByte:=by kernel_rfl
 cellsByte:=by kernel_rfl
 sizeByte:=by kernel_rfl
 neB5:=by decide
def L2{n:Nat}{elems:List ahs}{sep:ahs}{r:ahs}(h:CT n elems sep=some r):fP Tryz.prog 196 [.v (ad 1 ba elems),.v (.str sep)] [] [] (.ret (.v (.str r)) none) []:=by
 unfold CT at h;obtain⟨g,h⟩:=oI h;obtain rfl:=Option.some.inj h;obtain⟨cw,kV⟩:=of_decide_eq_true g
 have L3:(elems.map λs=>(⟨⟨s⟩⟩:ByteArray)).map (·.data.toList)=elems:=by
  rw [List.map_map];conv=>rhs;rw [←List.map_id elems]
  rfl
 refine K0 (fd:=Tryz.f196) Tryz.func196 rfl rfl (vsOf:=λw vs=>(∃a,vs=[.slice a 0 0,.string ⟨⟨sep⟩⟩]∧elems=[])∨∃sT o c,vs=[.slice (some ⟨sT,o,none⟩) elems.length c,.string ⟨⟨sep⟩⟩]∧elems.length≤c∧∀(j:Nat) x,elems[j]? = some x→w.cell? ⟨sT,o+j,none⟩=some (.string ⟨⟨x⟩⟩)) (λw M β vs hm ag aj=>?_) (λvs w az hg=>?_)
 ·match vs,ag with
  |[v,u],_=>
   have g2:=ku (aj 1 u _ rfl rfl);have g1:=aj 0 v _ rfl rfl;rw [g2];rcases ph (k:=1) (n:=elems.length) (get:=λi=>ba (elems.getD i default)) g1 with⟨ab,ah⟩|⟨b,off,cap,val,ab,hc,hk,cP,fL,fi⟩
   ·rcases ab with ab|⟨a,ab⟩
    ·exact .inl ⟨none,by rw [ab],List.eq_nil_of_length_eq_zero ah⟩
    ·exact .inl ⟨some a,by rw [ab],List.eq_nil_of_length_eq_zero ah⟩
   ·refine .inr ⟨b,off,cap,by rw [ab],hc,λj x hx=>?_⟩
    have hj:j<elems.length:=(List.getElem?_eq_some_iff.1 hx).1;have e1:=hm _ _ _ (cP j 0 hj (by omega))
    have e2:=fi j 0 (.str x) hj (by
     have:elems.getD j default=x:=by simp [List.getD,hx]
     rw [this];rfl)
    rw [show off+j*1+0=off+j by omega]at e1
    rw [e1];generalize val j 0=y at e2 ⊢
    cases e2;rfl
 ·rcases az with⟨a,rfl,rfl⟩|⟨sT,o,c,rfl,hc,mV⟩
  ·refine(Any.strings_Join_none Tryz.CJ CV a 0 ⟨⟨sep⟩⟩ w).mono ?_
   rintro e w' ⟨rfl,rfl⟩
   exact⟨_,rfl,λM β=>.v _ _ (.str _),λb a6 h=>h,rfl⟩
  ·cases elems with
   |nil=>
    refine(Any.strings_Join_none Tryz.CJ CV (some ⟨sT,o,none⟩) c ⟨⟨sep⟩⟩ w).mono ?_
    rintro e w' ⟨rfl,rfl⟩
    exact⟨_,rfl,λM β=>.v _ _ (.str _),λb a6 h=>h,rfl⟩
   |cons mg Zl=>
    have Zm:sT<w.heap.size:=lt_of_cell (mV 0 mg rfl)
    have hj:=Any.strings_Join Tryz.CJ CV sT o c ((mg::Zl).map λs=>(⟨⟨s⟩⟩:ByteArray)) ⟨⟨sep⟩⟩ w (λj x hx=>by
     rw [List.getElem?_map,Option.map_eq_some_iff]at hx;obtain⟨y,b1,rfl⟩:=hx;exact mV j y b1) Zm (by simpa using cw) (by simpa using hc) (by rw [L3];exact kV)
    rw [List.length_map]at hj;refine hj.mono ?_
    rintro e w' ⟨rfl,hb⟩
    refine⟨_,rfl,λM β=>?_,λb a6 h=>?_,by rw [hb.os,hb.output]⟩
    ·rw [L3];exact .v _ _ (.str _)
    ·rw [hb.block b (Array.getElem?_eq_some_iff.1 h).1];exact h
end Go.Ab.Y
namespace Go.Ab.Y
open Go Go.Ab Go.Proofs T
abbrev ahz{ρ:Type}(i:FuncId)(a:List D)(F:Option ρ)(o:ρ→Out):Prop:=aK i a [] [] F o λ_=>[]
abbrev ahA(i:FuncId)(a:List D)(F:Option Bool):Prop:=ahz i a F λr=>aL (b6 r)
abbrev ahB(i:FuncId)(a:List D)(F:Option Int):Prop:=ahz i a F λr=>aL (bc r)
end Go.Ab.Y

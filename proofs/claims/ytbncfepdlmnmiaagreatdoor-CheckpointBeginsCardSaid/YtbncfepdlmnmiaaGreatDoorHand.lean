/- The types of this claim, and the contracts that were written by hand. -/
import Derived.Test.YtbncfepdlmnmiaaGreatDoorProg
import Derived.WalkKit
import Derived.Lib.Builder
import Derived.Lib.UnsafeStr
import Derived.Laws.Externs
import Derived.Shelf.RegionOpenPlain
import Derived.Lib.Join
import Derived.Lib.Bytealg
import Derived.Lib.ItoaNum
import Derived.Lib.ParseIntBCases
import Derived.Lib.AppendIntMem
import Derived.Lib.AtoiErrMem
import Derived.Test.YtbncfepdlmnmiaaGreatDoorShelf
set_option linter.all false
namespace Go.Ab
abbrev av5(x:Int):Int:=IntKind.i64.wrap x
abbrev av6{α:Type}[Inhabited α](l:List α)(i:Int):α:=l.getD i.toNat default
abbrev av7:=Option Bool
abbrev av8:=Option Int
abbrev V.av9(x:Int):V:=.int .i64 x
end Go.Ab
namespace Go.Ab.Y
open Go Go.Proofs
def fS(c:UInt8):Bool:=decide ((97≤c.toNat∧c.toNat≤122)∨(48≤c.toNat∧c.toNat≤57)∨c.toNat=95)
def hH(s:av3):Nat:=(s.takeWhile fS).length
def Pc{s:av3}{k:Nat}(hk:k≤s.length)(h:∀(j:Nat) c,j<k→s[j]? = some c→fS c=true)(he:∀c,s[k]? = some c→fS c=false):hH s=k:=by
 unfold hH;induction s generalizing k with
 |nil=>simp at hk ⊢;omega
 |cons c s aJ=>
  cases k with
  |zero=>
   have:=he c rfl
   simp [List.takeWhile,this]
  |succ k=>
   have h0:=h 0 c (by omega) rfl
   simp only [List.takeWhile,h0,List.length_cons];rw [aJ (by simpa using hk) (λj c hj hc=>h (j+1) c (by omega) (by simpa using hc)) (λc hc=>he c (by simpa using hc))]
def Pd(s:ByteArray)(k:Nat)(h:k<s.size):s.data.toList[k]? = some (s[k]'h):=by
 have:k<s.data.toList.length:=by simpa using h
 rw [List.getElem?_eq_getElem this];rfl
def HB(s:ByteArray)(k:Nat):Prop:=∀(j:Nat) c,j<k→s.data.toList[j]? = some c→fS c=true
def HB.succ{s:ByteArray}{k:Nat}(h:HB s k)(hk:k<s.size)(hc:fS (s[k]'hk)=true):HB s (k+1):=by
 intro j c hj kj;by_cases e:j=k
 ·subst e;rw [Pd s j hk]at kj;cases kj;exact hc
 ·exact h j c (by omega) kj
set_option maxRecDepth 100000 in
def ajA(s:ByteArray)(w:World)(hs:s.size≤140737488351232):
 Calls Tryz.prog 244 #[.string s] w λe w'=>e = .returned (.int .i64 (hH s.data.toList))∧∃pos,w'=w.iter s pos:=by
 go_enter Tryz.func244,Tryz.ntmps244
 go_wp2
 go_loopw [] (λw'=>∃k:Nat,w'=w.iter s k∧k≤s.size∧HB s k) (λw'=>s.size-w'.iterPos w.heap.size)
 case atStart=>exact⟨0,rfl,by omega,λj c hj=>by omega⟩
 case round=>
  obtain⟨k,rfl,hk,hin⟩:=hrel;by_cases hp:k<s.size
  ·by_cases ha:(s[k]'hp).toNat<128
   ·have hnx:∀ty,(Instr.next (.pointer (some ⟨w.heap.size,0,none⟩)) true ty).run Tryz.prog (w.iter s k)=_:=λty=>run_next_ascii w s k ty hp ha
    cases hw:fS (s[k]'hp)
    ·have hlen:=Pc (s:=s.data.toList) (k:=k) (by simpa using hk) hin (λc hc=>by rw [Pd s k hp]at hc;cases hc;exact hw)
     have hc:=of_decide_eq_false hw;clear hw
     go_wp2
     all_goals first
      |(exfalso;simp at *;omega)
      |(go_ret;exact⟨by first |rfl |(rw [hlen];rfl),_,rfl⟩)
    ·have hc:=of_decide_eq_true hw;have hin2:=hin.succ hp hw;clear hw hin
     go_wp2
     all_goals first
      |(exfalso;simp at *;omega)
      |(
       go_roundw
       case rel=>exact⟨k+1,rfl,hp,hin2⟩
       case measure=>simp;omega)
   ·have hnx:∀ty,(Instr.next (.pointer (some ⟨w.heap.size,0,none⟩)) true ty).run Tryz.prog (w.iter s k)=_:=λty=>run_next_any w s k ty hp
    have hd:=(decode_high s k hp (by omega)).1
    have hle:=decode_le s k
    have hlen:=Pc (s:=s.data.toList) (k:=k) (by simpa using hk) hin (λc hc=>by
     rw [Pd s k hp]at hc;cases hc;exact decide_eq_false (by omega))
    generalize Utf8.decode s k=d at hnx hd hle
    go_wp2
    all_goals first
     |(exfalso;simp at *;omega)
     |(go_ret;exact⟨by first |rfl |(rw [hlen];rfl),_,rfl⟩)
  ·have hnx:∀ty,(Instr.next (.pointer (some ⟨w.heap.size,0,none⟩)) true ty).run Tryz.prog (w.iter s k)=_:=λty=>run_next_end w s k ty hp
   have hlen:=Pc (s:=s.data.toList) (k:=k) (by simpa using hk) hin (λc hc=>by
    have:=(List.getElem?_eq_some_iff.1 hc).1
    simp at this;omega)
   obtain rfl:k=s.size:=by omega
   go_wp2
   go_ret
   exact⟨by first|rfl|(rw [hlen];rfl),_,rfl⟩
open Go Go.Proofs Go.RowKit
def Y2:(Tryz.prog.info? 106).map (·.size)=some 2:=by kernel_rfl
set_option maxHeartbeats 1000000 in
set_option maxRecDepth 100000 in
def Y3(b:Nat)(w:World)(h0:w.cell? ⟨b,0,none⟩=some (.pointer (some ⟨b,0,none⟩))):
 Calls Tryz.prog 104 #[.pointer (some ⟨b,0,none⟩)] w λe w'=>e = .returned (.tuple #[])∧w'=w:=by
 obtain⟨j,hj,_⟩:=Option.map_eq_some_iff.1 Y2
 go_enter Tryz.func104,Tryz.ntmps104
 go_wp2
 rw [Lib.run_neq_ptr_same w _ Tryz.underlying103 hj]
 go_wp2
 go_end0
 exact⟨rfl,rfl⟩
set_option maxHeartbeats 1000000 in
set_option maxRecDepth 100000 in
def Y4(b:Nat)(w:World)(T:TypeId)(k:Nat)(h0:w.cell? ⟨b,0,none⟩=some (.pointer none))(hsh:w.shape? b=some (T,k))(hk:0<k)(hlies:liesAt Tryz.prog Tryz.prog.depth T (k / Tryz.prog.cellsOf T) 0 106 1=true)(hfz:w.frozen? ⟨b,0,none⟩=false):
 Calls Tryz.prog 104 #[.pointer (some ⟨b,0,none⟩)] w λe w'=>e = .returned (.tuple #[])∧w'=w.setCell ⟨b,0,none⟩ (.pointer (some ⟨b,0,none⟩)):=by
 obtain⟨j,hj,hjs⟩:=Option.map_eq_some_iff.1 Y2
 go_enter Tryz.func104,Tryz.ntmps104
 go_wp2
 rw [Lib.run_to_unsafe w ⟨b,0,none⟩ Tryz.underlying103 Tryz.underlying213 hj (by rw [hjs];decide) hsh hk]
 simp only [Result.andThen];rw [Oper.upon_value]
 go_wp2
 rw [run_callFunc_extern Tryz.func158 (by kernel_rfl) (by kernel_rfl) (by kernel_rfl) (e:=Extern.AbiNoEscape.same) (by kernel_rfl)]
 rw [Lib.run_noEscape];simp only [Result.andThen];rw [Oper.upon_value]
 go_wp2
 rw [Lib.run_from_unsafe w ⟨b,0,none⟩ Tryz.underlying213 Tryz.underlying103 hj hsh hlies];simp only [Result.andThen];rw [Oper.upon_value]
 go_wp2
 go_end0
 exact⟨rfl,rfl⟩
def cellsByte:Tryz.prog.cellsOf 5=1:=by kernel_rfl
set_option maxHeartbeats 2000000 in
set_option maxRecDepth 100000 in
def Y5(b:Nat)(w:World)(h:w.cell? ⟨b,1,none⟩=some (.slice none 0 0)):
 Calls Tryz.prog 54 #[.pointer (some ⟨b,0,none⟩)] w λe w'=>e = .returned (.string ⟨#[]⟩)∧w'=w.drew:=by
 have hUS:(Builtin.unsafeString_ #[157,3] 9 #[.pointer none,.int .i64 0]).run Tryz.prog w.drew = .ok (.string .empty) w.drew:=Lib.run_unsafeString_none w.drew _ _ _ none;have c1:w.drew.cell? ⟨b,1,none⟩=some (.slice none 0 0):=h;have hSD:(Builtin.unsafeSliceData_ #[104] 157 #[.slice none 0 0]).run Tryz.prog w.drew = .ok (.pointer none) w.drew:=rfl;have mixed:Tryz.prog.follows .mixedOrders=true:=by kernel_rfl
 go_enter Tryz.func54,Tryz.ntmps54
 go_wp2
 go_region_o
 all_goals (go_wp2;go_ret;exact⟨rfl,rfl⟩)
set_option maxHeartbeats 2000000 in
set_option maxRecDepth 100000 in
def Y6(b g cap:Nat)(w:World)(hc0:cap≠0)(h:w.cell? ⟨b,1,none⟩=some (.slice (some ⟨g,0,none⟩) 0 cap)):
 Calls Tryz.prog 54 #[.pointer (some ⟨b,0,none⟩)] w λe w'=>e = .returned (.string ⟨#[]⟩)∧w'=w.drew:=by
 have hUS:(Builtin.unsafeString_ #[157,3] 9 #[.pointer (some ⟨g,0,none⟩),.int .i64 0]).run Tryz.prog w.drew = .ok (.string .empty) w.drew:=Lib.run_unsafeString_none w.drew _ _ _ _;have c1:w.drew.cell? ⟨b,1,none⟩=some (.slice (some ⟨g,0,none⟩) 0 cap):=h;have hSD:(Builtin.unsafeSliceData_ #[104] 157 #[.slice (some ⟨g,0,none⟩) 0 cap]).run Tryz.prog w.drew = .ok (.pointer (some ⟨g,0,none⟩)) w.drew:=Lib.run_unsafeSliceData_row _ _ _ _ _ _ hc0;clear hc0;have mixed:Tryz.prog.follows .mixedOrders=true:=by kernel_rfl
 go_enter Tryz.func54,Tryz.ntmps54
 go_wp2
 go_region_o
 all_goals (go_wp2;go_ret;exact⟨rfl,rfl⟩)
set_option maxHeartbeats 2000000 in
set_option maxRecDepth 100000 in
def Y7(b g:Nat)(w:World)(vs:List Value)(h:w.cell? ⟨b,1,none⟩=some (.slice (some ⟨g,0,none⟩) 0 0))(hb:b<w.heap.size)(hg:w.heap[g]? = some (.cells ⟨vs⟩ 5 (0,0))):
 Calls Tryz.prog 54 #[.pointer (some ⟨b,0,none⟩)] w λe w'=>e = .returned (.string ⟨#[]⟩)∧w'=(w.drew.alloc (.view ⟨g,0,none⟩ 5)):=by
 have hUS:∀(q:Option Addr) (W:World),(Builtin.unsafeString_ #[157,3] 9 #[.pointer q,.int .i64 0]).run Tryz.prog W = .ok (.string .empty) W:=λq W=>Lib.run_unsafeString_none W _ _ _ q
 have c1:w.drew.cell? ⟨b,1,none⟩=some (.slice (some ⟨g,0,none⟩) 0 0):=h
 have hSD:(Builtin.unsafeSliceData_ #[104] 157 #[.slice (some ⟨g,0,none⟩) 0 0]).run Tryz.prog w.drew = .ok (.pointer (some ⟨w.drew.heap.size,0,none⟩)) (w.drew.alloc (.view ⟨g,0,none⟩ 5)):=
  Lib.run_unsafeSliceData_zero w.drew _ _ 5 Tryz.underlying157 ⟨g,0,none⟩ 0 (5,vs.length) (by have hg':w.drew.heap[g]? = some (.cells ⟨vs⟩ 5 (0,0)):=hg;simp [World.shape?,hg'])
 have c2:(w.drew.alloc (.view ⟨g,0,none⟩ 5)).cell? ⟨b,1,none⟩=some (.slice (some ⟨g,0,none⟩) 0 0):=by
  unfold World.cell? at h ⊢;rw [show(w.drew.alloc (.view ⟨g,0,none⟩ 5)).heap[b]? = w.heap[b]? from Lib.alloc_old w.drew _ b hb];exact h
 have c3:(w.alloc (.view ⟨g,0,none⟩ 5)).drew.cell? ⟨b,1,none⟩=some (.slice (some ⟨g,0,none⟩) 0 0):=c2;have mixed:Tryz.prog.follows .mixedOrders=true:=by kernel_rfl
 go_enter Tryz.func54,Tryz.ntmps54
 go_wp2
 go_region_o
 all_goals (go_wp2;go_ret;exact⟨rfl,rfl⟩)
set_option maxHeartbeats 2000000 in
set_option maxRecDepth 100000 in
def Y8(b g cap:Nat)(w:World)(vs:List Value)(l:av3)(h0:l≠[])(h:w.cell? ⟨b,1,none⟩=some (.slice (some ⟨g,0,none⟩) l.length cap))(hg:w.heap[g]? = some (.cells ⟨vs⟩ 5 (0,0)))
 (hn:l.length≤cap) (hcap:cap≤vs.length) (h63:l.length≤9223372036854775807) (hc:∀(j:Nat) (x:UInt8),l[j]? = some x→vs[j]? = some (Value.int .u8 x.toNat)):
 Calls Tryz.prog 54 #[.pointer (some ⟨b,0,none⟩)] w λe w'=>e = .returned (.string ⟨l.toArray⟩)∧w'=w.drew.freeze ⟨g,0,none⟩ l.length:=by
 have hl0:l.length≠0:=by simpa using h0
 have c1:w.drew.cell? ⟨b,1,none⟩=some (.slice (some ⟨g,0,none⟩) l.length cap):=h;have hg':w.drew.heap[g]? = some (.cells ⟨vs⟩ 5 (0,0)):=hg;have hSD:(Builtin.unsafeSliceData_ #[104] 157 #[.slice (some ⟨g,0,none⟩) l.length cap]).run Tryz.prog w.drew = .ok (.pointer (some ⟨g,0,none⟩)) w.drew:=Lib.run_unsafeSliceData_row _ _ _ _ _ _ (by omega)
 have hUS:(Builtin.unsafeString_ #[157,3] 9 #[.pointer (some ⟨g,0,none⟩),.int .i64 l.length]).run Tryz.prog w.drew = .ok (.string ⟨l.toArray⟩) (w.drew.freeze ⟨g,0,none⟩ l.length):=
  Lib.run_unsafeString_row w.drew 157 3 9 5 Tryz.underlying157 cellsByte g vs.length (by simp [World.shape?,hg']) l h0 (by omega) h63 (λj x hx=>by
   have:=hc j x hx
   rw [show(⟨g,0,none⟩:Addr).add j=⟨g,j,none⟩by unfold Addr.add;split<;>simp_all,Go.Ab.cell_of_heap hg',this])
 have mixed:Tryz.prog.follows .mixedOrders=true:=by kernel_rfl
 go_enter Tryz.func54,Tryz.ntmps54
 go_wp2
 go_region_o
 all_goals (go_wp2;go_ret;exact⟨rfl,rfl⟩)
open Go Go.Ab Go.Proofs
abbrev auH(x:Int):V:=.int .i32 x
abbrev auI(x:Int):V:=.int .i64 x
abbrev auJ(x:Int):V:=.int .u32 x
abbrev auK(x:Int):V:=.int .u64 x
abbrev cU(x:Int):V:=.int .u8 x
def auL{α β dO:Type}{a:α}{f:α→dO}{g:β→dO}{r:dO}(h:iu.on (.inl a) f g=r):f a=r:=h
def auM{α β dO:Type}{b:β}{f:α→dO}{g:β→dO}{r:dO}(h:iu.on (.inr b) f g=r):g b=r:=h
abbrev auN(x:Bool):V:=.bool x
abbrev bf(x:av3):V:=.str x
structure bH where
 Kind:Int
 N:Int
 S:av3
instance:Inhabited bH:=⟨⟨0,0,[]⟩⟩
def eB(x:bH):V:=.agg [.int .i64 x.Kind,.int .i64 x.N,.str x.S]
structure Version where
 bN:Int
 bk:bH
instance:Inhabited Version:=⟨⟨0,default⟩⟩
def gQ(x:Version):V:=.agg [.int .i64 x.bN,.int .i64 x.bk.Kind,.int .i64 x.bk.N,.str x.bk.S]
structure Row where
 Key:av3
 bp:List Version
instance:Inhabited Row:=⟨⟨[],[]⟩⟩
def bO(x:Row):V:=.agg [.str x.Key,af 4 gQ x.bp]
structure aq where
 bx:Int
 br:Int
 Rows:List Row
instance:Inhabited aq:=⟨⟨0,0,[]⟩⟩
def ajB(x:aq):V:=.agg [.int .i64 x.bx,.int .i64 x.br,af 2 bO x.Rows]
structure Param where
 Name:av3
 fy:Int
instance:Inhabited Param:=⟨⟨[],0⟩⟩
def ej(x:Param):V:=.agg [.str x.Name,.int .i64 x.fy]
structure Expr where
 Op:Int
 N:Int
 S:av3
 ax:List Expr
instance:Inhabited Expr:=⟨⟨0,0,[],[]⟩⟩
mutual
def cc:Expr→V
 |⟨Op,N,S,ax⟩=>.agg [.int .i64 Op,.int .i64 N,.str S,.bM 4 ax.length λi=>(CV ax).getD i .gU]
def CV:List Expr→List V
 |[]=>[]
 |x::l=>cc x::CV l
end
def Y9:∀l:List Expr,CV l=l.map cc
 |[]=>rfl
 |x::l=>by rw [CV,Y9 l];rfl
def Y'(l:List Expr)(i:Nat)(h:i<l.length):(CV l).getD i .gU=cc (l.getD i default):=by
 rw [Y9];simp [List.getD,List.getElem?_eq_getElem h]
def Pe(x:Expr):kJ (cc x).cells [.int .i64 x.Op,.int .i64 x.N,.str x.S,af 4 cc x.ax]:=by
 cases x;exact .cons (ih _) (.cons (ih _) (.cons (ih _) (.cons (p1 λi hi=>Y' _ i hi) (kJ.nil))))
def CW(x:Expr):kJ [.int .i64 x.Op,.int .i64 x.N,.str x.S,af 4 cc x.ax] (cc x).cells:=by
 cases x;exact .cons (ih _) (.cons (ih _) (.cons (ih _) (.cons (p1 λi hi=>(Y' _ i hi).symm) (kJ.nil))))
def fT(x:Expr):hv (cc x) (.agg [.int .i64 x.Op,.int .i64 x.N,.str x.S,af 4 cc x.ax]):=by
 have h:=Pe x;cases x;exact X_ h
structure Stmt where
 Op:Int
 Name:av3
 Max:Int
 A:Expr
 B:Expr
 Body:List Stmt
 bB:List Stmt
instance:Inhabited Stmt:=⟨⟨0,[],0,default,default,[],[]⟩⟩
mutual
def b2:Stmt→V
 |⟨Op,Name,Max,A,B,Body,bB⟩=>.agg [.int .i64 Op,.str Name,.int .i64 Max,.int .i64 A.Op,.int .i64 A.N,.str A.S,af 4 cc A.ax,.int .i64 B.Op,.int .i64 B.N,.str B.S,af 4 cc B.ax,.bM 13 Body.length λi=>(yO Body).getD i .gU,.bM 13 bB.length λi=>(yO bB).getD i .gU]
def yO:List Stmt→List V
 |[]=>[]
 |x::l=>b2 x::yO l
end
def Y_:∀l:List Stmt,yO l=l.map b2
 |[]=>rfl
 |x::l=>by rw [yO,Y_ l];rfl
def HC(l:List Stmt)(i:Nat)(h:i<l.length):(yO l).getD i .gU=b2 (l.getD i default):=by
 rw [Y_];simp [List.getD,List.getElem?_eq_getElem h]
def ajC(x:Stmt):kJ (b2 x).cells [.int .i64 x.Op,.str x.Name,.int .i64 x.Max,.int .i64 x.A.Op,.int .i64 x.A.N,.str x.A.S,af 4 cc x.A.ax,.int .i64 x.B.Op,.int .i64 x.B.N,.str x.B.S,af 4 cc x.B.ax,af 13 b2 x.Body,af 13 b2 x.bB]:=by
 cases x;exact .cons (ih _) (.cons (ih _) (.cons (ih _) (.cons (ih _) (.cons (ih _) (.cons (ih _) (.cons (ih _) (.cons (ih _) (.cons (ih _) (.cons (ih _) (.cons (ih _) (.cons (p1 λi hi=>HC _ i hi) (.cons (p1 λi hi=>HC _ i hi) (kJ.nil)))))))))))))
def Za(x:Stmt):kJ [.int .i64 x.Op,.str x.Name,.int .i64 x.Max,.int .i64 x.A.Op,.int .i64 x.A.N,.str x.A.S,af 4 cc x.A.ax,.int .i64 x.B.Op,.int .i64 x.B.N,.str x.B.S,af 4 cc x.B.ax,af 13 b2 x.Body,af 13 b2 x.bB] (b2 x).cells:=by
 cases x;exact .cons (ih _) (.cons (ih _) (.cons (ih _) (.cons (ih _) (.cons (ih _) (.cons (ih _) (.cons (ih _) (.cons (ih _) (.cons (ih _) (.cons (ih _) (.cons (ih _) (.cons (p1 λi hi=>(HC _ i hi).symm) (.cons (p1 λi hi=>(HC _ i hi).symm) (kJ.nil)))))))))))))
def gY(x:Stmt):hv (b2 x) (.agg [.int .i64 x.Op,.str x.Name,.int .i64 x.Max,.int .i64 x.A.Op,.int .i64 x.A.N,.str x.A.S,af 4 cc x.A.ax,.int .i64 x.B.Op,.int .i64 x.B.N,.str x.B.S,af 4 cc x.B.ax,af 13 b2 x.Body,af 13 b2 x.bB]):=by
 have h:=ajC x;cases x;exact X_ h
structure bg where
 Name:av3
 Params:List Param
 Body:List Stmt
instance:Inhabited bg:=⟨⟨[],[],[]⟩⟩
def db(x:bg):V:=.agg [.str x.Name,af 2 ej x.Params,af 13 b2 x.Body]
structure Outcome where
 Status:Int
 Code:Int
 Out:List bH
instance:Inhabited Outcome:=⟨⟨0,0,[]⟩⟩
def ajD(x:Outcome):V:=.agg [.int .i64 x.Status,.int .i64 x.Code,af 3 eB x.Out]
structure e_ where
 Client:Int
 Seq:Int
 Outcome:Outcome
instance:Inhabited e_:=⟨⟨0,0,default⟩⟩
def iZ(x:e_):V:=.agg [.int .i64 x.Client,.int .i64 x.Seq,.int .i64 x.Outcome.Status,.int .i64 x.Outcome.Code,af 3 eB x.Outcome.Out]
structure b0 where
 Client:Int
 Next:Int
 b':List e_
instance:Inhabited b0:=⟨⟨0,0,[]⟩⟩
def c7(x:b0):V:=.agg [.int .i64 x.Client,.int .i64 x.Next,af 5 iZ x.b']
structure Part where
 Id:Int
 dR:av3
 Node:Int
 fH:Int
 dI:av3
instance:Inhabited Part:=⟨⟨0,[],0,0,[]⟩⟩
def cF(x:Part):V:=.agg [.int .i64 x.Id,.str x.dR,.int .i64 x.Node,.int .i64 x.fH,.str x.dI]
structure b8 where
 Version:Int
 aE:List Part
instance:Inhabited b8:=⟨⟨0,[]⟩⟩
def ajE(x:b8):V:=.agg [.int .i64 x.Version,af 5 cF x.aE]
structure bc where
 Key:av3
 Count:Int
instance:Inhabited bc:=⟨⟨[],0⟩⟩
def de(x:bc):V:=.agg [.str x.Key,.int .i64 x.Count]
structure fz where
 ek:Bool
 Reads:List av3
 cA:List av3
instance:Inhabited fz:=⟨⟨false,[],[]⟩⟩
def ajF(x:fz):V:=.agg [.bool x.ek,af 1 bf x.Reads,af 1 bf x.cA]
structure Request where
 Client:Int
 Seq:Int
 bg:av3
 ax:List bH
 eS:Bool
 bv:fz
instance:Inhabited Request:=⟨⟨0,0,[],[],false,default⟩⟩
def dn(x:Request):V:=.agg [.int .i64 x.Client,.int .i64 x.Seq,.str x.bg,af 3 eB x.ax,.bool x.eS,.bool x.bv.ek,af 1 bf x.bv.Reads,af 1 bf x.bv.cA]
structure bC where
 Pos:Int
 aq:aq
 bP:List bg
 bU:List b0
 Place:b8
 bc:List bc
 Queue:List Request
 cg:Int
instance:Inhabited bC:=⟨⟨0,default,[],[],default,[],[],0⟩⟩
def Zb(x:bC):V:=.agg [.int .i64 x.Pos,.int .i64 x.aq.bx,.int .i64 x.aq.br,af 2 bO x.aq.Rows,af 3 db x.bP,af 3 c7 x.bU,.int .i64 x.Place.Version,af 5 cF x.Place.aE,af 2 de x.bc,af 8 dn x.Queue,.int .u64 x.cg]
structure aU where
 Key:av3
 bk:bH
instance:Inhabited aU:=⟨⟨[],default⟩⟩
def cl(x:aU):V:=.agg [.str x.Key,.int .i64 x.bk.Kind,.int .i64 x.bk.N,.str x.bk.S]
structure gc where
 bN:Int
 Rest:bC
 Next:av3
 dI:Bool
 gd:List aU
 f9:List av3
instance:Inhabited gc:=⟨⟨0,default,[],false,[],[]⟩⟩
def auO(x:gc):V:=.agg [.int .i64 x.bN,.int .i64 x.Rest.Pos,.int .i64 x.Rest.aq.bx,.int .i64 x.Rest.aq.br,af 2 bO x.Rest.aq.Rows,af 3 db x.Rest.bP,af 3 c7 x.Rest.bU,.int .i64 x.Rest.Place.Version,af 5 cF x.Rest.Place.aE,af 2 de x.Rest.bc,af 8 dn x.Rest.Queue,.int .u64 x.Rest.cg,.str x.Next,.bool x.dI,af 4 cl x.gd,af 1 bf x.f9]
structure Zc where
 ajG:Bool
 cA:List aU
 N:Int
instance:Inhabited Zc:=⟨⟨false,[],0⟩⟩
def auP(x:Zc):V:=.agg [.bool x.ajG,af 4 cl x.cA,.int .i64 x.N]
structure Range where
 dR:av3
 pc:av3
instance:Inhabited Range:=⟨⟨[],[]⟩⟩
def auQ(x:Range):V:=.agg [.str x.dR,.str x.pc]
structure fv where
 s:av3
 at_:Int
 e:Int
instance:Inhabited fv:=⟨⟨[],0,0⟩⟩
def auR(x:fv):V:=.agg [.str x.s,.int .i64 x.at_,.int .i64 x.e]
structure pd where
 gp:bC
 Pf:List aU
 sources:List av3
instance:Inhabited pd:=⟨⟨default,[],[]⟩⟩
def auS(x:pd):V:=.agg [.int .i64 x.gp.Pos,.int .i64 x.gp.aq.bx,.int .i64 x.gp.aq.br,af 2 bO x.gp.aq.Rows,af 3 db x.gp.bP,af 3 c7 x.gp.bU,.int .i64 x.gp.Place.Version,af 5 cF x.gp.Place.aE,af 2 de x.gp.bc,af 8 dn x.gp.Queue,.int .u64 x.gp.cg,af 4 cl x.Pf,af 1 bf x.sources]
structure Token where
 Kind:Int
 Text:av3
 N:Int
 lJ:Int
instance:Inhabited Token:=⟨⟨0,[],0,0⟩⟩
def c'(x:Token):V:=.agg [.int .i64 x.Kind,.str x.Text,.int .i64 x.N,.int .i64 x.lJ]
structure cD where
 qa:Bool
 Stmt:Stmt
 CX:Int
 Expr:Expr
 ajH:Bool
instance:Inhabited cD:=⟨⟨false,default,0,default,false⟩⟩
def jq(x:cD):V:=.agg [.bool x.qa,.int .i64 x.Stmt.Op,.str x.Stmt.Name,.int .i64 x.Stmt.Max,.int .i64 x.Stmt.A.Op,.int .i64 x.Stmt.A.N,.str x.Stmt.A.S,af 4 cc x.Stmt.A.ax,.int .i64 x.Stmt.B.Op,.int .i64 x.Stmt.B.N,.str x.Stmt.B.S,af 4 cc x.Stmt.B.ax,af 13 b2 x.Stmt.Body,af 13 b2 x.Stmt.bB,.int .i64 x.CX,.int .i64 x.Expr.Op,.int .i64 x.Expr.N,.str x.Expr.S,af 4 cc x.Expr.ax,.bool x.ajH]
structure Zd where
 ajI:Int
 seq:Int
instance:Inhabited Zd:=⟨⟨0,0⟩⟩
def auT(x:Zd):V:=.agg [.int .i64 x.ajI,.int .i64 x.seq]
structure a7 where
 tokens:List Token
 at_:Int
instance:Inhabited a7:=⟨⟨[],0⟩⟩
def auU(x:a7):V:=.agg [af 4 c' x.tokens,.int .i64 x.at_]
structure Ze where
 line:Int
 code:Int
instance:Inhabited Ze:=⟨⟨0,0⟩⟩
def auV(x:Ze):V:=.agg [.int .i64 x.line,.int .i64 x.code]
structure k_ where
 name:Bool
 a:Bool
 b:Bool
 max:Bool
 body:Bool
 other:Bool
instance:Inhabited k_:=⟨⟨false,false,false,false,false,false⟩⟩
def auW(x:k_):V:=.agg [.bool x.name,.bool x.a,.bool x.b,.bool x.max,.bool x.body,.bool x.other]
structure la where
 s:av3
 at_:Int
 e:Int
instance:Inhabited la:=⟨⟨[],0,0⟩⟩
def auX(x:la):V:=.agg [.str x.s,.int .i64 x.at_,.int .i64 x.e]
structure pe where
 s:av3
 at_:Int
 e:Int
instance:Inhabited pe:=⟨⟨[],0,0⟩⟩
def auY(x:pe):V:=.agg [.str x.s,.int .i64 x.at_,.int .i64 x.e]
structure h4 where
 s:av3
 at_:Int
 e:Int
instance:Inhabited h4:=⟨⟨[],0,0⟩⟩
def auZ(x:h4):V:=.agg [.str x.s,.int .i64 x.at_,.int .i64 x.e]
abbrev ku:d9:=⟨.x5,1,8,[.iR],[]⟩
abbrev Pg:d9:=⟨.int .i64,1,8,[.int .i64 0],[]⟩
abbrev Zf:d9:=⟨.dN [(0,2,1),(1,3,1),(2,4,1),(3,6,1)],4,24,[.int .i64 0,.int .i64 0,.bool false,.int .u8 0],[]⟩
abbrev Ph:d9:=⟨.str,1,16,[.str ([]:av3)],[]⟩
abbrev Pi:d9:=⟨.int .u64,1,8,[.int .u64 0],[]⟩
abbrev Zg:d9:=⟨.dN [(0,9,1),(1,12,1)],2,24,[.str ([]:av3),.int .u64 0],[]⟩
abbrev pf:d9:=⟨.ptr,1,8,[.gU],[]⟩
abbrev Zh:d9:=⟨.dN [(0,2,1),(1,2,1),(2,22,1)],3,40,[.int .i64 0,.int .i64 0,af 2 bO ([]:List Row)],[]⟩
abbrev HD:d9:=⟨.dN [(0,9,1),(1,3,1),(2,41,1)],3,32,[.str ([]:av3),.int .i64 0,.int .i64 0],[]⟩
def tt:dD:=[
 (1,ku),
 (2,Pg),
 (3,Pg),
 (4,⟨.bool,1,1,[.bool false],[]⟩),
 (5,⟨.int .u8,1,1,[.int .u8 0],[]⟩),
 (6,⟨.int .u8,1,1,[.int .u8 0],[]⟩),
 (7,Zf),
 (8,Zf),
 (9,Ph),
 (10,Ph),
 (11,Ph),
 (12,Pi),
 (13,Zg),
 (14,Zg),
 (15,pf),
 (16,pf),
 (17,pf),
 (18,⟨.dN [(0,17,1)],1,8,[.gU],[]⟩),
 (19,⟨.dN [(0,17,1)],1,8,[.gU],[]⟩),
 (20,⟨.pL,1,16,[.jA],[]⟩),
 (21,⟨.int .i32,1,4,[.int .i32 0],[]⟩),
 (22,⟨.bM 92,1,24,[af 2 bO ([]:List Row)],[]⟩),
 (23,Zh),
 (24,Zh),
 (25,⟨.bM 73,1,24,[af 3 db ([]:List bg)],[]⟩),
 (26,⟨.bM 76,1,24,[af 3 c7 ([]:List b0)],[]⟩),
 (27,⟨.bM 148,1,24,[af 5 cF ([]:List Part)],[]⟩),
 (29,⟨.dN [(0,2,1),(1,27,1)],2,32,[.int .i64 0,af 5 cF ([]:List Part)],[]⟩),
 (30,⟨.bM 179,1,24,[af 2 de ([]:List bc)],[]⟩),
 (31,⟨.bM 82,1,24,[af 8 dn ([]:List Request)],[]⟩),
 (32,Pi),
 (34,⟨.dN [(0,2,1),(1,24,3),(4,25,1),(5,26,1),(6,29,2),(8,30,1),(9,31,1),(10,32,1)],11,184,[.int .i64 0,.int .i64 0,.int .i64 0,af 2 bO ([]:List Row),af 3 db ([]:List bg),af 3 c7 ([]:List b0),.int .i64 0,af 5 cF ([]:List Part),af 2 de ([]:List bc),af 8 dn ([]:List Request),.int .u64 0],[]⟩),
 (37,⟨.bM 87,1,24,[af 4 cl ([]:List aU)],[]⟩),
 (38,⟨.bM 9,1,24,[af 1 bf ([]:List av3)],[]⟩),
 (40,⟨.dN [(0,2,1),(1,34,11),(12,9,1),(13,4,1),(14,37,1),(15,38,1)],16,264,[.int .i64 0,.int .i64 0,.int .i64 0,.int .i64 0,af 2 bO ([]:List Row),af 3 db ([]:List bg),af 3 c7 ([]:List b0),.int .i64 0,af 5 cF ([]:List Part),af 2 de ([]:List bc),af 8 dn ([]:List Request),.int .u64 0,.str ([]:av3),.bool false,af 4 cl ([]:List aU),af 1 bf ([]:List av3)],[]⟩),
 (41,Pg),
 (59,ku),
 (70,⟨.bM 143,1,24,[af 2 ej ([]:List Param)],[]⟩),
 (71,⟨.bM 200,1,24,[af 13 b2 ([]:List Stmt)],[]⟩),
 (73,⟨.dN [(0,9,1),(1,70,1),(2,71,1)],3,64,[.str ([]:av3),af 2 ej ([]:List Param),af 13 b2 ([]:List Stmt)],[]⟩),
 (74,⟨.bM 232,1,24,[af 5 iZ ([]:List e_)],[]⟩),
 (76,⟨.dN [(0,3,1),(1,2,1),(2,74,1)],3,40,[.int .i64 0,.int .i64 0,af 5 iZ ([]:List e_)],[]⟩),
 (78,⟨.bM 85,1,24,[af 3 eB ([]:List bH)],[]⟩),
 (80,⟨.dN [(0,4,1),(1,38,1),(2,38,1)],3,56,[.bool false,af 1 bf ([]:List av3),af 1 bf ([]:List av3)],[]⟩),
 (82,⟨.dN [(0,3,1),(1,2,1),(2,9,1),(3,78,1),(4,4,1),(5,80,3)],8,120,[.int .i64 0,.int .i64 0,.str ([]:av3),af 3 eB ([]:List bH),.bool false,.bool false,af 1 bf ([]:List av3),af 1 bf ([]:List av3)],[]⟩),
 (85,⟨.dN [(0,3,1),(1,2,1),(2,9,1)],3,32,[.int .i64 0,.int .i64 0,.str ([]:av3)],[]⟩),
 (87,⟨.dN [(0,9,1),(1,85,3)],4,48,[.str ([]:av3),.int .i64 0,.int .i64 0,.str ([]:av3)],[]⟩),
 (90,⟨.bM 138,1,24,[af 4 gQ ([]:List Version)],[]⟩),
 (92,⟨.dN [(0,9,1),(1,90,1)],2,40,[.str ([]:av3),af 4 gQ ([]:List Version)],[]⟩),
 (94,⟨.dN [(0,9,1),(1,9,1)],2,32,[.str ([]:av3),.str ([]:av3)],[]⟩),
 (103,pf),
 (104,⟨.bM 5,1,24,[af 1 cU ([]:List Int)],[]⟩),
 (106,⟨.dN [(0,103,1),(1,104,1)],2,32,[.gU,af 1 cU ([]:List Int)],[(0,106)]⟩),
 (108,⟨.pL,1,16,[.jA],[]⟩),
 (117,ku),
 (133,ku),
 (138,⟨.dN [(0,2,1),(1,85,3)],4,40,[.int .i64 0,.int .i64 0,.int .i64 0,.str ([]:av3)],[]⟩),
 (143,⟨.dN [(0,9,1),(1,3,1)],2,24,[.str ([]:av3),.int .i64 0],[]⟩),
 (148,⟨.dN [(0,3,1),(1,9,1),(2,3,1),(3,3,1),(4,9,1)],5,56,[.int .i64 0,.str ([]:av3),.int .i64 0,.int .i64 0,.str ([]:av3)],[]⟩),
 (156,Pi),
 (157,pf),
 (159,ku),
 (161,ku),
 (163,ku),
 (167,ku),
 (169,ku),
 (173,ku),
 (179,⟨.dN [(0,9,1),(1,2,1)],2,24,[.str ([]:av3),.int .i64 0],[]⟩),
 (196,⟨.bM 198,1,24,[af 4 cc ([]:List Expr)],[]⟩),
 (198,⟨.dN [(0,3,1),(1,2,1),(2,9,1),(3,196,1)],4,56,[.int .i64 0,.int .i64 0,.str ([]:av3),af 4 cc ([]:List Expr)],[]⟩),
 (200,⟨.dN [(0,3,1),(1,9,1),(2,3,1),(3,198,4),(7,198,4),(11,71,1),(12,71,1)],13,192,[.int .i64 0,.str ([]:av3),.int .i64 0,.int .i64 0,.int .i64 0,.str ([]:av3),af 4 cc ([]:List Expr),.int .i64 0,.int .i64 0,.str ([]:av3),af 4 cc ([]:List Expr),af 13 b2 ([]:List Stmt),af 13 b2 ([]:List Stmt)],[]⟩),
 (202,pf),
 (204,HD),
 (206,⟨.dN [(0,34,11),(11,37,1),(12,38,1)],13,232,[.int .i64 0,.int .i64 0,.int .i64 0,af 2 bO ([]:List Row),af 3 db ([]:List bg),af 3 c7 ([]:List b0),.int .i64 0,af 5 cF ([]:List Part),af 2 de ([]:List bc),af 8 dn ([]:List Request),.int .u64 0,af 4 cl ([]:List aU),af 1 bf ([]:List av3)],[]⟩),
 (209,ku),
 (212,ku),
 (230,⟨.dN [(0,3,1),(1,3,1),(2,78,1)],3,40,[.int .i64 0,.int .i64 0,af 3 eB ([]:List bH)],[]⟩),
 (232,⟨.dN [(0,3,1),(1,2,1),(2,230,3)],5,56,[.int .i64 0,.int .i64 0,.int .i64 0,.int .i64 0,af 3 eB ([]:List bH)],[]⟩),
 (244,pf),
 (246,⟨.dN [(0,106,2),(2,3,1)],3,40,[.gU,af 1 cU ([]:List Int),.int .i64 0],[(0,106)]⟩),
 (251,⟨.dN [(0,161,1)],1,8,[.iR],[]⟩),
 (252,⟨.dN [(0,161,1)],1,8,[.iR],[]⟩),
 (254,⟨.dN [(0,163,1)],1,8,[.iR],[]⟩),
 (255,⟨.dN [(0,163,1)],1,8,[.iR],[]⟩),
 (257,ku),
 (259,⟨.dN [(0,257,1)],1,8,[.iR],[]⟩),
 (262,ku),
 (263,⟨.dN [(0,262,1)],1,8,[.iR],[]⟩),
 (264,⟨.dN [(0,262,1)],1,8,[.iR],[]⟩),
 (268,⟨.dN [(0,167,1)],1,8,[.iR],[]⟩),
 (270,⟨.dN [(0,169,1)],1,8,[.iR],[]⟩),
 (271,⟨.dN [(0,169,1)],1,8,[.iR],[]⟩),
 (274,⟨.dN [(0,173,1)],1,8,[.iR],[]⟩),
 (277,⟨.dN [(0,159,1)],1,8,[.iR],[]⟩),
 (292,⟨.bM 341,1,24,[af 4 c' ([]:List Token)],[]⟩),
 (301,⟨.bM 304,1,24,[af 20 jq ([]:List cD)],[]⟩),
 (304,⟨.dN [(0,4,1),(1,200,13),(14,3,1),(15,198,4),(19,4,1)],20,272,[.bool false,.int .i64 0,.str ([]:av3),.int .i64 0,.int .i64 0,.int .i64 0,.str ([]:av3),af 4 cc ([]:List Expr),.int .i64 0,.int .i64 0,.str ([]:av3),af 4 cc ([]:List Expr),af 13 b2 ([]:List Stmt),af 13 b2 ([]:List Stmt),.int .i64 0,.int .i64 0,.int .i64 0,.str ([]:av3),af 4 cc ([]:List Expr),.bool false],[]⟩),
 (315,⟨.dN [(0,3,1),(1,2,1)],2,16,[.int .i64 0,.int .i64 0],[]⟩),
 (316,ku),
 (317,ku),
 (319,ku),
 (320,ku),
 (323,ku),
 (327,pf),
 (329,HD),
 (331,pf),
 (333,HD),
 (337,pf),
 (339,ku),
 (341,⟨.dN [(0,3,1),(1,9,1),(2,2,1),(3,3,1)],4,40,[.int .i64 0,.str ([]:av3),.int .i64 0,.int .i64 0],[]⟩),
 (359,ku),
 (360,pf),
 (362,⟨.dN [(0,3,1),(1,319,1),(2,320,1)],3,24,[.int .i64 0,.iR,.iR],[]⟩),
 (365,⟨.dN [(0,4,1),(1,4,1),(2,4,1),(3,4,1),(4,4,1),(5,4,1)],6,6,[.bool false,.bool false,.bool false,.bool false,.bool false,.bool false],[]⟩),
 (372,pf),
 (374,HD),
 (379,⟨.dN [(0,3,1),(1,41,1)],2,16,[.int .i64 0,.int .i64 0],[]⟩),
 (382,⟨.dN [(0,292,1),(1,3,1)],2,32,[af 4 c' ([]:List Token),.int .i64 0],[]⟩)]
def ii:ff Tryz.prog tt=true:=by kernel_rfl
def CY:Tryz.prog.follows .mixedOrders=true:=by kernel_rfl
end Go.Ab.Y
namespace Go.Ab.Y.T
open Go Go.Ab Go.Proofs
structure aO(f:FuncId)(args:List D)(es:List (Nat×TypeId))(H:List (List aW)){ρ:Type}(F:Option ρ)(out:ρ→Out)(cH:ρ→List (List aW)):Prop where
 of:∀{r:ρ},F=some r→gX Tryz.prog f args es H (out r) (cH r)
def sF(E:Nat)(rs:List ResultVar){ρ:Type}(out:ρ→Out)(cH:ρ→List (List aW))(r:ρ):cq→aI→Prop:=sA tt E rs λo H'=>o=out r∧H'=cH r
def ij(s st:aI):Option aI:=(vk (s.env.map (·.1)) (s.H.map (·.1)) s.aY st.env st.H st.aY).map (fit s)
noncomputable abbrev iD(N:Nat)(ops:Array Oper)(rs:List fu)(st:aI):=wh (hO Tryz.prog) tt N ops.toList rs st
noncomputable abbrev HE(N:Nat)(ops:Array Oper)(rs:List (Nat×List fu))(st:aI):=Hl (hO Tryz.prog) tt N ops.toList (spread ops.toList.length 0 rs) st
noncomputable abbrev Zi(N:Nat)(ops:Array Oper)(gv:Nat)(rs:List (Nat×List fu))(st:aI):=CM (hO Tryz.prog) tt N ops.toList gv (st.aY+ops.toList.length) (spread ops.toList.length 0 rs) st
abbrev ae(x:Int):aW:=⟨.v (.int .i64 x),none⟩
abbrev dB(x:Bool):aW:=⟨.v (.bool x),none⟩
abbrev a8(x:av3):aW:=⟨.v (.str x),none⟩
abbrev az{α:Type}[Inhabited α](k:Nat)(e:α→V)(l:List α):aW:=⟨.v (af k e l),none⟩
abbrev a6(r o:Nat):aW:=⟨.ptr r o,none⟩
abbrev ge(x:V):aW:=⟨.v x,none⟩
abbrev bi(x:Int):D:=.v (.int .i64 x)
abbrev bV(x:Bool):D:=.v (.bool x)
abbrev cB(x:av3):D:=.v (.str x)
abbrev c8{α:Type}[Inhabited α](k:Nat)(e:α→V)(l:List α):D:=.v (af k e l)
abbrev aP(d:D):Out:=.ret d none
def ajJ(n:Nat):gV (n:Int) n=true:=ahj ⟨Int.natCast_nonneg n,Int.le_refl _⟩
abbrev ar:=all_nil
def ad{p:Prop}{l:List Prop}(h:p)(aa:k9 l):k9 (p::l):=⟨h,aa⟩
section
variable {N E:Nat} {st:aI} {Q:cq→aI→Prop} {next:aI→Prop} {x y:Code} {id i j:Nat} {ops:Array Oper}
def yP{x:V}(h:Q (.bl x) st):cq.then next Q (.bl x) st:=h
def bS(h:Q .normal st):cq.inBlock i Q (.exit i) st:=cq.air h
def yQ(h:Q (.exit j) st)(dk:Nat.beq j i=false:=by kernel_rfl):cq.inBlock i Q (.exit j) st:=cq.ais dk h
def ajK{x:V}(h:Q (.bl x) st):cq.inBlock i Q (.bl x) st:=h
def ao(h:be Tryz.prog N E x (cq.then (be Tryz.prog N E y Q) Q) st):be Tryz.prog N E (.seq x y) Q st:=be.seq h
def am(h:Q .normal st):be Tryz.prog N E .skip Q st:=be.skip h
def Zj{r:Nat}(h:Q .ret (CS r st)):O7 r Q .ret st:=h
def Zk(r:Nat)(h:be Tryz.prog N E x (O7 r Q) st):be Tryz.prog N E x Q st:=be.oX r h
def wq(pb:List Nat)(h:be Tryz.prog N E x Q {env:=forget pb st.env,H:=st.H,aY:=st.aY}):be Tryz.prog N E x Q st:=be.forget pb h
def ajL{l:Nat}(h:Q .normal st):be Tryz.prog N E (.label l) Q st:=be.label h
def bT(h:Q (.exit i) st):be Tryz.prog N E (.exit i) Q st:=be.exit h
def HF(h:Q .ret st):be Tryz.prog N E .ret Q st:=be.ret h
def ajM(h:be Tryz.prog N E x Q st):be Tryz.prog N E (.scope x) Q st:=be.scope h
def aK(h:be Tryz.prog N E x (cq.inBlock i Q) st):be Tryz.prog N E (.block i x) Q st:=be.block h
def fi(rs:List fu){ca:List Prop}(cz:k9 ca)(ee:Q .normal (jW (iD N ops rs st)))(ai:mA (iD N ops rs st)=some ca:=by kernel_rfl):be Tryz.prog N E (.region id ops false) Q st:=be.rg ii rs ai cz ee
def bz(ee:Q .normal (jW (iD N ops [] st)))(ai:mA (iD N ops [] st)=some []:=by kernel_rfl):be Tryz.prog N E (.region id ops false) Q st:=fi [] ar ee ai
def G(ee:be Tryz.prog N E y Q (jW (iD N ops [] st)))(ai:mA (iD N ops [] st)=some []:=by kernel_rfl):be Tryz.prog N E (.seq (.region id ops false) y) Q st:=ao (bz (Q:=cq.then (be Tryz.prog N E y Q) Q) ee ai)
def aN(rs:List fu){ca:List Prop}(cz:k9 ca)(ee:be Tryz.prog N E y Q (jW (iD N ops rs st)))(ai:mA (iD N ops rs st)=some ca:=by kernel_rfl):be Tryz.prog N E (.seq (.region id ops false) y) Q st:=ao (fi (Q:=cq.then (be Tryz.prog N E y Q) Q) rs cz ee ai)
section
variable {f:FuncId} {args:List D} {es:List (Nat×TypeId)} {H cH:List (List aW)} {out:Out}
def lK(p:gX Tryz.prog f args es H out cH)(ee:Q .normal (jW (iD N ops [bd p []] st)))(ai:mA (iD N ops [bd p []] st)=some [gX Tryz.prog f args es H out cH]:=by kernel_rfl):be Tryz.prog N E (.region id ops false) Q st:=fi [bd p []] (ad p ar) ee ai
def kM(p:gX Tryz.prog f args es H out cH)(ee:Q .normal (jW (iD N ops [bK p []] st)))(ai:mA (iD N ops [bK p []] st)=some [gX Tryz.prog f args es H out cH]:=by kernel_rfl):be Tryz.prog N E (.region id ops false) Q st:=fi [bK p []] (ad p ar) ee ai
def bI(p:gX Tryz.prog f args es H out cH)(ee:be Tryz.prog N E y Q (jW (iD N ops [bd p []] st)))(ai:mA (iD N ops [bd p []] st)=some [gX Tryz.prog f args es H out cH]:=by kernel_rfl):be Tryz.prog N E (.seq (.region id ops false) y) Q st:=aN [bd p []] (ad p ar) ee ai
def dp(p:gX Tryz.prog f args es H out cH)(ee:be Tryz.prog N E y Q (jW (iD N ops [bK p []] st)))(ai:mA (iD N ops [bK p []] st)=some [gX Tryz.prog f args es H out cH]:=by kernel_rfl):be Tryz.prog N E (.seq (.region id ops false) y) Q st:=aN [bK p []] (ad p ar) ee ai
end
def fU(rs:List (Nat×List fu)){ca:List Prop}(cz:k9 ca)(ee:Q .normal (jW (HE N ops rs st)))(ai:mA (HE N ops rs st)=some ca:=by kernel_rfl):be Tryz.prog N E (.region id ops true) Q st:=be.Hn ii CY rs ai cz ee
def cx(rs:List (Nat×List fu)){ca:List Prop}(cz:k9 ca)(ee:be Tryz.prog N E y Q (jW (HE N ops rs st)))(ai:mA (HE N ops rs st)=some ca:=by kernel_rfl):be Tryz.prog N E (.seq (.region id ops true) y) Q st:=ao (fU (Q:=cq.then (be Tryz.prog N E y Q) Q) rs cz ee ai)
def eh(x:V)(rs:List fu){ca:List Prop}(cz:k9 ca)(ee:Q (.bl x) (jW (iD N ops rs st)))(ai:OM (iD N ops rs st)=some (x,ca):=by kernel_rfl):be Tryz.prog N E (.region id ops false) Q st:=be.ON ii rs ai cz ee
def sG(gv:Nat)(x:V)(rs:List (Nat×List fu)){ca:List Prop}(cz:k9 ca)(ee:∀n,Q (.bl x) {env:=[],H:=OZ (Zi N ops gv rs st),aY:=n})(ai:OY (Zi N ops gv rs st)=some (x,ca):=by kernel_rfl):be Tryz.prog N E (.region id ops true) Q st:=be.ai7 ii CY gv rs ai cz ee
def C{α:Type}{b:Bool}{p q:Option α}{r:α}{c:Nat}(h:(bif b then p else q)=some r)(aF:p=some r→be Tryz.prog N E x Q st)(ba:q=some r→be Tryz.prog N E y Q st)(hc:(look st.env c).map (·.d)=some (.v (.bool b)):=by kernel_rfl):be Tryz.prog N E (.cond (.tmp c) x y) Q st:=be.OP h hc aF ba
def Zl{c:Nat}(aF:be Tryz.prog N E x Q st)(hc:(look st.env c).map (·.d)=some (.v (.bool true)):=by kernel_rfl):be Tryz.prog N E (.cond (.tmp c) x y) Q st:=be.Yw hc aF
def Zm{c:Nat}(ba:be Tryz.prog N E y Q st)(hc:(look st.env c).map (·.d)=some (.v (.bool false)):=by kernel_rfl):be Tryz.prog N E (.cond (.tmp c) x y) Q st:=be.OQ hc ba
section
variable {ρ:Type} {a r:ρ} {out:ρ→Out} {cH:ρ→List (List aW)} {rs:List ResultVar}
def Hi(h:some a=some r)(aa:leave tt E rs st=some (out a,cH a):=by kernel_rfl):sF E rs out cH r .ret st:=by
 obtain rfl:=Option.some.inj h;exact aiu aa
def ajN(HG:Nat)(h:some a=some r)(aa:sz tt E HG rs st=some (out a,cH a):=by kernel_rfl):sF E rs out cH r .ret st:=by
 obtain rfl:=Option.some.inj h;exact aiv aa
def bw{Q:cq→aI→Prop}(h:some a=some r)(au:sF E rs out cH r .ret st=Q .ret st:=by rfl)(aa:leave tt E rs st=some (out a,cH a):=by kernel_rfl):be Tryz.prog N E .ret Q st:=HF (au ▸ Hi h aa)
def ajO(HG:Nat){Q:cq→aI→Prop}(h:some a=some r)(au:sF E rs out cH r .ret st=Q .ret st:=by rfl)(aa:sz tt E HG rs st=some (out a,cH a):=by kernel_rfl):be Tryz.prog N E .ret Q st:=HF (au ▸ ajN HG h aa)
def bn{Q:cq→aI→Prop}{id:Nat}{ops:Array Oper}(h:some a=some r)(au:sF E rs out cH r .ret (jW (iD N ops [] st))=Q .ret (jW (iD N ops [] st)):=by rfl)(aa:leave tt E rs (jW (iD N ops [] st))=some (out a,cH a):=by kernel_rfl)(ai:mA (iD N ops [] st)=some []:=by kernel_rfl):be Tryz.prog N E (.seq (.region id ops false) .ret) Q st:=G (bw h au aa) ai
def aB{Q:cq→aI→Prop}{id:Nat}{ops:Array Oper}{b:Bool}{q:Option ρ}{c:Nat}{y:Code}(h:(bif b then some a else q)=some r)(ba:q=some r→be Tryz.prog N E y Q st)(au:sF E rs out cH r .ret (jW (iD N ops [] st))=Q .ret (jW (iD N ops [] st)):=by rfl)(aa:leave tt E rs (jW (iD N ops [] st))=some (out a,cH a):=by kernel_rfl)(ai:mA (iD N ops [] st)=some []:=by kernel_rfl)(hc:(look st.env c).map (·.d)=some (.v (.bool b)):=by kernel_rfl):be Tryz.prog N E (.cond (.tmp c) (.seq (.region id ops false) .ret) y) Q st:=C h (λh=>bn h au aa ai) ba hc
def kN(h:some a=some r)(aa:leave tt E rs st=some (out a,cH a):=by kernel_rfl):sF E rs out cH r .normal st:=by
 obtain rfl:=Option.some.inj h;exact Oy aa
def dJ{x:V}(h:some a=some r)(aa:(GY E st.H).map oq=some (cH a):=by kernel_rfl)(hx:out a = .bl x:=by kernel_rfl):sF E rs out cH r (.bl x) st:=by
 obtain rfl:=Option.some.inj h;show sA tt E rs _ _ _
 rw [hx];exact aiw aa
end
def aQ{f:FuncId}{fn:Func}{c:Code}{args:List D}{es:List (Nat×TypeId)}{H:List (List aW)}{ρ:Type}{F:Option ρ}{out:ρ→Out}{cH:ρ→List (List aW)}(ba:Tryz.prog.funcs[f]? = some fn)(hb:fn.body=some c)
 (h : ∀ {r : ρ}, F = some r → be Tryz.prog fn.ntmps H.length c (sF H.length fn.results.toList out cH r) { env := h3 args es, H := cY 0 H, aY := H.length }) (jS : decide (fn.name = "runtime.NumGoroutine") = false := by rfl) (ha : Nat.ble args.length fn.ntmps = true := by rfl) : aO f args es H F out cH :=
 ⟨λh0=>ait ii ba hb jS ha (h h0)⟩
end
section
variable {α β dO hP:Type} {p:Prop}
def da{q:Prop}(a:p)(k:p→q):q:=k a
def ug{Zn:Type}{X:Option Zn}(c:α ⊕ β→Zn){x:α ⊕ β}{f:α→Option dO}{g:β→Option dO}{r:dO}(q:X=some (c x))(h:iu.on x f g=some r)(dt:∀a,X=some (c (.inl a))→f a=some r→p)(ak:∀b,X=some (c (.inr b))→g b=some r→p):p:=
 match x,q,h with
 |.inl a,q,h=>dt a q h
 |.inr b,q,h=>ak b q h
def iE{r:α}(h:none=some r):p:=by cases h
def aA{b:Bool}{x:Option α}{r:α}(h:ay b x=some r)(k:b=true→x=some r→p):p:=k (sB h).1 (sB h).2
def al{x:Option α}{f:α→Option β}{r:β}(h:Option.bind x f=some r)(k:∀a,x=some a→f a=some r→p):p:=let ⟨a,Z,ab⟩:=bind_some h;k a Z ab
def dW{x:Option (aG α β)}{f:α→β→Option dO}{g:V→β→Option dO}{r:dO}(h:Option.bind x (λz=>aG.on z f g)=some r)(dt:∀a b,x=some (.ret a b)→f a b=some r→p)(ak:∀y b,x=some (.bl y b)→g y b=some r→p):p:=
 let ⟨z,Z,ab⟩:=bind_some h
 match z,Z,ab with
 |.ret a b,Z,ab=>dt a b Z ab
 |.bl y b,Z,ab=>ak y b Z ab
end
section
variable {ρ:Type} {r:ρ} {N E:Nat} {st:aI} {Q:cq→aI→Prop} {x y:Code}
def ct{cp:aI}{f:Option ρ}(h:f=some r)(ai:ij (cp) st=some (cp):=by kernel_rfl):ij (cp) st=some (cp)∧f=some r:=⟨ai,h⟩
def cE(cp:aI)(f:Option ρ)(Z:be Tryz.prog N E x (cq.then (λb9=>ij (cp) b9=some (cp)∧f=some r) Q) st)(ab:f=some r→be Tryz.prog N E y Q (cp))(b7:Nat.ble E (cp).aY=true:=by intros;kernel_rfl):be Tryz.prog N E (.seq x y) Q st:=
 be.cut _ Z λb9 ⟨ai,h⟩=>be.O9 _ _ _ _ ai (b7) (ab h)
end
section
variable {α:Type} {ρ:Type} {r:ρ} {N E:Nat} {st:aI} {Q:cq→aI→Prop} {x y:Code}
def a_{cp:α→aI}{f:α→Option ρ}{a0:_}(h:f a0=some r)(ai:ij (cp a0) st=some (cp a0):=by kernel_rfl):∃a0,ij (cp a0) st=some (cp a0)∧f a0=some r:=⟨a0,ai,h⟩
def dh(cp:α→aI)(f:α→Option ρ)(Z:be Tryz.prog N E x (cq.then (λb9=>∃a0,ij (cp a0) b9=some (cp a0)∧f a0=some r) Q) st)(ab:∀a0,f a0=some r→be Tryz.prog N E y Q (cp a0))(b7:∀a0,Nat.ble E (cp a0).aY=true:=by intros;kernel_rfl):be Tryz.prog N E (.seq x y) Q st:=
 be.cut _ Z λb9 ⟨a0,ai,h⟩=>be.O9 _ _ _ _ ai (b7 a0) (ab a0 h)
def dq(cp:α→aI)(F:Nat→α→Option ρ)(B:(α→Option ρ)→α→Option ρ){n:Nat}{a0:_}(h:F n a0=some r)(body:∀k a0,B k a0=some r→be Tryz.prog N E x (cq.then (λb9=>∃a0,ij (cp a0) b9=some (cp a0)∧k a0=some r) Q) (cp a0))(hi:ij (cp a0) st=some (cp a0):=by kernel_rfl)(b7:∀a0,Nat.ble E (cp a0).aY=true:=by intros;kernel_rfl)(h0:∀a0,F 0 a0=none:=by intros;rfl)(hs:∀m a0,F (m+1) a0=B (F m) a0:=by intros;rfl):be Tryz.prog N E (.loop x) Q st:=by
 refine be.loop (σ:=α) (λm (s:α) st=>ij (cp s) st=some (cp s)∧F m s=some r) ?_ (n:=n) (s:=a0) ⟨hi,h⟩
 rintro m a0 b9 ⟨ai,h⟩
 cases m with
 |zero=>have ab:=(h0 a0).symm.trans h;cases ab
 |succ m=>
  refine⟨m,rfl,be.O9 _ _ _ _ ai (b7 a0) ((body (F m) a0 ((hs m a0).symm.trans h)).mono ?_)⟩
  intro fA au0 au;cases fA with
  |normal=>obtain⟨a0,g1,g2⟩:=au;exact⟨a0,g1,g2⟩
  |exit i=>exact au
  |ret=>exact au
  |bl x=>exact au
end
def wu{Q:cq→aI→Prop}{A B:aI→Prop}(h:∀st,A st→B st):∀fA st,cq.then A Q fA st→cq.then B Q fA st:=λfA st au=>by cases fA<;>first|exact h _ au|exact au
section
variable {α β:Type} {ρ:Type} {r:ρ} {N E:Nat} {st:aI} {Q:cq→aI→Prop} {x y:Code}
def ea{cp:α→β→aI}{f:α→β→Option ρ}{a0 bb:_}(h:f a0 bb=some r)(ai:ij (cp a0 bb) st=some (cp a0 bb):=by kernel_rfl):∃a0 bb,ij (cp a0 bb) st=some (cp a0 bb)∧f a0 bb=some r:=⟨a0,bb,ai,h⟩
def nE(cp:α→β→aI)(f:α→β→Option ρ)(Z:be Tryz.prog N E x (cq.then (λb9=>∃a0 bb,ij (cp a0 bb) b9=some (cp a0 bb)∧f a0 bb=some r) Q) st)(ab:∀a0 bb,f a0 bb=some r→be Tryz.prog N E y Q (cp a0 bb))(b7:∀a0 bb,Nat.ble E (cp a0 bb).aY=true:=by intros;kernel_rfl):be Tryz.prog N E (.seq x y) Q st:=
 dh (λx:α×β=>cp x.1 x.2) (λx=>f x.1 x.2) (Z.mono (wu λ_ ⟨a0,bb,g⟩=>⟨(a0,bb),g⟩)) (λx=>ab x.1 x.2) λx=>b7 x.1 x.2
def gf(cp:α→β→aI)(F:Nat→α→β→Option ρ)(B:(α→β→Option ρ)→α→β→Option ρ){n:Nat}{a0 bb:_}(h:F n a0 bb=some r)(body:∀k a0 bb,B k a0 bb=some r→be Tryz.prog N E x (cq.then (λb9=>∃a0 bb,ij (cp a0 bb) b9=some (cp a0 bb)∧k a0 bb=some r) Q) (cp a0 bb))(hi:ij (cp a0 bb) st=some (cp a0 bb):=by kernel_rfl)(b7:∀a0 bb,Nat.ble E (cp a0 bb).aY=true:=by intros;kernel_rfl)(h0:∀a0 bb,F 0 a0 bb=none:=by intros;rfl)(hs:∀m a0 bb,F (m+1) a0 bb=B (F m) a0 bb:=by intros;rfl):be Tryz.prog N E (.loop x) Q st:=
 dq (λx:α×β=>cp x.1 x.2) (λm x=>F m x.1 x.2) (λk x=>B (λa0 bb=>k (a0,bb)) x.1 x.2) (a0:=(a0,bb)) h (λk x h=>(body (λa0 bb=>k (a0,bb)) x.1 x.2 h).mono (wu λ_ ⟨a0,bb,g⟩=>⟨(a0,bb),g⟩)) hi (λx=>b7 x.1 x.2) (λx=>h0 x.1 x.2) λm x=>hs m x.1 x.2
end
section
variable {α β dO:Type} {ρ:Type} {r:ρ} {N E:Nat} {st:aI} {Q:cq→aI→Prop} {x y:Code}
def iw{cp:α→β→dO→aI}{f:α→β→dO→Option ρ}{a0 bb a2:_}(h:f a0 bb a2=some r)(ai:ij (cp a0 bb a2) st=some (cp a0 bb a2):=by kernel_rfl):∃a0 bb a2,ij (cp a0 bb a2) st=some (cp a0 bb a2)∧f a0 bb a2=some r:=⟨a0,bb,a2,ai,h⟩
def rj(cp:α→β→dO→aI)(f:α→β→dO→Option ρ)(Z:be Tryz.prog N E x (cq.then (λb9=>∃a0 bb a2,ij (cp a0 bb a2) b9=some (cp a0 bb a2)∧f a0 bb a2=some r) Q) st)(ab:∀a0 bb a2,f a0 bb a2=some r→be Tryz.prog N E y Q (cp a0 bb a2))(b7:∀a0 bb a2,Nat.ble E (cp a0 bb a2).aY=true:=by intros;kernel_rfl):be Tryz.prog N E (.seq x y) Q st:=
 dh (λx:α×β×dO=>cp x.1 x.2.1 x.2.2) (λx=>f x.1 x.2.1 x.2.2) (Z.mono (wu λ_ ⟨a0,bb,a2,g⟩=>⟨(a0,bb,a2),g⟩)) (λx=>ab x.1 x.2.1 x.2.2) λx=>b7 x.1 x.2.1 x.2.2
def yR(cp:α→β→dO→aI)(F:Nat→α→β→dO→Option ρ)(B:(α→β→dO→Option ρ)→α→β→dO→Option ρ){n:Nat}{a0 bb a2:_}(h:F n a0 bb a2=some r)(body:∀k a0 bb a2,B k a0 bb a2=some r→be Tryz.prog N E x (cq.then (λb9=>∃a0 bb a2,ij (cp a0 bb a2) b9=some (cp a0 bb a2)∧k a0 bb a2=some r) Q) (cp a0 bb a2))(hi:ij (cp a0 bb a2) st=some (cp a0 bb a2):=by kernel_rfl)(b7:∀a0 bb a2,Nat.ble E (cp a0 bb a2).aY=true:=by intros;kernel_rfl)(h0:∀a0 bb a2,F 0 a0 bb a2=none:=by intros;rfl)(hs:∀m a0 bb a2,F (m+1) a0 bb a2=B (F m) a0 bb a2:=by intros;rfl):be Tryz.prog N E (.loop x) Q st:=
 dq (λx:α×β×dO=>cp x.1 x.2.1 x.2.2) (λm x=>F m x.1 x.2.1 x.2.2) (λk x=>B (λa0 bb a2=>k (a0,bb,a2)) x.1 x.2.1 x.2.2) (a0:=(a0,bb,a2)) h (λk x h=>(body (λa0 bb a2=>k (a0,bb,a2)) x.1 x.2.1 x.2.2 h).mono (wu λ_ ⟨a0,bb,a2,g⟩=>⟨(a0,bb,a2),g⟩)) hi (λx=>b7 x.1 x.2.1 x.2.2) (λx=>h0 x.1 x.2.1 x.2.2) λm x=>hs m x.1 x.2.1 x.2.2
end
section
variable {α β dO hP:Type} {ρ:Type} {r:ρ} {N E:Nat} {st:aI} {Q:cq→aI→Prop} {x y:Code}
def qb{cp:α→β→dO→hP→aI}{f:α→β→dO→hP→Option ρ}{a0 bb a2 a3:_}(h:f a0 bb a2 a3=some r)(ai:ij (cp a0 bb a2 a3) st=some (cp a0 bb a2 a3):=by kernel_rfl):∃a0 bb a2 a3,ij (cp a0 bb a2 a3) st=some (cp a0 bb a2 a3)∧f a0 bb a2 a3=some r:=⟨a0,bb,a2,a3,ai,h⟩
def ajP(cp:α→β→dO→hP→aI)(f:α→β→dO→hP→Option ρ)(Z:be Tryz.prog N E x (cq.then (λb9=>∃a0 bb a2 a3,ij (cp a0 bb a2 a3) b9=some (cp a0 bb a2 a3)∧f a0 bb a2 a3=some r) Q) st)(ab:∀a0 bb a2 a3,f a0 bb a2 a3=some r→be Tryz.prog N E y Q (cp a0 bb a2 a3))(b7:∀a0 bb a2 a3,Nat.ble E (cp a0 bb a2 a3).aY=true:=by intros;kernel_rfl):be Tryz.prog N E (.seq x y) Q st:=
 dh (λx:α×β×dO×hP=>cp x.1 x.2.1 x.2.2.1 x.2.2.2) (λx=>f x.1 x.2.1 x.2.2.1 x.2.2.2) (Z.mono (wu λ_ ⟨a0,bb,a2,a3,g⟩=>⟨(a0,bb,a2,a3),g⟩)) (λx=>ab x.1 x.2.1 x.2.2.1 x.2.2.2) λx=>b7 x.1 x.2.1 x.2.2.1 x.2.2.2
def sH(cp:α→β→dO→hP→aI)(F:Nat→α→β→dO→hP→Option ρ)(B:(α→β→dO→hP→Option ρ)→α→β→dO→hP→Option ρ){n:Nat}{a0 bb a2 a3:_}(h:F n a0 bb a2 a3=some r)(body:∀k a0 bb a2 a3,B k a0 bb a2 a3=some r→be Tryz.prog N E x (cq.then (λb9=>∃a0 bb a2 a3,ij (cp a0 bb a2 a3) b9=some (cp a0 bb a2 a3)∧k a0 bb a2 a3=some r) Q) (cp a0 bb a2 a3))(hi:ij (cp a0 bb a2 a3) st=some (cp a0 bb a2 a3):=by kernel_rfl)(b7:∀a0 bb a2 a3,Nat.ble E (cp a0 bb a2 a3).aY=true:=by intros;kernel_rfl)(h0:∀a0 bb a2 a3,F 0 a0 bb a2 a3=none:=by intros;rfl)(hs:∀m a0 bb a2 a3,F (m+1) a0 bb a2 a3=B (F m) a0 bb a2 a3:=by intros;rfl):be Tryz.prog N E (.loop x) Q st:=
 dq (λx:α×β×dO×hP=>cp x.1 x.2.1 x.2.2.1 x.2.2.2) (λm x=>F m x.1 x.2.1 x.2.2.1 x.2.2.2) (λk x=>B (λa0 bb a2 a3=>k (a0,bb,a2,a3)) x.1 x.2.1 x.2.2.1 x.2.2.2) (a0:=(a0,bb,a2,a3)) h (λk x h=>(body (λa0 bb a2 a3=>k (a0,bb,a2,a3)) x.1 x.2.1 x.2.2.1 x.2.2.2 h).mono (wu λ_ ⟨a0,bb,a2,a3,g⟩=>⟨(a0,bb,a2,a3),g⟩)) hi (λx=>b7 x.1 x.2.1 x.2.2.1 x.2.2.2) (λx=>h0 x.1 x.2.1 x.2.2.1 x.2.2.2) λm x=>hs m x.1 x.2.1 x.2.2.1 x.2.2.2
end
section
variable {α β dO hP uh:Type} {ρ:Type} {r:ρ} {N E:Nat} {st:aI} {Q:cq→aI→Prop} {x y:Code}
def ajQ{cp:α→β→dO→hP→uh→aI}{f:α→β→dO→hP→uh→Option ρ}{a0 bb a2 a3 a4:_}(h:f a0 bb a2 a3 a4=some r)(ai:ij (cp a0 bb a2 a3 a4) st=some (cp a0 bb a2 a3 a4):=by kernel_rfl):∃a0 bb a2 a3 a4,ij (cp a0 bb a2 a3 a4) st=some (cp a0 bb a2 a3 a4)∧f a0 bb a2 a3 a4=some r:=⟨a0,bb,a2,a3,a4,ai,h⟩
def ajR(cp:α→β→dO→hP→uh→aI)(F:Nat→α→β→dO→hP→uh→Option ρ)(B:(α→β→dO→hP→uh→Option ρ)→α→β→dO→hP→uh→Option ρ){n:Nat}{a0 bb a2 a3 a4:_}(h:F n a0 bb a2 a3 a4=some r)(body:∀k a0 bb a2 a3 a4,B k a0 bb a2 a3 a4=some r→be Tryz.prog N E x (cq.then (λb9=>∃a0 bb a2 a3 a4,ij (cp a0 bb a2 a3 a4) b9=some (cp a0 bb a2 a3 a4)∧k a0 bb a2 a3 a4=some r) Q) (cp a0 bb a2 a3 a4))(hi:ij (cp a0 bb a2 a3 a4) st=some (cp a0 bb a2 a3 a4):=by kernel_rfl)(b7:∀a0 bb a2 a3 a4,Nat.ble E (cp a0 bb a2 a3 a4).aY=true:=by intros;kernel_rfl)(h0:∀a0 bb a2 a3 a4,F 0 a0 bb a2 a3 a4=none:=by intros;rfl)(hs:∀m a0 bb a2 a3 a4,F (m+1) a0 bb a2 a3 a4=B (F m) a0 bb a2 a3 a4:=by intros;rfl):be Tryz.prog N E (.loop x) Q st:=
 dq (λx:α×β×dO×hP×uh=>cp x.1 x.2.1 x.2.2.1 x.2.2.2.1 x.2.2.2.2) (λm x=>F m x.1 x.2.1 x.2.2.1 x.2.2.2.1 x.2.2.2.2) (λk x=>B (λa0 bb a2 a3 a4=>k (a0,bb,a2,a3,a4)) x.1 x.2.1 x.2.2.1 x.2.2.2.1 x.2.2.2.2) (a0:=(a0,bb,a2,a3,a4)) h (λk x h=>(body (λa0 bb a2 a3 a4=>k (a0,bb,a2,a3,a4)) x.1 x.2.1 x.2.2.1 x.2.2.2.1 x.2.2.2.2 h).mono (wu λ_ ⟨a0,bb,a2,a3,a4,g⟩=>⟨(a0,bb,a2,a3,a4),g⟩)) hi (λx=>b7 x.1 x.2.1 x.2.2.1 x.2.2.2.1 x.2.2.2.2) (λx=>h0 x.1 x.2.1 x.2.2.1 x.2.2.2.1 x.2.2.2.2) λm x=>hs m x.1 x.2.1 x.2.2.1 x.2.2.2.1 x.2.2.2.2
end
section
variable {α β dO hP uh au1:Type} {ρ:Type} {r:ρ} {N E:Nat} {st:aI} {Q:cq→aI→Prop} {x y:Code}
end
end Go.Ab.Y.T
namespace Go.Ab.Y
open Go Go.Ab Go.Proofs
def HH(n:Nat)(s:av3):Option av3:=ay (decide (s.length≤281474976710656))<|some s
def HI(n:Nat)(s:av3)(c:Int):Option Int:=some (Lib.indexByte s c.toNat.toUInt8)
def yS(n:Nat)(s:av3):Option Int:=ay (decide (s.length≤140737488351232))<|some (hH s)
def CZ(s:av3):Int ⊕ Int:=
 match Lib.parseIntB 64 s with
 |.ok v=>.inl v
 |.range=>.inr (Lib.intSat 64 s)
 |_=>.inr 0
def yT(n:Nat)(s:av3)(base:Int)(HJ:Int):Option (Int ⊕ Int):=
 ay (decide (base=10∧HJ=64∧s.length≤281474976710656))<|some (CZ s)
def HK(n:Nat)(i:Int)(base:Int):Option av3:=ay (decide (base=10 ∧ -9223372036854775808≤i∧i≤9223372036854775807))<|some (Lib.itoa i)
def HL(n:Nat)(elems:List av3)(sep:av3):Option av3:=ay (decide (elems.length≤140737488355328∧(Lib.join elems sep).length≤140737488355328))<|some (Lib.join elems sep)
open Go Go.Ab Go.Proofs
def ajS{n:Nat}{s:av3}{r:av3}(h:HH n s=some r):gX Tryz.prog 369 [.v (.str s)] [] [] (.ret (.v (.str r)) none) []:=by
 unfold HH at h;obtain⟨g,h⟩:=sB h;obtain rfl:=Option.some.inj h;refine wg (fd:=Tryz.f369) Tryz.func369 rfl rfl (vsOf:=λvs=>vs=[.string ⟨⟨s⟩⟩]) (λM β vs aa ai=>?_) (λvs w av hg=>?_)
 ·match vs,aa with
  |[v],_=>
   have:=m4 (ai 0 v _ rfl rfl)
   rw [this]
 ·subst av;refine(Tryz.stringslite_Clone ⟨⟨s⟩⟩ w (show s.length≤281474976710656 from of_decide_eq_true g)).mono ?_
  rintro e w' ⟨rfl,hb⟩
  refine⟨_,rfl,λM β=>.v _ _ (.str _),λb a' h=>?_,by rw [hb.os,hb.output]⟩
  rw [hb.block b (Array.getElem?_eq_some_iff.1 h).1];exact h
def ajT{n:Nat}{s:av3}{c:Int}{r:Int}(h:HI n s c=some r):gX Tryz.prog 395 [.v (.str s),.v (.int .u8 c)] [] [] (.ret (.v (.int .i64 r)) none) []:=by
 unfold HI at h;obtain rfl:=Option.some.inj h;refine wg (fd:=Tryz.f395) Tryz.func395 rfl rfl (vsOf:=λvs=>vs=[.string ⟨⟨s⟩⟩,.int .u8 c]) (λM β vs aa ai=>?_) (λvs w av hg=>?_)
 ·match vs,aa with
  |[v,u],_=>
   have Z:=m4 (ai 0 v _ rfl rfl);have ab:=mr (ai 1 u _ rfl rfl);rw [Z,ab]
 ·subst av;refine(Tryz.stringslite_IndexByte ⟨⟨s⟩⟩ c w).mono ?_
  rintro e w' ⟨rfl,rfl⟩
  exact⟨_,rfl,λM β=>.v _ _ (.int _ _),λb a' h=>h,rfl⟩
def Zo{n:Nat}{s:av3}{r:Int}(h:yS n s=some r):gX Tryz.prog 244 [.v (.str s)] [] [] (.ret (.v (.int .i64 r)) none) []:=by
 unfold yS at h;obtain⟨g,h⟩:=sB h;obtain rfl:=Option.some.inj h;refine wg (fd:=Tryz.f244) Tryz.func244 rfl rfl (vsOf:=λvs=>vs=[.string ⟨⟨s⟩⟩]) (λM β vs aa ai=>?_) (λvs w av hg=>?_)
 ·match vs,aa with
  |[v],_=>
   have:=m4 (ai 0 v _ rfl rfl)
   rw [this]
 ·subst av;refine(ajA ⟨⟨s⟩⟩ w (show s.length≤140737488351232 from of_decide_eq_true g)).mono ?_
  rintro e w' ⟨rfl,pos,rfl⟩
  refine⟨_,rfl,λM β=>.v _ _ (.int _ _),λb a' h=>?_,rfl⟩
  rw [World.iter,Go.RowKit.Below.heap_alloc w _ b (Array.getElem?_eq_some_iff.1 h).1];exact h
def ajU(w:World)(e:TypeId)(t:ByteArray):((Lib.bytesWorld w e t).os,(Lib.bytesWorld w e t).output)=(w.os,w.output):=by
 rw [(Lib.bytesWorld_below w e t).os,(Lib.bytesWorld_below w e t).output]
def Pj:M4 Tryz.prog=[4,5]:=by kernel_rfl
def Zp{n:Nat}{s:av3}{base:Int}{HJ:Int}{r:(Int ⊕ Int)}(h:yT n s base HJ=some r):gX Tryz.prog 394 [.v (.str s),.v (.int .i64 base),.v (.int .i64 HJ)] [] [] (iu.on r (λZq=>.ret (.cn [.v (.int .i64 Zq),.v (.jA)]) none) (λZr=>.ret (.cn [.v (.int .i64 Zr),.v ((.iface 436 .any))]) none)) []:=by
 unfold yT at h;obtain⟨g,h⟩:=sB h;obtain rfl:=Option.some.inj h;obtain⟨rfl,rfl,aa⟩:=of_decide_eq_true g
 have e9:∀(M:Mem) (β:Nat→Option Nat) (vs:List Value),vs.length=3→(∀(i:Nat) v a,vs[i]? = some v→[D.v (.str s),.v (.int .i64 10),.v (.int .i64 64)][i]? = some a→cw M β v a)→vs=[.string ⟨⟨s⟩⟩,.int .i64 10,.int .i64 64]:=by
  intro M β vs aa ai
  match vs,aa with
  |[v,u,t],_=>
   have Z:=m4 (ai 0 v _ rfl rfl);have ab:=mr (ai 1 u _ rfl rfl);have aj:=mr (ai 2 t _ rfl rfl);rw [Z,ab,aj]
 unfold CZ;rcases hp:Lib.parseIntB 64 s with v|_|_
 ·
   refine wg (fd:=Tryz.f394) Tryz.func394 rfl rfl (vsOf:=λvs=>vs=[.string ⟨⟨s⟩⟩,.int .i64 10,.int .i64 64]) (λM β vs aa ai=>e9 M β vs aa ai) (λvs w av hg=>?_)
   subst av;refine(Tryz.strconv_ParseInt_10_at64_ok ⟨⟨s⟩⟩ (show s.length≤9223372036854775806 by omega) v hp w).mono ?_
   rintro e w' ⟨rfl,hw⟩
   refine⟨_,rfl,λM β=>.cn [_,_] _ rfl λi v c hi hc=>?_,λb a' h=>?_,by rcases hw with rfl|⟨t,rfl⟩;rfl;exact ajU _ _ _⟩
   ·match i with
    | 0=>cases hi;cases hc;exact .v _ _ (.int _ _)
    | 1=>cases hi;cases hc;exact .v _ _ .jA
    |i+2=>simp at hi
   ·rcases hw with rfl|⟨t,rfl⟩
    ·exact h
    ·rw [Lib.bytesWorld_at_old _ _ _ _ (Array.getElem?_eq_some_iff.1 h).1];exact h
 ·
   refine wg (fd:=Tryz.f394) Tryz.func394 rfl rfl (vsOf:=λvs=>vs=[.string ⟨⟨s⟩⟩,.int .i64 10,.int .i64 64]) (λM β vs aa ai=>e9 M β vs aa ai) (λvs w av hg=>?_)
   subst av;obtain⟨fR,Z,ab⟩:=hg.1 4 (by rw [Pj];simp)
   refine(Tryz.strconv_ParseInt_10_at64_syntax ⟨⟨s⟩⟩ aa (by constructor;intro v;rw [show Lib.parseIntB 64 (⟨⟨s⟩⟩:ByteArray).data.toList=_ from hp];intro e;cases e;rw [show Lib.parseIntB 64 (⟨⟨s⟩⟩:ByteArray).data.toList=_ from hp];intro e;cases e) fR w Z ab).mono ?_
   rintro e w' ⟨N,rfl,aV,iq,hb⟩
   refine⟨_,rfl,λM β=>.cn [_,_] _ rfl λi v c hi hc=>?_,λb a' h=>?_,by rw [hb.os,hb.output]⟩
   ·match i with
    | 0=>cases hi;cases hc;exact .v _ _ (.int _ _)
    | 1=>cases hi;cases hc;exact .v _ _ (.iface _ _ _ (.any _ rfl))
    |i+2=>simp at hi
   ·rw [hb.block b (Array.getElem?_eq_some_iff.1 h).1];exact h
 ·
   refine wg (fd:=Tryz.f394) Tryz.func394 rfl rfl (vsOf:=λvs=>vs=[.string ⟨⟨s⟩⟩,.int .i64 10,.int .i64 64]) (λM β vs aa ai=>e9 M β vs aa ai) (λvs w av hg=>?_)
   subst av;obtain⟨fR,Z,ab⟩:=hg.1 5 (by rw [Pj];simp)
   refine(Tryz.strconv_ParseInt_10_at64_range ⟨⟨s⟩⟩ aa hp fR w Z ab).mono ?_
   rintro e w' ⟨N,rfl,aV,iq,hb⟩
   refine⟨_,rfl,λM β=>.cn [_,_] _ rfl λi v c hi hc=>?_,λb a' h=>?_,by rw [hb.os,hb.output]⟩
   ·match i with
    | 0=>cases hi;cases hc;exact .v _ _ (.int _ _)
    | 1=>cases hi;cases hc;exact .v _ _ (.iface _ _ _ (.any _ rfl))
    |i+2=>simp at hi
   ·rw [hb.block b (Array.getElem?_eq_some_iff.1 h).1];exact h
def HM : Tryz.prog.globalNamed "internal/strconv.uint64pow10" = some 1 := by kernel_rfl
def Zs:(Lib.pow10Tab.map λz=>Value.int .u64 z).toArray=M5:=by kernel_rfl
def ajV {w : World} (h : Hj Tryz.prog w) : Lib.TabIs Tryz.prog w "internal/strconv.uint64pow10" .u64 Lib.pow10Tab := by
 obtain⟨t,k1,Z⟩:=h.2 1 HM;unfold Lib.TabIs World.var?;rw [HM,Option.bind_some,Z,Zs]
def ajW{n:Nat}{i:Int}{base:Int}{r:av3}(h:HK n i base=some r):gX Tryz.prog 365 [.v (.int .i64 i),.v (.int .i64 base)] [] [] (.ret (.v (.str r)) none) []:=by
 unfold HK at h;obtain⟨g,h⟩:=sB h;obtain rfl:=Option.some.inj h;obtain⟨rfl,h0,Z⟩:=of_decide_eq_true g;refine wg (fd:=Tryz.f365) Tryz.func365 rfl rfl (vsOf:=λvs=>vs=[.int .i64 i,.int .i64 10]) (λM β vs aa ai=>?_) (λvs w av hg=>?_)
 ·match vs,aa with
  |[v,u],_=>
   have g1:=mr (ai 0 v _ rfl rfl);have g2:=mr (ai 1 u _ rfl rfl);rw [g1,g2]
 ·subst av;refine(Tryz.strconv_FormatInt_10 i h0 Z w (ajV hg)).mono ?_
  rintro e w' ⟨rfl,k,os,rfl⟩
  exact⟨_,rfl,λM β=>.v _ _ (.str _),λb a' h=>(Lib.heap_grow_old w k os b (Array.getElem?_eq_some_iff.1 h).1).trans h,rfl⟩
def Zt{b:List Int}(g:(nB b&&decide (b.length≤9223372036854775807))=true):b.length=(jX b).length∧∀i,i<(jX b).length→(λi=>cU (b.getD i default)) i = .int .u8 (((jX b).getD i 0).toNat:Int):=by
 simp only [Bool.and_eq_true]at g;obtain⟨Z,ab⟩:=CI g.1;exact⟨Z.symm,λi hi=>ab i (by omega)⟩
def Zu{b:List Int}(g:(nB b&&decide (b.length≤9223372036854775807))=true):(jX b).length≤9223372036854775807:=by
 simp only [Bool.and_eq_true,decide_eq_true_eq]at g;rw [(CI g.1).1];exact g.2
def Pk:Go.Proofs.Builder.Extra Tryz.prog Tryz.Y1 where
 sizeBuilder:=by kernel_rfl
 liesBuilder:=by kernel_rfl
 t5:=Tryz.underlying5
 a5:=Tryz.isAgg5
 z5:=Tryz.sizeOf5
 v5:=Tryz.zeroValue5
 infoByte:=by kernel_rfl
 cellsByte:=by kernel_rfl
 sizeByte:=by kernel_rfl
 neB5:=by decide
def Zv{n:Nat}{elems:List av3}{sep:av3}{r:av3}(h:HL n elems sep=some r):gX Tryz.prog 196 [.v (af 1 bf elems),.v (.str sep)] [] [] (.ret (.v (.str r)) none) []:=by
 unfold HL at h;obtain⟨g,h⟩:=sB h;obtain rfl:=Option.some.inj h;obtain⟨aV,dc⟩:=of_decide_eq_true g
 have Zw:(elems.map λs=>(⟨⟨s⟩⟩:ByteArray)).map (·.data.toList)=elems:=by
  rw [List.map_map];conv=>rhs;rw [←List.map_id elems]
  rfl
 refine Yv (fd:=Tryz.f196) Tryz.func196 rfl rfl (vsOf:=λw vs=>(∃a,vs=[.slice a 0 0,.string ⟨⟨sep⟩⟩]∧elems=[])∨∃yU o c,vs=[.slice (some ⟨yU,o,none⟩) elems.length c,.string ⟨⟨sep⟩⟩]∧elems.length≤c∧∀(j:Nat) x,elems[j]? = some x→w.cell? ⟨yU,o+j,none⟩=some (.string ⟨⟨x⟩⟩)) (λw M β vs hm aa ai=>?_) (λvs w av hg=>?_)
 ·match vs,aa with
  |[v,u],_=>
   have g2:=m4 (ai 1 u _ rfl rfl);have g1:=ai 0 v _ rfl rfl;rw [g2];rcases tI (k:=1) (n:=elems.length) (get:=λi=>bf (elems.getD i default)) g1 with⟨Z,ab⟩|⟨b,off,cap,val,Z,hc,hk,cX,gJ,f5⟩
   ·rcases Z with Z|⟨a,Z⟩
    ·exact .inl ⟨none,by rw [Z],List.eq_nil_of_length_eq_zero ab⟩
    ·exact .inl ⟨some a,by rw [Z],List.eq_nil_of_length_eq_zero ab⟩
   ·refine .inr ⟨b,off,cap,by rw [Z],hc,λj x hx=>?_⟩
    have hj:j<elems.length:=(List.getElem?_eq_some_iff.1 hx).1;have e1:=hm _ _ _ (cX j 0 hj (by omega))
    have e2:=f5 j 0 (.str x) hj (by
     have:elems.getD j default=x:=by simp [List.getD,hx]
     rw [this];rfl)
    rw [show off+j*1+0=off+j by omega]at e1
    rw [e1];generalize val j 0=y at e2 ⊢
    cases e2;rfl
 ·rcases av with⟨a,rfl,rfl⟩|⟨yU,o,c,rfl,hc,pU⟩
  ·refine(Any.strings_Join_none Tryz.O_ Pk a 0 ⟨⟨sep⟩⟩ w).mono ?_
   rintro e w' ⟨rfl,rfl⟩
   exact⟨_,rfl,λM β=>.v _ _ (.str _),λb a' h=>h,rfl⟩
  ·cases elems with
   |nil=>
    refine(Any.strings_Join_none Tryz.O_ Pk (some ⟨yU,o,none⟩) c ⟨⟨sep⟩⟩ w).mono ?_
    rintro e w' ⟨rfl,rfl⟩
    exact⟨_,rfl,λM β=>.v _ _ (.str _),λb a' h=>h,rfl⟩
   |cons hM ajX=>
    have ajY:yU<w.heap.size:=lt_of_cell (pU 0 hM rfl)
    have hj:=Any.strings_Join Tryz.O_ Pk yU o c ((hM::ajX).map λs=>(⟨⟨s⟩⟩:ByteArray)) ⟨⟨sep⟩⟩ w (λj x hx=>by
     rw [List.getElem?_map,Option.map_eq_some_iff]at hx;obtain⟨y,b6,rfl⟩:=hx;exact pU j y b6) ajY (by simpa using aV) (by simpa using hc) (by rw [Zw];exact dc)
    rw [List.length_map]at hj;refine hj.mono ?_
    rintro e w' ⟨rfl,hb⟩
    refine⟨_,rfl,λM β=>?_,λb a' h=>?_,by rw [hb.os,hb.output]⟩
    ·rw [Zw];exact .v _ _ (.str _)
    ·rw [hb.block b (Array.getElem?_eq_some_iff.1 h).1];exact h
end Go.Ab.Y
namespace Go.Ab.Y
open Go Go.Ab Go.Proofs T
abbrev av'{ρ:Type}(i:FuncId)(a:List D)(F:Option ρ)(o:ρ→Out):Prop:=aO i a [] [] F o λ_=>[]
abbrev av_(i:FuncId)(a:List D)(F:Option Bool):Prop:=av' i a F λr=>aP (bV r)
abbrev awa(i:FuncId)(a:List D)(F:Option Int):Prop:=av' i a F λr=>aP (bi r)
end Go.Ab.Y

/- The types of this claim, and the contracts that were written by hand. -/
import Derived.Test.YtbncfepdlmnmiaaGreatDoorProg
import Derived.WalkKit
import Derived.Lib.Builder
import Derived.Lib.UnsafeStr
import Derived.Laws.Externs
import Derived.Shelf.RegionOpenPlain
import Derived.Lib.Join
import Derived.Lib.Bytealg
import Derived.Lib.ItoaNum
import Derived.Lib.ParseIntBCases
import Derived.Lib.AppendIntMem
import Derived.Lib.AtoiErrMem
import Derived.Test.YtbncfepdlmnmiaaGreatDoorShelf
set_option linter.all false
namespace Go.Ab
abbrev auL(x:Int):Int:=IntKind.i64.wrap x
abbrev auM{α:Type}[Inhabited α](l:List α)(i:Int):α:=l.getD i.toNat default
abbrev auN:=Option Bool
abbrev auO:=Option Int
abbrev V.auP(x:Int):V:=.int .i64 x
end Go.Ab
namespace Go.Ab.Y
open Go Go.Proofs
def iC(c:UInt8):Bool:=decide ((97≤c.toNat∧c.toNat≤122)∨(48≤c.toNat∧c.toNat≤57)∨c.toNat=95)
def hO(s:auJ):Nat:=(s.takeWhile iC).length
def Pw{s:auJ}{k:Nat}(hk:k≤s.length)(h:∀(j:Nat) c,j<k→s[j]? = some c→iC c=true)(he:∀c,s[k]? = some c→iC c=false):hO s=k:=by
 unfold hO;induction s generalizing k with
 |nil=>simp at hk ⊢;omega
 |cons c s aW=>
  cases k with
  |zero=>
   have:=he c rfl
   simp [List.takeWhile,this]
  |succ k=>
   have h0:=h 0 c (by omega) rfl
   simp only [List.takeWhile,h0,List.length_cons];rw [aW (by simpa using hk) (λj c hj hc=>h (j+1) c (by omega) (by simpa using hc)) (λc hc=>he c (by simpa using hc))]
def Px(s:ByteArray)(k:Nat)(h:k<s.size):s.data.toList[k]? = some (s[k]'h):=by
 have:k<s.data.toList.length:=by simpa using h
 rw [List.getElem?_eq_getElem this];rfl
def H3(s:ByteArray)(k:Nat):Prop:=∀(j:Nat) c,j<k→s.data.toList[j]? = some c→iC c=true
def H3.succ{s:ByteArray}{k:Nat}(h:H3 s k)(hk:k<s.size)(hc:iC (s[k]'hk)=true):H3 s (k+1):=by
 intro j c hj ky;by_cases e:j=k
 ·subst e;rw [Px s j hk]at ky;cases ky;exact hc
 ·exact h j c (by omega) ky
set_option maxRecDepth 100000 in
def ai_(s:ByteArray)(w:World)(hs:s.size≤140737488351232):
 Calls Tryz.prog 244 #[.string s] w λe w'=>e = .returned (.int .i64 (hO s.data.toList))∧∃pos,w'=w.iter s pos:=by
 go_enter Tryz.func244,Tryz.ntmps244
 go_wp2
 go_loopw [] (λw'=>∃k:Nat,w'=w.iter s k∧k≤s.size∧H3 s k) (λw'=>s.size-w'.iterPos w.heap.size)
 case atStart=>exact⟨0,rfl,by omega,λj c hj=>by omega⟩
 case round=>
  obtain⟨k,rfl,hk,hin⟩:=hrel;by_cases hp:k<s.size
  ·by_cases ha:(s[k]'hp).toNat<128
   ·have hnx:∀ty,(Instr.next (.pointer (some ⟨w.heap.size,0,none⟩)) true ty).run Tryz.prog (w.iter s k)=_:=λty=>run_next_ascii w s k ty hp ha
    cases hw:iC (s[k]'hp)
    ·have hlen:=Pw (s:=s.data.toList) (k:=k) (by simpa using hk) hin (λc hc=>by rw [Px s k hp]at hc;cases hc;exact hw)
     have hc:=of_decide_eq_false hw;clear hw
     go_wp2
     all_goals first
      |(exfalso;simp at *;omega)
      |(go_ret;exact⟨by first |rfl |(rw [hlen];rfl),_,rfl⟩)
    ·have hc:=of_decide_eq_true hw;have hin2:=hin.succ hp hw;clear hw hin
     go_wp2
     all_goals first
      |(exfalso;simp at *;omega)
      |(
       go_roundw
       case rel=>exact⟨k+1,rfl,hp,hin2⟩
       case measure=>simp;omega)
   ·have hnx:∀ty,(Instr.next (.pointer (some ⟨w.heap.size,0,none⟩)) true ty).run Tryz.prog (w.iter s k)=_:=λty=>run_next_any w s k ty hp
    have hd:=(decode_high s k hp (by omega)).1
    have hle:=decode_le s k
    have hlen:=Pw (s:=s.data.toList) (k:=k) (by simpa using hk) hin (λc hc=>by
     rw [Px s k hp]at hc;cases hc;exact decide_eq_false (by omega))
    generalize Utf8.decode s k=d at hnx hd hle
    go_wp2
    all_goals first
     |(exfalso;simp at *;omega)
     |(go_ret;exact⟨by first |rfl |(rw [hlen];rfl),_,rfl⟩)
  ·have hnx:∀ty,(Instr.next (.pointer (some ⟨w.heap.size,0,none⟩)) true ty).run Tryz.prog (w.iter s k)=_:=λty=>run_next_end w s k ty hp
   have hlen:=Pw (s:=s.data.toList) (k:=k) (by simpa using hk) hin (λc hc=>by
    have:=(List.getElem?_eq_some_iff.1 hc).1
    simp at this;omega)
   obtain rfl:k=s.size:=by omega
   go_wp2
   go_ret
   exact⟨by first|rfl|(rw [hlen];rfl),_,rfl⟩
open Go Go.Proofs Go.RowKit
def YZ:(Tryz.prog.info? 106).map (·.size)=some 2:=by kernel_rfl
set_option maxHeartbeats 1000000 in
set_option maxRecDepth 100000 in
def Y0(b:Nat)(w:World)(h0:w.cell? ⟨b,0,none⟩=some (.pointer (some ⟨b,0,none⟩))):
 Calls Tryz.prog 104 #[.pointer (some ⟨b,0,none⟩)] w λe w'=>e = .returned (.tuple #[])∧w'=w:=by
 obtain⟨j,hj,_⟩:=Option.map_eq_some_iff.1 YZ
 go_enter Tryz.func104,Tryz.ntmps104
 go_wp2
 rw [Lib.run_neq_ptr_same w _ Tryz.underlying103 hj]
 go_wp2
 go_end0
 exact⟨rfl,rfl⟩
set_option maxHeartbeats 1000000 in
set_option maxRecDepth 100000 in
def Y1(b:Nat)(w:World)(T:TypeId)(k:Nat)(h0:w.cell? ⟨b,0,none⟩=some (.pointer none))(hsh:w.shape? b=some (T,k))(hk:0<k)(hlies:liesAt Tryz.prog Tryz.prog.depth T (k / Tryz.prog.cellsOf T) 0 106 1=true)(hfz:w.frozen? ⟨b,0,none⟩=false):
 Calls Tryz.prog 104 #[.pointer (some ⟨b,0,none⟩)] w λe w'=>e = .returned (.tuple #[])∧w'=w.setCell ⟨b,0,none⟩ (.pointer (some ⟨b,0,none⟩)):=by
 obtain⟨j,hj,hjs⟩:=Option.map_eq_some_iff.1 YZ
 go_enter Tryz.func104,Tryz.ntmps104
 go_wp2
 rw [Lib.run_to_unsafe w ⟨b,0,none⟩ Tryz.underlying103 Tryz.underlying213 hj (by rw [hjs];decide) hsh hk]
 simp only [Result.andThen];rw [Oper.upon_value]
 go_wp2
 rw [run_callFunc_extern Tryz.func158 (by kernel_rfl) (by kernel_rfl) (by kernel_rfl) (e:=Extern.AbiNoEscape.same) (by kernel_rfl)]
 rw [Lib.run_noEscape];simp only [Result.andThen];rw [Oper.upon_value]
 go_wp2
 rw [Lib.run_from_unsafe w ⟨b,0,none⟩ Tryz.underlying213 Tryz.underlying103 hj hsh hlies];simp only [Result.andThen];rw [Oper.upon_value]
 go_wp2
 go_end0
 exact⟨rfl,rfl⟩
def cellsByte:Tryz.prog.cellsOf 5=1:=by kernel_rfl
set_option maxHeartbeats 2000000 in
set_option maxRecDepth 100000 in
def Y2(b:Nat)(w:World)(h:w.cell? ⟨b,1,none⟩=some (.slice none 0 0)):
 Calls Tryz.prog 54 #[.pointer (some ⟨b,0,none⟩)] w λe w'=>e = .returned (.string ⟨#[]⟩)∧w'=w.drew:=by
 have hUS:(Builtin.unsafeString_ #[157,3] 9 #[.pointer none,.int .i64 0]).run Tryz.prog w.drew = .ok (.string .empty) w.drew:=Lib.run_unsafeString_none w.drew _ _ _ none;have c1:w.drew.cell? ⟨b,1,none⟩=some (.slice none 0 0):=h;have hSD:(Builtin.unsafeSliceData_ #[104] 157 #[.slice none 0 0]).run Tryz.prog w.drew = .ok (.pointer none) w.drew:=rfl;have mixed:Tryz.prog.follows .mixedOrders=true:=by kernel_rfl
 go_enter Tryz.func54,Tryz.ntmps54
 go_wp2
 go_region_o
 all_goals (go_wp2;go_ret;exact⟨rfl,rfl⟩)
set_option maxHeartbeats 2000000 in
set_option maxRecDepth 100000 in
def Y3(b g cap:Nat)(w:World)(hc0:cap≠0)(h:w.cell? ⟨b,1,none⟩=some (.slice (some ⟨g,0,none⟩) 0 cap)):
 Calls Tryz.prog 54 #[.pointer (some ⟨b,0,none⟩)] w λe w'=>e = .returned (.string ⟨#[]⟩)∧w'=w.drew:=by
 have hUS:(Builtin.unsafeString_ #[157,3] 9 #[.pointer (some ⟨g,0,none⟩),.int .i64 0]).run Tryz.prog w.drew = .ok (.string .empty) w.drew:=Lib.run_unsafeString_none w.drew _ _ _ _;have c1:w.drew.cell? ⟨b,1,none⟩=some (.slice (some ⟨g,0,none⟩) 0 cap):=h;have hSD:(Builtin.unsafeSliceData_ #[104] 157 #[.slice (some ⟨g,0,none⟩) 0 cap]).run Tryz.prog w.drew = .ok (.pointer (some ⟨g,0,none⟩)) w.drew:=Lib.run_unsafeSliceData_row _ _ _ _ _ _ hc0;clear hc0;have mixed:Tryz.prog.follows .mixedOrders=true:=by kernel_rfl
 go_enter Tryz.func54,Tryz.ntmps54
 go_wp2
 go_region_o
 all_goals (go_wp2;go_ret;exact⟨rfl,rfl⟩)
set_option maxHeartbeats 2000000 in
set_option maxRecDepth 100000 in
def Y4(b g:Nat)(w:World)(vs:List Value)(h:w.cell? ⟨b,1,none⟩=some (.slice (some ⟨g,0,none⟩) 0 0))(hb:b<w.heap.size)(hg:w.heap[g]? = some (.cells ⟨vs⟩ 5 (0,0))):
 Calls Tryz.prog 54 #[.pointer (some ⟨b,0,none⟩)] w λe w'=>e = .returned (.string ⟨#[]⟩)∧w'=(w.drew.alloc (.view ⟨g,0,none⟩ 5)):=by
 have hUS:∀(q:Option Addr) (W:World),(Builtin.unsafeString_ #[157,3] 9 #[.pointer q,.int .i64 0]).run Tryz.prog W = .ok (.string .empty) W:=λq W=>Lib.run_unsafeString_none W _ _ _ q
 have c1:w.drew.cell? ⟨b,1,none⟩=some (.slice (some ⟨g,0,none⟩) 0 0):=h
 have hSD:(Builtin.unsafeSliceData_ #[104] 157 #[.slice (some ⟨g,0,none⟩) 0 0]).run Tryz.prog w.drew = .ok (.pointer (some ⟨w.drew.heap.size,0,none⟩)) (w.drew.alloc (.view ⟨g,0,none⟩ 5)):=
  Lib.run_unsafeSliceData_zero w.drew _ _ 5 Tryz.underlying157 ⟨g,0,none⟩ 0 (5,vs.length) (by have hg':w.drew.heap[g]? = some (.cells ⟨vs⟩ 5 (0,0)):=hg;simp [World.shape?,hg'])
 have c2:(w.drew.alloc (.view ⟨g,0,none⟩ 5)).cell? ⟨b,1,none⟩=some (.slice (some ⟨g,0,none⟩) 0 0):=by
  unfold World.cell? at h ⊢;rw [show(w.drew.alloc (.view ⟨g,0,none⟩ 5)).heap[b]? = w.heap[b]? from Lib.alloc_old w.drew _ b hb];exact h
 have c3:(w.alloc (.view ⟨g,0,none⟩ 5)).drew.cell? ⟨b,1,none⟩=some (.slice (some ⟨g,0,none⟩) 0 0):=c2;have mixed:Tryz.prog.follows .mixedOrders=true:=by kernel_rfl
 go_enter Tryz.func54,Tryz.ntmps54
 go_wp2
 go_region_o
 all_goals (go_wp2;go_ret;exact⟨rfl,rfl⟩)
set_option maxHeartbeats 2000000 in
set_option maxRecDepth 100000 in
def Y5(b g cap:Nat)(w:World)(vs:List Value)(l:auJ)(h0:l≠[])(h:w.cell? ⟨b,1,none⟩=some (.slice (some ⟨g,0,none⟩) l.length cap))(hg:w.heap[g]? = some (.cells ⟨vs⟩ 5 (0,0)))
 (hn:l.length≤cap) (hcap:cap≤vs.length) (h63:l.length≤9223372036854775807) (hc:∀(j:Nat) (x:UInt8),l[j]? = some x→vs[j]? = some (Value.int .u8 x.toNat)):
 Calls Tryz.prog 54 #[.pointer (some ⟨b,0,none⟩)] w λe w'=>e = .returned (.string ⟨l.toArray⟩)∧w'=w.drew.freeze ⟨g,0,none⟩ l.length:=by
 have hl0:l.length≠0:=by simpa using h0
 have c1:w.drew.cell? ⟨b,1,none⟩=some (.slice (some ⟨g,0,none⟩) l.length cap):=h;have hg':w.drew.heap[g]? = some (.cells ⟨vs⟩ 5 (0,0)):=hg;have hSD:(Builtin.unsafeSliceData_ #[104] 157 #[.slice (some ⟨g,0,none⟩) l.length cap]).run Tryz.prog w.drew = .ok (.pointer (some ⟨g,0,none⟩)) w.drew:=Lib.run_unsafeSliceData_row _ _ _ _ _ _ (by omega)
 have hUS:(Builtin.unsafeString_ #[157,3] 9 #[.pointer (some ⟨g,0,none⟩),.int .i64 l.length]).run Tryz.prog w.drew = .ok (.string ⟨l.toArray⟩) (w.drew.freeze ⟨g,0,none⟩ l.length):=
  Lib.run_unsafeString_row w.drew 157 3 9 5 Tryz.underlying157 cellsByte g vs.length (by simp [World.shape?,hg']) l h0 (by omega) h63 (λj x hx=>by
   have:=hc j x hx
   rw [show(⟨g,0,none⟩:Addr).add j=⟨g,j,none⟩by unfold Addr.add;split<;>simp_all,Go.Ab.cell_of_heap hg',this])
 have mixed:Tryz.prog.follows .mixedOrders=true:=by kernel_rfl
 go_enter Tryz.func54,Tryz.ntmps54
 go_wp2
 go_region_o
 all_goals (go_wp2;go_ret;exact⟨rfl,rfl⟩)
open Go Go.Ab Go.Proofs
abbrev atl(x:Int):V:=.int .i32 x
abbrev oy(x:Int):V:=.int .i64 x
abbrev atm(x:Int):V:=.int .u32 x
abbrev atn(x:Int):V:=.int .u64 x
abbrev dc(x:Int):V:=.int .u8 x
def ato{α β ec:Type}{a:α}{f:α→ec}{g:β→ec}{r:ec}(h:iB.on (.inl a) f g=r):f a=r:=h
def atp{α β ec:Type}{b:β}{f:α→ec}{g:β→ec}{r:ec}(h:iB.on (.inr b) f g=r):g b=r:=h
abbrev atq(x:Bool):V:=.bool x
abbrev a6(x:auJ):V:=.str x
structure bn where
 Kind:Int
 N:Int
 S:auJ
instance:Inhabited bn:=⟨⟨0,0,[]⟩⟩
def d9(x:bn):V:=.agg [.int .i64 x.Kind,.int .i64 x.N,.str x.S]
structure Version where
 dD:Int
 bx:bn
instance:Inhabited Version:=⟨⟨0,default⟩⟩
def g'(x:Version):V:=.agg [.int .i64 x.dD,.int .i64 x.bx.Kind,.int .i64 x.bx.N,.str x.bx.S]
structure Row where
 Key:auJ
 bZ:List Version
instance:Inhabited Row:=⟨⟨[],[]⟩⟩
def b4(x:Row):V:=.agg [.str x.Key,ag 4 g' x.bZ]
structure au where
 bX:Int
 bN:Int
 Rows:List Row
instance:Inhabited au:=⟨⟨0,0,[]⟩⟩
def atr(x:au):V:=.agg [.int .i64 x.bX,.int .i64 x.bN,ag 2 b4 x.Rows]
structure Param where
 Name:auJ
 f':Int
instance:Inhabited Param:=⟨⟨[],0⟩⟩
def ej(x:Param):V:=.agg [.str x.Name,.int .i64 x.f']
structure Expr where
 Op:Int
 N:Int
 S:auJ
 an:List Expr
instance:Inhabited Expr:=⟨⟨0,0,[],[]⟩⟩
mutual
def bF:Expr→V
 |⟨Op,N,S,an⟩=>.agg [.int .i64 Op,.int .i64 N,.str S,.bT 4 an.length λi=>(C4 an).getD i .gW]
def C4:List Expr→List V
 |[]=>[]
 |x::l=>bF x::C4 l
end
def Y6:∀l:List Expr,C4 l=l.map bF
 |[]=>rfl
 |x::l=>by rw [C4,Y6 l];rfl
def Y7(l:List Expr)(i:Nat)(h:i<l.length):(C4 l).getD i .gW=bF (l.getD i default):=by
 rw [Y6];simp [List.getD,List.getElem?_eq_getElem h]
def aja(x:Expr):lq (bF x).cells [.int .i64 x.Op,.int .i64 x.N,.str x.S,ag 4 bF x.an]:=by
 cases x;exact .cons (ip _) (.cons (ip _) (.cons (ip _) (.cons (rn λi hi=>Y7 _ i hi) (lq.nil))))
def ur(x:Expr):lq [.int .i64 x.Op,.int .i64 x.N,.str x.S,ag 4 bF x.an] (bF x).cells:=by
 cases x;exact .cons (ip _) (.cons (ip _) (.cons (ip _) (.cons (rn λi hi=>(Y7 _ i hi).symm) (lq.nil))))
def ge(x:Expr):hK (bF x) (.agg [.int .i64 x.Op,.int .i64 x.N,.str x.S,ag 4 bF x.an]):=by
 have h:=aja x;cases x;exact Ya h
structure Stmt where
 Op:Int
 Name:auJ
 Max:Int
 A:Expr
 B:Expr
 Body:List Stmt
 bK:List Stmt
instance:Inhabited Stmt:=⟨⟨0,[],0,default,default,[],[]⟩⟩
mutual
def bH:Stmt→V
 |⟨Op,Name,Max,A,B,Body,bK⟩=>.agg [.int .i64 Op,.str Name,.int .i64 Max,.int .i64 A.Op,.int .i64 A.N,.str A.S,ag 4 bF A.an,.int .i64 B.Op,.int .i64 B.N,.str B.S,ag 4 bF B.an,.bT 13 Body.length λi=>(y6 Body).getD i .gW,.bT 13 bK.length λi=>(y6 bK).getD i .gW]
def y6:List Stmt→List V
 |[]=>[]
 |x::l=>bH x::y6 l
end
def Y8:∀l:List Stmt,y6 l=l.map bH
 |[]=>rfl
 |x::l=>by rw [y6,Y8 l];rfl
def H4(l:List Stmt)(i:Nat)(h:i<l.length):(y6 l).getD i .gW=bH (l.getD i default):=by
 rw [Y8];simp [List.getD,List.getElem?_eq_getElem h]
def ajb(x:Stmt):lq (bH x).cells [.int .i64 x.Op,.str x.Name,.int .i64 x.Max,.int .i64 x.A.Op,.int .i64 x.A.N,.str x.A.S,ag 4 bF x.A.an,.int .i64 x.B.Op,.int .i64 x.B.N,.str x.B.S,ag 4 bF x.B.an,ag 13 bH x.Body,ag 13 bH x.bK]:=by
 cases x;exact .cons (ip _) (.cons (ip _) (.cons (ip _) (.cons (ip _) (.cons (ip _) (.cons (ip _) (.cons (ip _) (.cons (ip _) (.cons (ip _) (.cons (ip _) (.cons (ip _) (.cons (rn λi hi=>H4 _ i hi) (.cons (rn λi hi=>H4 _ i hi) (lq.nil)))))))))))))
def Y9(x:Stmt):lq [.int .i64 x.Op,.str x.Name,.int .i64 x.Max,.int .i64 x.A.Op,.int .i64 x.A.N,.str x.A.S,ag 4 bF x.A.an,.int .i64 x.B.Op,.int .i64 x.B.N,.str x.B.S,ag 4 bF x.B.an,ag 13 bH x.Body,ag 13 bH x.bK] (bH x).cells:=by
 cases x;exact .cons (ip _) (.cons (ip _) (.cons (ip _) (.cons (ip _) (.cons (ip _) (.cons (ip _) (.cons (ip _) (.cons (ip _) (.cons (ip _) (.cons (ip _) (.cons (ip _) (.cons (rn λi hi=>(H4 _ i hi).symm) (.cons (rn λi hi=>(H4 _ i hi).symm) (lq.nil)))))))))))))
def jw(x:Stmt):hK (bH x) (.agg [.int .i64 x.Op,.str x.Name,.int .i64 x.Max,.int .i64 x.A.Op,.int .i64 x.A.N,.str x.A.S,ag 4 bF x.A.an,.int .i64 x.B.Op,.int .i64 x.B.N,.str x.B.S,ag 4 bF x.B.an,ag 13 bH x.Body,ag 13 bH x.bK]):=by
 have h:=ajb x;cases x;exact Ya h
structure be where
 Name:auJ
 Params:List Param
 Body:List Stmt
instance:Inhabited be:=⟨⟨[],[],[]⟩⟩
def dk(x:be):V:=.agg [.str x.Name,ag 2 ej x.Params,ag 13 bH x.Body]
structure Outcome where
 Status:Int
 Code:Int
 Out:List bn
instance:Inhabited Outcome:=⟨⟨0,0,[]⟩⟩
def ats(x:Outcome):V:=.agg [.int .i64 x.Status,.int .i64 x.Code,ag 3 d9 x.Out]
structure d' where
 Client:Int
 Seq:Int
 Outcome:Outcome
instance:Inhabited d':=⟨⟨0,0,default⟩⟩
def hH(x:d'):V:=.agg [.int .i64 x.Client,.int .i64 x.Seq,.int .i64 x.Outcome.Status,.int .i64 x.Outcome.Code,ag 3 d9 x.Outcome.Out]
structure bG where
 Client:Int
 Next:Int
 dn:List d'
instance:Inhabited bG:=⟨⟨0,0,[]⟩⟩
def dh(x:bG):V:=.agg [.int .i64 x.Client,.int .i64 x.Next,ag 5 hH x.dn]
structure Part where
 Id:Int
 ed:auJ
 Node:Int
 fQ:Int
 eH:auJ
instance:Inhabited Part:=⟨⟨0,[],0,0,[]⟩⟩
def cF(x:Part):V:=.agg [.int .i64 x.Id,.str x.ed,.int .i64 x.Node,.int .i64 x.fQ,.str x.eH]
structure b1 where
 Version:Int
 aL:List Part
instance:Inhabited b1:=⟨⟨0,[]⟩⟩
def att(x:b1):V:=.agg [.int .i64 x.Version,ag 5 cF x.aL]
structure bh where
 Key:auJ
 Count:Int
instance:Inhabited bh:=⟨⟨[],0⟩⟩
def dq(x:bh):V:=.agg [.str x.Key,.int .i64 x.Count]
structure ff where
 eN:Bool
 Reads:List auJ
 dz:List auJ
instance:Inhabited ff:=⟨⟨false,[],[]⟩⟩
def atu(x:ff):V:=.agg [.bool x.eN,ag 1 a6 x.Reads,ag 1 a6 x.dz]
structure Request where
 Client:Int
 Seq:Int
 be:auJ
 an:List bn
 f_:Bool
 bP:ff
instance:Inhabited Request:=⟨⟨0,0,[],[],false,default⟩⟩
def du(x:Request):V:=.agg [.int .i64 x.Client,.int .i64 x.Seq,.str x.be,ag 3 d9 x.an,.bool x.f_,.bool x.bP.eN,ag 1 a6 x.bP.Reads,ag 1 a6 x.bP.dz]
structure bL where
 Pos:Int
 au:au
 cL:List be
 cV:List bG
 Place:b1
 bh:List bh
 Queue:List Request
 c_:Int
instance:Inhabited bL:=⟨⟨0,default,[],[],default,[],[],0⟩⟩
def atv(x:bL):V:=.agg [.int .i64 x.Pos,.int .i64 x.au.bX,.int .i64 x.au.bN,ag 2 b4 x.au.Rows,ag 3 dk x.cL,ag 3 dh x.cV,.int .i64 x.Place.Version,ag 5 cF x.Place.aL,ag 2 dq x.bh,ag 8 du x.Queue,.int .u64 x.c_]
structure aY where
 Key:auJ
 bx:bn
instance:Inhabited aY:=⟨⟨[],default⟩⟩
def cw(x:aY):V:=.agg [.str x.Key,.int .i64 x.bx.Kind,.int .i64 x.bx.N,.str x.bx.S]
structure g_ where
 dD:Int
 Rest:bL
 Next:auJ
 eH:Bool
 gE:List aY
 fR:List auJ
instance:Inhabited g_:=⟨⟨0,default,[],false,[],[]⟩⟩
def atw(x:g_):V:=.agg [.int .i64 x.dD,.int .i64 x.Rest.Pos,.int .i64 x.Rest.au.bX,.int .i64 x.Rest.au.bN,ag 2 b4 x.Rest.au.Rows,ag 3 dk x.Rest.cL,ag 3 dh x.Rest.cV,.int .i64 x.Rest.Place.Version,ag 5 cF x.Rest.Place.aL,ag 2 dq x.Rest.bh,ag 8 du x.Rest.Queue,.int .u64 x.Rest.c_,.str x.Next,.bool x.eH,ag 4 cw x.gE,ag 1 a6 x.fR]
structure Y' where
 ajc:Bool
 dz:List aY
 N:Int
instance:Inhabited Y':=⟨⟨false,[],0⟩⟩
def atx(x:Y'):V:=.agg [.bool x.ajc,ag 4 cw x.dz,.int .i64 x.N]
structure Range where
 ed:auJ
 po:auJ
instance:Inhabited Range:=⟨⟨[],[]⟩⟩
def aty(x:Range):V:=.agg [.str x.ed,.str x.po]
structure fz where
 s:auJ
 at_:Int
 e:Int
instance:Inhabited fz:=⟨⟨[],0,0⟩⟩
def atz(x:fz):V:=.agg [.str x.s,.int .i64 x.at_,.int .i64 x.e]
structure pp where
 gm:bL
 Py:List aY
 sources:List auJ
instance:Inhabited pp:=⟨⟨default,[],[]⟩⟩
def atA(x:pp):V:=.agg [.int .i64 x.gm.Pos,.int .i64 x.gm.au.bX,.int .i64 x.gm.au.bN,ag 2 b4 x.gm.au.Rows,ag 3 dk x.gm.cL,ag 3 dh x.gm.cV,.int .i64 x.gm.Place.Version,ag 5 cF x.gm.Place.aL,ag 2 dq x.gm.bh,ag 8 du x.gm.Queue,.int .u64 x.gm.c_,ag 4 cw x.Py,ag 1 a6 x.sources]
structure Token where
 Kind:Int
 Text:auJ
 N:Int
 ls:Int
instance:Inhabited Token:=⟨⟨0,[],0,0⟩⟩
def b_(x:Token):V:=.agg [.int .i64 x.Kind,.str x.Text,.int .i64 x.N,.int .i64 x.ls]
structure cJ where
 qq:Bool
 Stmt:Stmt
 C5:Int
 Expr:Expr
 ajd:Bool
instance:Inhabited cJ:=⟨⟨false,default,0,default,false⟩⟩
def jx(x:cJ):V:=.agg [.bool x.qq,.int .i64 x.Stmt.Op,.str x.Stmt.Name,.int .i64 x.Stmt.Max,.int .i64 x.Stmt.A.Op,.int .i64 x.Stmt.A.N,.str x.Stmt.A.S,ag 4 bF x.Stmt.A.an,.int .i64 x.Stmt.B.Op,.int .i64 x.Stmt.B.N,.str x.Stmt.B.S,ag 4 bF x.Stmt.B.an,ag 13 bH x.Stmt.Body,ag 13 bH x.Stmt.bK,.int .i64 x.C5,.int .i64 x.Expr.Op,.int .i64 x.Expr.N,.str x.Expr.S,ag 4 bF x.Expr.an,.bool x.ajd]
structure Y_ where
 aje:Int
 seq:Int
instance:Inhabited Y_:=⟨⟨0,0⟩⟩
def atB(x:Y_):V:=.agg [.int .i64 x.aje,.int .i64 x.seq]
structure bb where
 tokens:List Token
 at_:Int
instance:Inhabited bb:=⟨⟨[],0⟩⟩
def atC(x:bb):V:=.agg [ag 4 b_ x.tokens,.int .i64 x.at_]
structure Za where
 line:Int
 code:Int
instance:Inhabited Za:=⟨⟨0,0⟩⟩
def atD(x:Za):V:=.agg [.int .i64 x.line,.int .i64 x.code]
structure lu where
 name:Bool
 a:Bool
 b:Bool
 max:Bool
 body:Bool
 other:Bool
instance:Inhabited lu:=⟨⟨false,false,false,false,false,false⟩⟩
def atE(x:lu):V:=.agg [.bool x.name,.bool x.a,.bool x.b,.bool x.max,.bool x.body,.bool x.other]
structure lv where
 s:auJ
 at_:Int
 e:Int
instance:Inhabited lv:=⟨⟨[],0,0⟩⟩
def atF(x:lv):V:=.agg [.str x.s,.int .i64 x.at_,.int .i64 x.e]
structure pq where
 s:auJ
 at_:Int
 e:Int
instance:Inhabited pq:=⟨⟨[],0,0⟩⟩
def atG(x:pq):V:=.agg [.str x.s,.int .i64 x.at_,.int .i64 x.e]
structure h7 where
 s:auJ
 at_:Int
 e:Int
instance:Inhabited h7:=⟨⟨[],0,0⟩⟩
def atH(x:h7):V:=.agg [.str x.s,.int .i64 x.at_,.int .i64 x.e]
abbrev kF:en:=⟨.yl,1,8,[.i8],[]⟩
abbrev Pz:en:=⟨.int .i64,1,8,[.int .i64 0],[]⟩
abbrev Zb:en:=⟨.ea [(0,2,1),(1,3,1),(2,4,1),(3,6,1)],4,24,[.int .i64 0,.int .i64 0,.bool false,.int .u8 0],[]⟩
abbrev PA:en:=⟨.str,1,16,[.str ([]:auJ)],[]⟩
abbrev PB:en:=⟨.int .u64,1,8,[.int .u64 0],[]⟩
abbrev Zc:en:=⟨.ea [(0,9,1),(1,12,1)],2,24,[.str ([]:auJ),.int .u64 0],[]⟩
abbrev pr:en:=⟨.ptr,1,8,[.gW],[]⟩
abbrev Zd:en:=⟨.ea [(0,2,1),(1,2,1),(2,22,1)],3,40,[.int .i64 0,.int .i64 0,ag 2 b4 ([]:List Row)],[]⟩
abbrev H5:en:=⟨.ea [(0,9,1),(1,3,1),(2,41,1)],3,32,[.str ([]:auJ),.int .i64 0,.int .i64 0],[]⟩
def tt:dS:=[
 (1,kF),
 (2,Pz),
 (3,Pz),
 (4,⟨.bool,1,1,[.bool false],[]⟩),
 (5,⟨.int .u8,1,1,[.int .u8 0],[]⟩),
 (6,⟨.int .u8,1,1,[.int .u8 0],[]⟩),
 (7,Zb),
 (8,Zb),
 (9,PA),
 (10,PA),
 (11,PA),
 (12,PB),
 (13,Zc),
 (14,Zc),
 (15,pr),
 (16,pr),
 (17,pr),
 (18,⟨.ea [(0,17,1)],1,8,[.gW],[]⟩),
 (19,⟨.ea [(0,17,1)],1,8,[.gW],[]⟩),
 (20,⟨.p2,1,16,[.jE],[]⟩),
 (21,⟨.int .i32,1,4,[.int .i32 0],[]⟩),
 (22,⟨.bT 92,1,24,[ag 2 b4 ([]:List Row)],[]⟩),
 (23,Zd),
 (24,Zd),
 (25,⟨.bT 73,1,24,[ag 3 dk ([]:List be)],[]⟩),
 (26,⟨.bT 76,1,24,[ag 3 dh ([]:List bG)],[]⟩),
 (27,⟨.bT 148,1,24,[ag 5 cF ([]:List Part)],[]⟩),
 (29,⟨.ea [(0,2,1),(1,27,1)],2,32,[.int .i64 0,ag 5 cF ([]:List Part)],[]⟩),
 (30,⟨.bT 179,1,24,[ag 2 dq ([]:List bh)],[]⟩),
 (31,⟨.bT 82,1,24,[ag 8 du ([]:List Request)],[]⟩),
 (32,PB),
 (34,⟨.ea [(0,2,1),(1,24,3),(4,25,1),(5,26,1),(6,29,2),(8,30,1),(9,31,1),(10,32,1)],11,184,[.int .i64 0,.int .i64 0,.int .i64 0,ag 2 b4 ([]:List Row),ag 3 dk ([]:List be),ag 3 dh ([]:List bG),.int .i64 0,ag 5 cF ([]:List Part),ag 2 dq ([]:List bh),ag 8 du ([]:List Request),.int .u64 0],[]⟩),
 (37,⟨.bT 87,1,24,[ag 4 cw ([]:List aY)],[]⟩),
 (38,⟨.bT 9,1,24,[ag 1 a6 ([]:List auJ)],[]⟩),
 (40,⟨.ea [(0,2,1),(1,34,11),(12,9,1),(13,4,1),(14,37,1),(15,38,1)],16,264,[.int .i64 0,.int .i64 0,.int .i64 0,.int .i64 0,ag 2 b4 ([]:List Row),ag 3 dk ([]:List be),ag 3 dh ([]:List bG),.int .i64 0,ag 5 cF ([]:List Part),ag 2 dq ([]:List bh),ag 8 du ([]:List Request),.int .u64 0,.str ([]:auJ),.bool false,ag 4 cw ([]:List aY),ag 1 a6 ([]:List auJ)],[]⟩),
 (41,Pz),
 (57,⟨.bT 3,1,24,[ag 1 oy ([]:List Int)],[]⟩),
 (59,kF),
 (70,⟨.bT 143,1,24,[ag 2 ej ([]:List Param)],[]⟩),
 (71,⟨.bT 200,1,24,[ag 13 bH ([]:List Stmt)],[]⟩),
 (73,⟨.ea [(0,9,1),(1,70,1),(2,71,1)],3,64,[.str ([]:auJ),ag 2 ej ([]:List Param),ag 13 bH ([]:List Stmt)],[]⟩),
 (74,⟨.bT 232,1,24,[ag 5 hH ([]:List d')],[]⟩),
 (76,⟨.ea [(0,3,1),(1,2,1),(2,74,1)],3,40,[.int .i64 0,.int .i64 0,ag 5 hH ([]:List d')],[]⟩),
 (78,⟨.bT 85,1,24,[ag 3 d9 ([]:List bn)],[]⟩),
 (80,⟨.ea [(0,4,1),(1,38,1),(2,38,1)],3,56,[.bool false,ag 1 a6 ([]:List auJ),ag 1 a6 ([]:List auJ)],[]⟩),
 (82,⟨.ea [(0,3,1),(1,2,1),(2,9,1),(3,78,1),(4,4,1),(5,80,3)],8,120,[.int .i64 0,.int .i64 0,.str ([]:auJ),ag 3 d9 ([]:List bn),.bool false,.bool false,ag 1 a6 ([]:List auJ),ag 1 a6 ([]:List auJ)],[]⟩),
 (85,⟨.ea [(0,3,1),(1,2,1),(2,9,1)],3,32,[.int .i64 0,.int .i64 0,.str ([]:auJ)],[]⟩),
 (87,⟨.ea [(0,9,1),(1,85,3)],4,48,[.str ([]:auJ),.int .i64 0,.int .i64 0,.str ([]:auJ)],[]⟩),
 (90,⟨.bT 138,1,24,[ag 4 g' ([]:List Version)],[]⟩),
 (92,⟨.ea [(0,9,1),(1,90,1)],2,40,[.str ([]:auJ),ag 4 g' ([]:List Version)],[]⟩),
 (94,⟨.ea [(0,9,1),(1,9,1)],2,32,[.str ([]:auJ),.str ([]:auJ)],[]⟩),
 (103,pr),
 (104,⟨.bT 5,1,24,[ag 1 dc ([]:List Int)],[]⟩),
 (106,⟨.ea [(0,103,1),(1,104,1)],2,32,[.gW,ag 1 dc ([]:List Int)],[(0,106)]⟩),
 (108,⟨.p2,1,16,[.jE],[]⟩),
 (117,kF),
 (133,kF),
 (138,⟨.ea [(0,2,1),(1,85,3)],4,40,[.int .i64 0,.int .i64 0,.int .i64 0,.str ([]:auJ)],[]⟩),
 (143,⟨.ea [(0,9,1),(1,3,1)],2,24,[.str ([]:auJ),.int .i64 0],[]⟩),
 (148,⟨.ea [(0,3,1),(1,9,1),(2,3,1),(3,3,1),(4,9,1)],5,56,[.int .i64 0,.str ([]:auJ),.int .i64 0,.int .i64 0,.str ([]:auJ)],[]⟩),
 (156,PB),
 (157,pr),
 (159,kF),
 (161,kF),
 (163,kF),
 (167,kF),
 (169,kF),
 (173,kF),
 (179,⟨.ea [(0,9,1),(1,2,1)],2,24,[.str ([]:auJ),.int .i64 0],[]⟩),
 (196,⟨.bT 198,1,24,[ag 4 bF ([]:List Expr)],[]⟩),
 (198,⟨.ea [(0,3,1),(1,2,1),(2,9,1),(3,196,1)],4,56,[.int .i64 0,.int .i64 0,.str ([]:auJ),ag 4 bF ([]:List Expr)],[]⟩),
 (200,⟨.ea [(0,3,1),(1,9,1),(2,3,1),(3,198,4),(7,198,4),(11,71,1),(12,71,1)],13,192,[.int .i64 0,.str ([]:auJ),.int .i64 0,.int .i64 0,.int .i64 0,.str ([]:auJ),ag 4 bF ([]:List Expr),.int .i64 0,.int .i64 0,.str ([]:auJ),ag 4 bF ([]:List Expr),ag 13 bH ([]:List Stmt),ag 13 bH ([]:List Stmt)],[]⟩),
 (202,pr),
 (204,H5),
 (206,⟨.ea [(0,34,11),(11,37,1),(12,38,1)],13,232,[.int .i64 0,.int .i64 0,.int .i64 0,ag 2 b4 ([]:List Row),ag 3 dk ([]:List be),ag 3 dh ([]:List bG),.int .i64 0,ag 5 cF ([]:List Part),ag 2 dq ([]:List bh),ag 8 du ([]:List Request),.int .u64 0,ag 4 cw ([]:List aY),ag 1 a6 ([]:List auJ)],[]⟩),
 (209,kF),
 (212,kF),
 (230,⟨.ea [(0,3,1),(1,3,1),(2,78,1)],3,40,[.int .i64 0,.int .i64 0,ag 3 d9 ([]:List bn)],[]⟩),
 (232,⟨.ea [(0,3,1),(1,2,1),(2,230,3)],5,56,[.int .i64 0,.int .i64 0,.int .i64 0,.int .i64 0,ag 3 d9 ([]:List bn)],[]⟩),
 (244,pr),
 (246,⟨.ea [(0,106,2),(2,3,1)],3,40,[.gW,ag 1 dc ([]:List Int),.int .i64 0],[(0,106)]⟩),
 (251,⟨.ea [(0,161,1)],1,8,[.i8],[]⟩),
 (252,⟨.ea [(0,161,1)],1,8,[.i8],[]⟩),
 (254,⟨.ea [(0,163,1)],1,8,[.i8],[]⟩),
 (255,⟨.ea [(0,163,1)],1,8,[.i8],[]⟩),
 (257,kF),
 (259,⟨.ea [(0,257,1)],1,8,[.i8],[]⟩),
 (262,kF),
 (263,⟨.ea [(0,262,1)],1,8,[.i8],[]⟩),
 (264,⟨.ea [(0,262,1)],1,8,[.i8],[]⟩),
 (268,⟨.ea [(0,167,1)],1,8,[.i8],[]⟩),
 (270,⟨.ea [(0,169,1)],1,8,[.i8],[]⟩),
 (271,⟨.ea [(0,169,1)],1,8,[.i8],[]⟩),
 (274,⟨.ea [(0,173,1)],1,8,[.i8],[]⟩),
 (277,⟨.ea [(0,159,1)],1,8,[.i8],[]⟩),
 (292,⟨.bT 341,1,24,[ag 4 b_ ([]:List Token)],[]⟩),
 (301,⟨.bT 304,1,24,[ag 20 jx ([]:List cJ)],[]⟩),
 (304,⟨.ea [(0,4,1),(1,200,13),(14,3,1),(15,198,4),(19,4,1)],20,272,[.bool false,.int .i64 0,.str ([]:auJ),.int .i64 0,.int .i64 0,.int .i64 0,.str ([]:auJ),ag 4 bF ([]:List Expr),.int .i64 0,.int .i64 0,.str ([]:auJ),ag 4 bF ([]:List Expr),ag 13 bH ([]:List Stmt),ag 13 bH ([]:List Stmt),.int .i64 0,.int .i64 0,.int .i64 0,.str ([]:auJ),ag 4 bF ([]:List Expr),.bool false],[]⟩),
 (315,⟨.ea [(0,3,1),(1,2,1)],2,16,[.int .i64 0,.int .i64 0],[]⟩),
 (316,kF),
 (317,kF),
 (319,kF),
 (320,kF),
 (323,kF),
 (327,pr),
 (329,H5),
 (331,pr),
 (333,H5),
 (337,pr),
 (339,kF),
 (341,⟨.ea [(0,3,1),(1,9,1),(2,2,1),(3,3,1)],4,40,[.int .i64 0,.str ([]:auJ),.int .i64 0,.int .i64 0],[]⟩),
 (359,kF),
 (360,pr),
 (362,⟨.ea [(0,3,1),(1,319,1),(2,320,1)],3,24,[.int .i64 0,.i8,.i8],[]⟩),
 (365,⟨.ea [(0,4,1),(1,4,1),(2,4,1),(3,4,1),(4,4,1),(5,4,1)],6,6,[.bool false,.bool false,.bool false,.bool false,.bool false,.bool false],[]⟩),
 (372,pr),
 (374,H5),
 (379,⟨.ea [(0,3,1),(1,41,1)],2,16,[.int .i64 0,.int .i64 0],[]⟩),
 (382,⟨.ea [(0,292,1),(1,3,1)],2,32,[ag 4 b_ ([]:List Token),.int .i64 0],[]⟩)]
def iq:fl Tryz.prog tt=true:=by kernel_rfl
def C6:Tryz.prog.follows .mixedOrders=true:=by kernel_rfl
end Go.Ab.Y
namespace Go.Ab.Y.T
open Go Go.Ab Go.Proofs
structure aF(f:FuncId)(args:List D)(eb:List (Nat×TypeId))(H:List (List aZ)){ρ:Type}(F:Option ρ)(out:ρ→Out)(cm:ρ→List (List aZ)):Prop where
 of:∀{r:ρ},F=some r→gj Tryz.prog f args eb H (out r) (cm r)
def rB(E:Nat)(rs:List ResultVar){ρ:Type}(out:ρ→Out)(cm:ρ→List (List aZ))(r:ρ):cr→aK→Prop:=sG tt E rs λo H'=>o=out r∧H'=cm r
def hy(s st:aK):Option aK:=(vq (s.env.map (·.1)) (s.H.map (·.1)) s.a1 st.env st.H st.a1).map (fit s)
noncomputable abbrev fE(N:Nat)(ops:Array Oper)(rs:List fw)(st:aK):=wu (hT Tryz.prog) tt N ops.toList rs st
noncomputable abbrev H6(N:Nat)(ops:Array Oper)(rs:List (Nat×List fw))(st:aK):=HO (hT Tryz.prog) tt N ops.toList (spread ops.toList.length 0 rs) st
noncomputable abbrev Ze(N:Nat)(ops:Array Oper)(gy:Nat)(rs:List (Nat×List fw))(st:aK):=CW (hT Tryz.prog) tt N ops.toList gy (st.a1+ops.toList.length) (spread ops.toList.length 0 rs) st
abbrev bk(l:List (Nat×aZ)):aK:=⟨l,[],0⟩
abbrev aa(x:Int):aZ:=⟨.v (.int .i64 x),none⟩
abbrev dK(x:Bool):aZ:=⟨.v (.bool x),none⟩
abbrev aM(x:auJ):aZ:=⟨.v (.str x),none⟩
abbrev aw{α:Type}[Inhabited α](k:Nat)(e:α→V)(l:List α):aZ:=⟨.v (ag k e l),none⟩
abbrev aA{α:Type}[Inhabited α](k:Nat)(e:α→V)(l:List α)(t:TypeId):aZ:=⟨.v (ag k e l),some t⟩
abbrev aV(r o:Nat):aZ:=⟨.ptr r o,none⟩
abbrev fA(x:V):aZ:=⟨.v x,none⟩
abbrev aC(x:Int):D:=.v (.int .i64 x)
abbrev cf(x:Bool):D:=.v (.bool x)
abbrev b5(x:auJ):D:=.v (.str x)
abbrev cj{α:Type}[Inhabited α](k:Nat)(e:α→V)(l:List α):D:=.v (ag k e l)
abbrev aH(d:D):Out:=.ret d none
def ajf(n:Nat):hE (n:Int) n=true:=agW ⟨Int.natCast_nonneg n,Int.le_refl _⟩
abbrev ak:=all_nil
def ab{p:Prop}{l:List Prop}(h:p)(ae:lp l):lp (p::l):=⟨h,ae⟩
def b3(q p:Prop):Prop:=p→q
def H7{p q:Prop}(h:b3 q p)(z:p):q:=h z
def Zf{p q:Prop}(h:p→q):b3 q p:=h
section
variable {p:Prop} {N E:Nat} {st:aK} {Q:cr→aK→Prop} {next:aK→Prop} {x y:Code} {id i j:Nat} {ops:Array Oper}
def bV(h:b3 (Q .normal st) p):b3 (cr.inBlock i Q (.exit i) st) p:=λz=>cr.ah6 (h z)
def y7(h:b3 (Q (.exit j) st) p)(dY:Nat.beq j i=false:=by kernel_rfl):b3 (cr.inBlock i Q (.exit j) st) p:=λz=>cr.ah7 dY (h z)
def Zg{r:Nat}(h:b3 (Q .ret (C1 r st)) p):b3 (Pp r Q .ret st) p:=h
def bw(h:b3 (ba Tryz.prog N E x (cr.then (ba Tryz.prog N E y Q) Q) st) p):b3 (ba Tryz.prog N E (.seq x y) Q st) p:=λz=>ba.seq (h z)
def bm(h:b3 (Q .normal st) p):b3 (ba Tryz.prog N E .skip Q st) p:=λz=>ba.skip (h z)
def Zh(r:Nat)(h:b3 (ba Tryz.prog N E x (Pp r Q) st) p):b3 (ba Tryz.prog N E x Q st) p:=λz=>ba.o6 r (h z)
def y8(pn:List Nat)(h:b3 (ba Tryz.prog N E x Q {env:=forget pn st.env,H:=st.H,a1:=st.a1}) p):b3 (ba Tryz.prog N E x Q st) p:=λz=>ba.forget pn (h z)
def ajg{l:Nat}(h:b3 (Q .normal st) p):b3 (ba Tryz.prog N E (.label l) Q st) p:=λz=>ba.label (h z)
def bW(h:b3 (Q (.exit i) st) p):b3 (ba Tryz.prog N E (.exit i) Q st) p:=λz=>ba.exit (h z)
def H8(h:b3 (Q .ret st) p):b3 (ba Tryz.prog N E .ret Q st) p:=λz=>ba.ret (h z)
def ajh(h:b3 (ba Tryz.prog N E x Q st) p):b3 (ba Tryz.prog N E (.scope x) Q st) p:=λz=>ba.scope (h z)
def es(h:b3 (ba Tryz.prog N E x (cr.inBlock i Q) st) p):b3 (ba Tryz.prog N E (.block i x) Q st) p:=λz=>ba.block (h z)
def ga(rs:List fw){cS:List Prop}(cH:lp cS)(dT:b3 (Q .normal (hv (fE N ops rs st))) p)(ah:jf (fE N ops rs st)=some cS:=by kernel_rfl):b3 (ba Tryz.prog N E (.region id ops false) Q st) p:=λz=>ba.rg iq rs ah cH (dT z)
def br(dT:b3 (Q .normal (hv (fE N ops [] st))) p)(ah:jf (fE N ops [] st)=some []:=by kernel_rfl):b3 (ba Tryz.prog N E (.region id ops false) Q st) p:=ga [] ak dT ah
def aG(rs:List fw){cS:List Prop}(cH:lp cS)(dT:b3 (ba Tryz.prog N E y Q (hv (fE N ops rs st))) p)(ah:jf (fE N ops rs st)=some cS:=by kernel_rfl):b3 (ba Tryz.prog N E (.seq (.region id ops false) y) Q st) p:=bw (ga (Q:=cr.then (ba Tryz.prog N E y Q) Q) rs cH dT ah)
def G(dT:b3 (ba Tryz.prog N E y Q (hv (fE N ops [] st))) p)(ah:jf (fE N ops [] st)=some []:=by kernel_rfl):b3 (ba Tryz.prog N E (.seq (.region id ops false) y) Q st) p:=aG [] ak dT ah
section
variable {f:FuncId} {args:List D} {eb:List (Nat×TypeId)} {H cm:List (List aZ)} {out:Out}
def k1(q:gj Tryz.prog f args eb H out cm)(dT:b3 (Q .normal (hv (fE N ops [bl q []] st))) p)(ah:jf (fE N ops [bl q []] st)=some [gj Tryz.prog f args eb H out cm]:=by kernel_rfl):b3 (ba Tryz.prog N E (.region id ops false) Q st) p:=ga [bl q []] (ab q ak) dT ah
def k2(q:gj Tryz.prog f args eb H out cm)(dT:b3 (Q .normal (hv (fE N ops [bY q []] st))) p)(ah:jf (fE N ops [bY q []] st)=some [gj Tryz.prog f args eb H out cm]:=by kernel_rfl):b3 (ba Tryz.prog N E (.region id ops false) Q st) p:=ga [bY q []] (ab q ak) dT ah
def ps(q:gj Tryz.prog f args eb H out cm)(dT:b3 (ba Tryz.prog N E y Q (hv (fE N ops [bl q []] st))) p)(ah:jf (fE N ops [bl q []] st)=some [gj Tryz.prog f args eb H out cm]:=by kernel_rfl):b3 (ba Tryz.prog N E (.seq (.region id ops false) y) Q st) p:=aG [bl q []] (ab q ak) dT ah
def gn(q:gj Tryz.prog f args eb H out cm)(dT:b3 (ba Tryz.prog N E y Q (hv (fE N ops [bY q []] st))) p)(ah:jf (fE N ops [bY q []] st)=some [gj Tryz.prog f args eb H out cm]:=by kernel_rfl):b3 (ba Tryz.prog N E (.seq (.region id ops false) y) Q st) p:=aG [bY q []] (ab q ak) dT ah
end
def jg(rs:List (Nat×List fw)){cS:List Prop}(cH:lp cS)(dT:b3 (Q .normal (hv (H6 N ops rs st))) p)(ah:jf (H6 N ops rs st)=some cS:=by kernel_rfl):b3 (ba Tryz.prog N E (.region id ops true) Q st) p:=λz=>ba.HQ iq C6 rs ah cH (dT z)
def cI(rs:List (Nat×List fw)){cS:List Prop}(cH:lp cS)(dT:b3 (ba Tryz.prog N E y Q (hv (H6 N ops rs st))) p)(ah:jf (H6 N ops rs st)=some cS:=by kernel_rfl):b3 (ba Tryz.prog N E (.seq (.region id ops true) y) Q st) p:=bw (jg (Q:=cr.then (ba Tryz.prog N E y Q) Q) rs cH dT ah)
def eu(x:V)(rs:List fw){cS:List Prop}(cH:lp cS)(dT:b3 (Q (.bj x) (hv (fE N ops rs st))) p)(ah:O8 (fE N ops rs st)=some (x,cS):=by kernel_rfl):b3 (ba Tryz.prog N E (.region id ops false) Q st) p:=λz=>ba.O9 iq rs ah cH (dT z)
def sK(gy:Nat)(x:V)(rs:List (Nat×List fw)){cS:List Prop}(cH:lp cS)(dT:∀n,b3 (Q (.bj x) {env:=[],H:=Pj (Ze N ops gy rs st),a1:=n}) p)(ah:Pi (Ze N ops gy rs st)=some (x,cS):=by kernel_rfl):b3 (ba Tryz.prog N E (.region id ops true) Q st) p:=λz=>ba.aiJ iq C6 gy rs ah cH λn=>dT n z
def C{α:Type}{b:Bool}{a q:Option α}{r:α}{c:Nat}(ax:b3 (ba Tryz.prog N E x Q st) (a=some r))(cc:b3 (ba Tryz.prog N E y Q st) (q=some r))(hc:(look st.env c).map (·.d)=some (.v (.bool b)):=by kernel_rfl):b3 (ba Tryz.prog N E (.cond (.tmp c) x y) Q st) ((bif b then a else q)=some r):=λh=>ba.O_ h hc ax cc
def aE{z:Code}(dT:b3 (ba Tryz.prog N E y (cr.then (ba Tryz.prog N E z Q) Q) (hv (fE N ops [] st))) p)(ah:jf (fE N ops [] st)=some []:=by kernel_rfl):b3 (ba Tryz.prog N E (.seq (.seq (.region id ops false) y) z) Q st) p:=bw (G dT ah)
def cp(h:b3 (ba Tryz.prog N E x (cr.inBlock i (cr.then (ba Tryz.prog N E y Q) Q)) st) p):b3 (ba Tryz.prog N E (.seq (.block i x) y) Q st) p:=bw (es h)
def bS(dT:b3 (ba Tryz.prog N E x (cr.inBlock i Q) (hv (fE N ops [] st))) p)(ah:jf (fE N ops [] st)=some []:=by kernel_rfl):b3 (ba Tryz.prog N E (.seq (.region id ops false) (.block i x)) Q st) p:=G (es dT) ah
def bo{α:Type}{b:Bool}{a q:Option α}{r:α}{c:Nat}(ax:b3 (Q .normal st) (a=some r))(cc:b3 (ba Tryz.prog N E y Q st) (q=some r))(hc:(look st.env c).map (·.d)=some (.v (.bool b)):=by kernel_rfl):b3 (ba Tryz.prog N E (.cond (.tmp c) .skip y) Q st) ((bif b then a else q)=some r):=C (bm ax) cc hc
def Zi{c:Nat}(ax:b3 (ba Tryz.prog N E x Q st) p)(hc:(look st.env c).map (·.d)=some (.v (.bool true)):=by kernel_rfl):b3 (ba Tryz.prog N E (.cond (.tmp c) x y) Q st) p:=λz=>ba.Yw hc (ax z)
def Zj{c:Nat}(cc:b3 (ba Tryz.prog N E y Q st) p)(hc:(look st.env c).map (·.d)=some (.v (.bool false)):=by kernel_rfl):b3 (ba Tryz.prog N E (.cond (.tmp c) x y) Q st) p:=λz=>ba.Pa hc (cc z)
section
variable {ρ:Type} {a r:ρ} {out:ρ→Out} {cm:ρ→List (List aZ)} {rs:List ResultVar}
def HL(ae:leave tt E rs st=some (out a,cm a):=by kernel_rfl):b3 (rB E rs out cm r .ret st) (some a=some r):=λh=>by
 obtain rfl:=Option.some.inj h;exact ah9 ae
def aji(H9:Nat)(ae:sF tt E H9 rs st=some (out a,cm a):=by kernel_rfl):b3 (rB E rs out cm r .ret st) (some a=some r):=λh=>by
 obtain rfl:=Option.some.inj h;exact ah' ae
def bg{Q:cr→aK→Prop}(av:rB E rs out cm r .ret st=Q .ret st:=by rfl)(ae:leave tt E rs st=some (out a,cm a):=by kernel_rfl):b3 (ba Tryz.prog N E .ret Q st) (some a=some r):=H8 λh=>av ▸ HL ae h
def ajj(H9:Nat){Q:cr→aK→Prop}(av:rB E rs out cm r .ret st=Q .ret st:=by rfl)(ae:sF tt E H9 rs st=some (out a,cm a):=by kernel_rfl):b3 (ba Tryz.prog N E .ret Q st) (some a=some r):=H8 λh=>av ▸ aji H9 ae h
def bi{Q:cr→aK→Prop}{id:Nat}{ops:Array Oper}(av:rB E rs out cm r .ret (hv (fE N ops [] st))=Q .ret (hv (fE N ops [] st)):=by rfl)(ae:leave tt E rs (hv (fE N ops [] st))=some (out a,cm a):=by kernel_rfl)(ah:jf (fE N ops [] st)=some []:=by kernel_rfl):b3 (ba Tryz.prog N E (.seq (.region id ops false) .ret) Q st) (some a=some r):=G (bg av ae) ah
def cy{Q:cr→aK→Prop}{id:Nat}{ops:Array Oper}{b:Bool}{q:Option ρ}{c:Nat}{y:Code}(cc:b3 (ba Tryz.prog N E y Q st) (q=some r))(av:rB E rs out cm r .ret (hv (fE N ops [] st))=Q .ret (hv (fE N ops [] st)):=by rfl)(ae:leave tt E rs (hv (fE N ops [] st))=some (out a,cm a):=by kernel_rfl)(ah:jf (fE N ops [] st)=some []:=by kernel_rfl)(hc:(look st.env c).map (·.d)=some (.v (.bool b)):=by kernel_rfl):b3 (ba Tryz.prog N E (.cond (.tmp c) (.seq (.region id ops false) .ret) y) Q st) ((bif b then some a else q)=some r):=C (bi av ae ah) cc hc
def aO{Q:cr→aK→Prop}{id:Nat}{ops:Array Oper}{b:Bool}{q:Option ρ}{c:Nat}(cc:b3 (Q .normal st) (q=some r))(av:rB E rs out cm r .ret (hv (fE N ops [] st))=Q .ret (hv (fE N ops [] st)):=by rfl)(ae:leave tt E rs (hv (fE N ops [] st))=some (out a,cm a):=by kernel_rfl)(ah:jf (fE N ops [] st)=some []:=by kernel_rfl)(hc:(look st.env c).map (·.d)=some (.v (.bool b)):=by kernel_rfl):b3 (ba Tryz.prog N E (.cond (.tmp c) (.seq (.region id ops false) .ret) .skip) Q st) ((bif b then some a else q)=some r):=cy (bm cc) av ae ah hc
def k3(ae:leave tt E rs st=some (out a,cm a):=by kernel_rfl):b3 (rB E rs out cm r .normal st) (some a=some r):=λh=>by
 obtain rfl:=Option.some.inj h;exact OU ae
def dZ{x:V}(ae:(Hq E st.H).map oo=some (cm a):=by kernel_rfl)(hx:out a = .bj x:=by kernel_rfl):b3 (rB E rs out cm r (.bj x) st) (some a=some r):=λh=>by
 obtain rfl:=Option.some.inj h;show sG tt E rs _ _ _
 rw [hx];exact ah_ ae
end
def aI{f:FuncId}{fn:Func}{c:Code}{args:List D}{eb:List (Nat×TypeId)}{H:List (List aZ)}{ρ:Type}{F:Option ρ}{out:ρ→Out}{cm:ρ→List (List aZ)}(cc:Tryz.prog.funcs[f]? = some fn)(hb:fn.body=some c)
 (h : ∀ {r : ρ}, b3 (ba Tryz.prog fn.ntmps H.length c (rB H.length fn.results.toList out cm r) { env := h5 args eb, H := da 0 H, a1 := H.length }) (F = some r)) (kc : decide (fn.name = "runtime.NumGoroutine") = false := by rfl) (ha : Nat.ble args.length fn.ntmps = true := by rfl) : aF f args eb H F out cm :=
 ⟨λh0=>ah8 iq cc hb kc ha (h h0)⟩
section
variable {α β:Type} {F:Option α} {g:α→Option β} {r:β} {f:FuncId} {args:List D} {eb:List (Nat×TypeId)} {H:List (List aZ)} {out:α→Out} {cm:α→List (List aZ)}
def bq(c:aF f args eb H F out cm)(dT:∀a,b3 (ba Tryz.prog N E y Q (hv (fE N ops [.call (out a) none []] st))) (g a=some r))(ah:∀a,jf (fE N ops [.call (out a) none []] st)=some [gj Tryz.prog f args eb H (out a) (cm a)]:=by intros;kernel_rfl):b3 (ba Tryz.prog N E (.seq (.region id ops false) y) Q st) (Option.bind F g=some r):=λh=>
 let ⟨a,Z,ad⟩:=bind_some h
 aG [.call (out a) none []] (ab (c.of Z) ak) (dT a) (ah a) ad
def fo{z:Code}(c:aF f args eb H F out cm)(dT:∀a,b3 (ba Tryz.prog N E y (cr.then (ba Tryz.prog N E z Q) Q) (hv (fE N ops [.call (out a) none []] st))) (g a=some r))(ah:∀a,jf (fE N ops [.call (out a) none []] st)=some [gj Tryz.prog f args eb H (out a) (cm a)]:=by intros;kernel_rfl):b3 (ba Tryz.prog N E (.seq (.seq (.region id ops false) y) z) Q st) (Option.bind F g=some r):=bw (bq c dT ah)
def fY(c:aF f args eb H F out cm)(dT:∀a,b3 (ba Tryz.prog N E y Q (hv (fE N ops [.call (out a) (some (cm a)) []] st))) (g a=some r))(ah:∀a,jf (fE N ops [.call (out a) (some (cm a)) []] st)=some [gj Tryz.prog f args eb H (out a) (cm a)]:=by intros;kernel_rfl):b3 (ba Tryz.prog N E (.seq (.region id ops false) y) Q st) (Option.bind F g=some r):=λh=>
 let ⟨a,Z,ad⟩:=bind_some h
 aG [.call (out a) (some (cm a)) []] (ab (c.of Z) ak) (dT a) (ah a) ad
def qr{b:Bool}{d:Option α}(c:aF f args eb H F out cm)(dT:∀a,b3 (ba Tryz.prog N E y Q (hv (fE N ops [.call (out a) none []] st))) (g a=some r))(ah:∀a,jf (fE N ops [.call (out a) none []] st)=some [b=true→gj Tryz.prog f args eb H (out a) (cm a)]:=by intros;kernel_rfl):b3 (ba Tryz.prog N E (.seq (.region id ops false) y) Q st) (Option.bind (bif b then F else d) g=some r):=λh=>
 let ⟨a,Z,ad⟩:=bind_some h
 aG [.call (out a) none []] (ab (λhb=>c.of (by rw [hb]at Z;exact Z)) ak) (dT a) (ah a) ad
def jy{g:Bool}{a:Option β}(dT:b3 (ba Tryz.prog N E y Q (hv (fE N ops [] st))) (a=some r))(ah:jf (fE N ops [] st)=some [g=true]:=by kernel_rfl):b3 (ba Tryz.prog N E (.seq (.region id ops false) y) Q st) (ar g a=some r):=λh=>aG [] (ab (oq h).1 ak) dT ah (oq h).2
def gz{g:Bool}{a:Option β}(dT:b3 (ba Tryz.prog N E y Q (hv (fE N ops [.raw] st))) (a=some r))(ah:jf (fE N ops [.raw] st)=some [g=true]:=by kernel_rfl):b3 (ba Tryz.prog N E (.seq (.region id ops false) y) Q st) (ar g a=some r):=λh=>aG [.raw] (ab (oq h).1 ak) dT ah (oq h).2
end
end
section
variable {α β ec hU:Type} {p:Prop}
def dI{q:Prop}(a:p)(k:p→q):q:=k a
def ut{Zk:Type}{X:Option Zk}(c:α ⊕ β→Zk){x:α ⊕ β}{f:α→Option ec}{g:β→Option ec}{r:ec}(q:X=some (c x))(ef:∀a,X=some (c (.inl a))→b3 p (f a=some r))(aj:∀b,X=some (c (.inr b))→b3 p (g b=some r)):b3 p (iB.on x f g=some r):=λh=>
 match x,q,h with
 |.inl a,q,h=>ef a q h
 |.inr b,q,h=>aj b q h
def d_{r:α}:b3 p (none=some r):=λh=>by cases h
def ay{b:Bool}{x:Option α}{r:α}(k:b=true→b3 p (x=some r)):b3 p (ar b x=some r):=λh=>k (oq h).1 (oq h).2
def az{x:Option α}{f:α→Option β}{r:β}(k:∀a,x=some a→b3 p (f a=some r)):b3 p (Option.bind x f=some r):=λh=>let ⟨a,Z,ad⟩:=bind_some h;k a Z ad
def ek{x:Option (aD α β)}{f:α→β→Option ec}{g:V→β→Option ec}{r:ec}(ef:∀a b,x=some (.ret a b)→b3 p (f a b=some r))(aj:∀y b,x=some (.bj y b)→b3 p (g y b=some r)):b3 p (Option.bind x (λz=>aD.on z f g)=some r):=λh=>
 let ⟨z,Z,ad⟩:=bind_some h
 match z,Z,ad with
 |.ret a b,Z,ad=>ef a b Z ad
 |.bj y b,Z,ad=>aj y b Z ad
end
section
variable {p:Prop} {ρ:Type} {r:ρ} {N E:Nat} {st:aK} {Q:cr→aK→Prop} {x y:Code}
def cG{ce:aK}{f:Option ρ}(ah:hy (ce) st=some (ce):=by kernel_rfl):b3 (hy (ce) st=some (ce)∧f=some r) (f=some r):=λh=>⟨ah,h⟩
def cQ(ce:aK)(f:Option ρ)(Z:b3 (ba Tryz.prog N E x (cr.then (λb'=>hy (ce) b'=some (ce)∧f=some r) Q) st) p)(ad:b3 (ba Tryz.prog N E y Q (ce)) (f=some r))(ch:Nat.ble E (ce).a1=true:=by intros;kernel_rfl):b3 (ba Tryz.prog N E (.seq x y) Q st) p:=λz=>
 ba.cut _ (Z z) λb' ⟨ah,h⟩=>ba.Pr _ _ _ _ ah (ch) (ad h)
end
section
variable {p:Prop} {α:Type} {ρ:Type} {r:ρ} {N E:Nat} {st:aK} {Q:cr→aK→Prop} {x y:Code}
def a8{ce:α→aK}{f:α→Option ρ}{a0:_}(ah:hy (ce a0) st=some (ce a0):=by kernel_rfl):b3 (∃a0,hy (ce a0) st=some (ce a0)∧f a0=some r) (f a0=some r):=λh=>⟨a0,ah,h⟩
def df(ce:α→aK)(f:α→Option ρ)(Z:b3 (ba Tryz.prog N E x (cr.then (λb'=>∃a0,hy (ce a0) b'=some (ce a0)∧f a0=some r) Q) st) p)(ad:∀a0,b3 (ba Tryz.prog N E y Q (ce a0)) (f a0=some r))(ch:∀a0,Nat.ble E (ce a0).a1=true:=by intros;kernel_rfl):b3 (ba Tryz.prog N E (.seq x y) Q st) p:=λz=>
 ba.cut _ (Z z) λb' ⟨a0,ah,h⟩=>ba.Pr _ _ _ _ ah (ch a0) (ad a0 h)
def dE(ce:α→aK)(F:Nat→α→Option ρ)(B:(α→Option ρ)→α→Option ρ){n:Nat}{a0:_}(body:∀k a0,b3 (ba Tryz.prog N E x (cr.then (λb'=>∃a0,hy (ce a0) b'=some (ce a0)∧k a0=some r) Q) (ce a0)) (B k a0=some r))(hi:hy (ce a0) st=some (ce a0):=by kernel_rfl)(ch:∀a0,Nat.ble E (ce a0).a1=true:=by intros;kernel_rfl)(h0:∀a0,F 0 a0=none:=by intros;rfl)(hs:∀m a0,F (m+1) a0=B (F m) a0:=by intros;rfl):b3 (ba Tryz.prog N E (.loop x) Q st) (F n a0=some r):=by
 intro h;refine ba.loop (σ:=α) (λm (s:α) st=>hy (ce s) st=some (ce s)∧F m s=some r) ?_ (n:=n) (s:=a0) ⟨hi,h⟩
 rintro m a0 b' ⟨ah,h⟩
 cases m with
 |zero=>have ad:=(h0 a0).symm.trans h;cases ad
 |succ m=>
  refine⟨m,rfl,ba.Pr _ _ _ _ ah (ch a0) ((body (F m) a0 ((hs m a0).symm.trans h)).mono ?_)⟩
  intro fI atI av;cases fI with
  |normal=>obtain⟨a0,g1,g2⟩:=av;exact⟨a0,g1,g2⟩
  |exit i=>exact av
  |ret=>exact av
  |bj x=>exact av
end
def sL{Q:cr→aK→Prop}{A B:aK→Prop}(h:∀st,A st→B st):∀fI st,cr.then A Q fI st→cr.then B Q fI st:=λfI st av=>by cases fI<;>first|exact h _ av|exact av
section
variable {p:Prop} {α β:Type} {ρ:Type} {r:ρ} {N E:Nat} {st:aK} {Q:cr→aK→Prop} {x y:Code}
def dA{ce:α→β→aK}{f:α→β→Option ρ}{a0 a_:_}(ah:hy (ce a0 a_) st=some (ce a0 a_):=by kernel_rfl):b3 (∃a0 a_,hy (ce a0 a_) st=some (ce a0 a_)∧f a0 a_=some r) (f a0 a_=some r):=λh=>⟨a0,a_,ah,h⟩
def h8(ce:α→β→aK)(f:α→β→Option ρ)(Z:b3 (ba Tryz.prog N E x (cr.then (λb'=>∃a0 a_,hy (ce a0 a_) b'=some (ce a0 a_)∧f a0 a_=some r) Q) st) p)(ad:∀a0 a_,b3 (ba Tryz.prog N E y Q (ce a0 a_)) (f a0 a_=some r))(ch:∀a0 a_,Nat.ble E (ce a0 a_).a1=true:=by intros;kernel_rfl):b3 (ba Tryz.prog N E (.seq x y) Q st) p:=
 df (λx:α×β=>ce x.1 x.2) (λx=>f x.1 x.2) (λz=>(Z z).mono (sL λ_ ⟨a0,a_,g⟩=>⟨(a0,a_),g⟩)) (λx=>ad x.1 x.2) λx=>ch x.1 x.2
def fZ(ce:α→β→aK)(F:Nat→α→β→Option ρ)(B:(α→β→Option ρ)→α→β→Option ρ){n:Nat}{a0 a_:_}(body:∀k a0 a_,b3 (ba Tryz.prog N E x (cr.then (λb'=>∃a0 a_,hy (ce a0 a_) b'=some (ce a0 a_)∧k a0 a_=some r) Q) (ce a0 a_)) (B k a0 a_=some r))(hi:hy (ce a0 a_) st=some (ce a0 a_):=by kernel_rfl)(ch:∀a0 a_,Nat.ble E (ce a0 a_).a1=true:=by intros;kernel_rfl)(h0:∀a0 a_,F 0 a0 a_=none:=by intros;rfl)(hs:∀m a0 a_,F (m+1) a0 a_=B (F m) a0 a_:=by intros;rfl):b3 (ba Tryz.prog N E (.loop x) Q st) (F n a0 a_=some r):=
 dE (λx:α×β=>ce x.1 x.2) (λm x=>F m x.1 x.2) (λk x=>B (λa0 a_=>k (a0,a_)) x.1 x.2) (a0:=(a0,a_)) (λk x h=>(body (λa0 a_=>k (a0,a_)) x.1 x.2 h).mono (sL λ_ ⟨a0,a_,g⟩=>⟨(a0,a_),g⟩)) hi (λx=>ch x.1 x.2) (λx=>h0 x.1 x.2) λm x=>hs m x.1 x.2
end
section
variable {p:Prop} {α β ec:Type} {ρ:Type} {r:ρ} {N E:Nat} {st:aK} {Q:cr→aK→Prop} {x y:Code}
def f0{ce:α→β→ec→aK}{f:α→β→ec→Option ρ}{a0 a_ a2:_}(ah:hy (ce a0 a_ a2) st=some (ce a0 a_ a2):=by kernel_rfl):b3 (∃a0 a_ a2,hy (ce a0 a_ a2) st=some (ce a0 a_ a2)∧f a0 a_ a2=some r) (f a0 a_ a2=some r):=λh=>⟨a0,a_,a2,ah,h⟩
def nC(ce:α→β→ec→aK)(f:α→β→ec→Option ρ)(Z:b3 (ba Tryz.prog N E x (cr.then (λb'=>∃a0 a_ a2,hy (ce a0 a_ a2) b'=some (ce a0 a_ a2)∧f a0 a_ a2=some r) Q) st) p)(ad:∀a0 a_ a2,b3 (ba Tryz.prog N E y Q (ce a0 a_ a2)) (f a0 a_ a2=some r))(ch:∀a0 a_ a2,Nat.ble E (ce a0 a_ a2).a1=true:=by intros;kernel_rfl):b3 (ba Tryz.prog N E (.seq x y) Q st) p:=
 df (λx:α×β×ec=>ce x.1 x.2.1 x.2.2) (λx=>f x.1 x.2.1 x.2.2) (λz=>(Z z).mono (sL λ_ ⟨a0,a_,a2,g⟩=>⟨(a0,a_,a2),g⟩)) (λx=>ad x.1 x.2.1 x.2.2) λx=>ch x.1 x.2.1 x.2.2
def mF(ce:α→β→ec→aK)(F:Nat→α→β→ec→Option ρ)(B:(α→β→ec→Option ρ)→α→β→ec→Option ρ){n:Nat}{a0 a_ a2:_}(body:∀k a0 a_ a2,b3 (ba Tryz.prog N E x (cr.then (λb'=>∃a0 a_ a2,hy (ce a0 a_ a2) b'=some (ce a0 a_ a2)∧k a0 a_ a2=some r) Q) (ce a0 a_ a2)) (B k a0 a_ a2=some r))(hi:hy (ce a0 a_ a2) st=some (ce a0 a_ a2):=by kernel_rfl)(ch:∀a0 a_ a2,Nat.ble E (ce a0 a_ a2).a1=true:=by intros;kernel_rfl)(h0:∀a0 a_ a2,F 0 a0 a_ a2=none:=by intros;rfl)(hs:∀m a0 a_ a2,F (m+1) a0 a_ a2=B (F m) a0 a_ a2:=by intros;rfl):b3 (ba Tryz.prog N E (.loop x) Q st) (F n a0 a_ a2=some r):=
 dE (λx:α×β×ec=>ce x.1 x.2.1 x.2.2) (λm x=>F m x.1 x.2.1 x.2.2) (λk x=>B (λa0 a_ a2=>k (a0,a_,a2)) x.1 x.2.1 x.2.2) (a0:=(a0,a_,a2)) (λk x h=>(body (λa0 a_ a2=>k (a0,a_,a2)) x.1 x.2.1 x.2.2 h).mono (sL λ_ ⟨a0,a_,a2,g⟩=>⟨(a0,a_,a2),g⟩)) hi (λx=>ch x.1 x.2.1 x.2.2) (λx=>h0 x.1 x.2.1 x.2.2) λm x=>hs m x.1 x.2.1 x.2.2
end
section
variable {p:Prop} {α β ec hU:Type} {ρ:Type} {r:ρ} {N E:Nat} {st:aK} {Q:cr→aK→Prop} {x y:Code}
def oz{ce:α→β→ec→hU→aK}{f:α→β→ec→hU→Option ρ}{a0 a_ a2 a3:_}(ah:hy (ce a0 a_ a2 a3) st=some (ce a0 a_ a2 a3):=by kernel_rfl):b3 (∃a0 a_ a2 a3,hy (ce a0 a_ a2 a3) st=some (ce a0 a_ a2 a3)∧f a0 a_ a2 a3=some r) (f a0 a_ a2 a3=some r):=λh=>⟨a0,a_,a2,a3,ah,h⟩
def ajk(ce:α→β→ec→hU→aK)(f:α→β→ec→hU→Option ρ)(Z:b3 (ba Tryz.prog N E x (cr.then (λb'=>∃a0 a_ a2 a3,hy (ce a0 a_ a2 a3) b'=some (ce a0 a_ a2 a3)∧f a0 a_ a2 a3=some r) Q) st) p)(ad:∀a0 a_ a2 a3,b3 (ba Tryz.prog N E y Q (ce a0 a_ a2 a3)) (f a0 a_ a2 a3=some r))(ch:∀a0 a_ a2 a3,Nat.ble E (ce a0 a_ a2 a3).a1=true:=by intros;kernel_rfl):b3 (ba Tryz.prog N E (.seq x y) Q st) p:=
 df (λx:α×β×ec×hU=>ce x.1 x.2.1 x.2.2.1 x.2.2.2) (λx=>f x.1 x.2.1 x.2.2.1 x.2.2.2) (λz=>(Z z).mono (sL λ_ ⟨a0,a_,a2,a3,g⟩=>⟨(a0,a_,a2,a3),g⟩)) (λx=>ad x.1 x.2.1 x.2.2.1 x.2.2.2) λx=>ch x.1 x.2.1 x.2.2.1 x.2.2.2
def qs(ce:α→β→ec→hU→aK)(F:Nat→α→β→ec→hU→Option ρ)(B:(α→β→ec→hU→Option ρ)→α→β→ec→hU→Option ρ){n:Nat}{a0 a_ a2 a3:_}(body:∀k a0 a_ a2 a3,b3 (ba Tryz.prog N E x (cr.then (λb'=>∃a0 a_ a2 a3,hy (ce a0 a_ a2 a3) b'=some (ce a0 a_ a2 a3)∧k a0 a_ a2 a3=some r) Q) (ce a0 a_ a2 a3)) (B k a0 a_ a2 a3=some r))(hi:hy (ce a0 a_ a2 a3) st=some (ce a0 a_ a2 a3):=by kernel_rfl)(ch:∀a0 a_ a2 a3,Nat.ble E (ce a0 a_ a2 a3).a1=true:=by intros;kernel_rfl)(h0:∀a0 a_ a2 a3,F 0 a0 a_ a2 a3=none:=by intros;rfl)(hs:∀m a0 a_ a2 a3,F (m+1) a0 a_ a2 a3=B (F m) a0 a_ a2 a3:=by intros;rfl):b3 (ba Tryz.prog N E (.loop x) Q st) (F n a0 a_ a2 a3=some r):=
 dE (λx:α×β×ec×hU=>ce x.1 x.2.1 x.2.2.1 x.2.2.2) (λm x=>F m x.1 x.2.1 x.2.2.1 x.2.2.2) (λk x=>B (λa0 a_ a2 a3=>k (a0,a_,a2,a3)) x.1 x.2.1 x.2.2.1 x.2.2.2) (a0:=(a0,a_,a2,a3)) (λk x h=>(body (λa0 a_ a2 a3=>k (a0,a_,a2,a3)) x.1 x.2.1 x.2.2.1 x.2.2.2 h).mono (sL λ_ ⟨a0,a_,a2,a3,g⟩=>⟨(a0,a_,a2,a3),g⟩)) hi (λx=>ch x.1 x.2.1 x.2.2.1 x.2.2.2) (λx=>h0 x.1 x.2.1 x.2.2.1 x.2.2.2) λm x=>hs m x.1 x.2.1 x.2.2.1 x.2.2.2
end
section
variable {p:Prop} {α β ec hU lT:Type} {ρ:Type} {r:ρ} {N E:Nat} {st:aK} {Q:cr→aK→Prop} {x y:Code}
def PC{ce:α→β→ec→hU→lT→aK}{f:α→β→ec→hU→lT→Option ρ}{a0 a_ a2 a3 a4:_}(ah:hy (ce a0 a_ a2 a3 a4) st=some (ce a0 a_ a2 a3 a4):=by kernel_rfl):b3 (∃a0 a_ a2 a3 a4,hy (ce a0 a_ a2 a3 a4) st=some (ce a0 a_ a2 a3 a4)∧f a0 a_ a2 a3 a4=some r) (f a0 a_ a2 a3 a4=some r):=λh=>⟨a0,a_,a2,a3,a4,ah,h⟩
def ajl(ce:α→β→ec→hU→lT→aK)(f:α→β→ec→hU→lT→Option ρ)(Z:b3 (ba Tryz.prog N E x (cr.then (λb'=>∃a0 a_ a2 a3 a4,hy (ce a0 a_ a2 a3 a4) b'=some (ce a0 a_ a2 a3 a4)∧f a0 a_ a2 a3 a4=some r) Q) st) p)(ad:∀a0 a_ a2 a3 a4,b3 (ba Tryz.prog N E y Q (ce a0 a_ a2 a3 a4)) (f a0 a_ a2 a3 a4=some r))(ch:∀a0 a_ a2 a3 a4,Nat.ble E (ce a0 a_ a2 a3 a4).a1=true:=by intros;kernel_rfl):b3 (ba Tryz.prog N E (.seq x y) Q st) p:=
 df (λx:α×β×ec×hU×lT=>ce x.1 x.2.1 x.2.2.1 x.2.2.2.1 x.2.2.2.2) (λx=>f x.1 x.2.1 x.2.2.1 x.2.2.2.1 x.2.2.2.2) (λz=>(Z z).mono (sL λ_ ⟨a0,a_,a2,a3,a4,g⟩=>⟨(a0,a_,a2,a3,a4),g⟩)) (λx=>ad x.1 x.2.1 x.2.2.1 x.2.2.2.1 x.2.2.2.2) λx=>ch x.1 x.2.1 x.2.2.1 x.2.2.2.1 x.2.2.2.2
def ajm(ce:α→β→ec→hU→lT→aK)(F:Nat→α→β→ec→hU→lT→Option ρ)(B:(α→β→ec→hU→lT→Option ρ)→α→β→ec→hU→lT→Option ρ){n:Nat}{a0 a_ a2 a3 a4:_}(body:∀k a0 a_ a2 a3 a4,b3 (ba Tryz.prog N E x (cr.then (λb'=>∃a0 a_ a2 a3 a4,hy (ce a0 a_ a2 a3 a4) b'=some (ce a0 a_ a2 a3 a4)∧k a0 a_ a2 a3 a4=some r) Q) (ce a0 a_ a2 a3 a4)) (B k a0 a_ a2 a3 a4=some r))(hi:hy (ce a0 a_ a2 a3 a4) st=some (ce a0 a_ a2 a3 a4):=by kernel_rfl)(ch:∀a0 a_ a2 a3 a4,Nat.ble E (ce a0 a_ a2 a3 a4).a1=true:=by intros;kernel_rfl)(h0:∀a0 a_ a2 a3 a4,F 0 a0 a_ a2 a3 a4=none:=by intros;rfl)(hs:∀m a0 a_ a2 a3 a4,F (m+1) a0 a_ a2 a3 a4=B (F m) a0 a_ a2 a3 a4:=by intros;rfl):b3 (ba Tryz.prog N E (.loop x) Q st) (F n a0 a_ a2 a3 a4=some r):=
 dE (λx:α×β×ec×hU×lT=>ce x.1 x.2.1 x.2.2.1 x.2.2.2.1 x.2.2.2.2) (λm x=>F m x.1 x.2.1 x.2.2.1 x.2.2.2.1 x.2.2.2.2) (λk x=>B (λa0 a_ a2 a3 a4=>k (a0,a_,a2,a3,a4)) x.1 x.2.1 x.2.2.1 x.2.2.2.1 x.2.2.2.2) (a0:=(a0,a_,a2,a3,a4)) (λk x h=>(body (λa0 a_ a2 a3 a4=>k (a0,a_,a2,a3,a4)) x.1 x.2.1 x.2.2.1 x.2.2.2.1 x.2.2.2.2 h).mono (sL λ_ ⟨a0,a_,a2,a3,a4,g⟩=>⟨(a0,a_,a2,a3,a4),g⟩)) hi (λx=>ch x.1 x.2.1 x.2.2.1 x.2.2.2.1 x.2.2.2.2) (λx=>h0 x.1 x.2.1 x.2.2.1 x.2.2.2.1 x.2.2.2.2) λm x=>hs m x.1 x.2.1 x.2.2.1 x.2.2.2.1 x.2.2.2.2
end
section
variable {p:Prop} {α β ec hU lT wA:Type} {ρ:Type} {r:ρ} {N E:Nat} {st:aK} {Q:cr→aK→Prop} {x y:Code}
def ajn{ce:α→β→ec→hU→lT→wA→aK}{f:α→β→ec→hU→lT→wA→Option ρ}{a0 a_ a2 a3 a4 a5:_}(ah:hy (ce a0 a_ a2 a3 a4 a5) st=some (ce a0 a_ a2 a3 a4 a5):=by kernel_rfl):b3 (∃a0 a_ a2 a3 a4 a5,hy (ce a0 a_ a2 a3 a4 a5) st=some (ce a0 a_ a2 a3 a4 a5)∧f a0 a_ a2 a3 a4 a5=some r) (f a0 a_ a2 a3 a4 a5=some r):=λh=>⟨a0,a_,a2,a3,a4,a5,ah,h⟩
def ajo(ce:α→β→ec→hU→lT→wA→aK)(F:Nat→α→β→ec→hU→lT→wA→Option ρ)(B:(α→β→ec→hU→lT→wA→Option ρ)→α→β→ec→hU→lT→wA→Option ρ){n:Nat}{a0 a_ a2 a3 a4 a5:_}(body:∀k a0 a_ a2 a3 a4 a5,b3 (ba Tryz.prog N E x (cr.then (λb'=>∃a0 a_ a2 a3 a4 a5,hy (ce a0 a_ a2 a3 a4 a5) b'=some (ce a0 a_ a2 a3 a4 a5)∧k a0 a_ a2 a3 a4 a5=some r) Q) (ce a0 a_ a2 a3 a4 a5)) (B k a0 a_ a2 a3 a4 a5=some r))(hi:hy (ce a0 a_ a2 a3 a4 a5) st=some (ce a0 a_ a2 a3 a4 a5):=by kernel_rfl)(ch:∀a0 a_ a2 a3 a4 a5,Nat.ble E (ce a0 a_ a2 a3 a4 a5).a1=true:=by intros;kernel_rfl)(h0:∀a0 a_ a2 a3 a4 a5,F 0 a0 a_ a2 a3 a4 a5=none:=by intros;rfl)(hs:∀m a0 a_ a2 a3 a4 a5,F (m+1) a0 a_ a2 a3 a4 a5=B (F m) a0 a_ a2 a3 a4 a5:=by intros;rfl):b3 (ba Tryz.prog N E (.loop x) Q st) (F n a0 a_ a2 a3 a4 a5=some r):=
 dE (λx:α×β×ec×hU×lT×wA=>ce x.1 x.2.1 x.2.2.1 x.2.2.2.1 x.2.2.2.2.1 x.2.2.2.2.2) (λm x=>F m x.1 x.2.1 x.2.2.1 x.2.2.2.1 x.2.2.2.2.1 x.2.2.2.2.2) (λk x=>B (λa0 a_ a2 a3 a4 a5=>k (a0,a_,a2,a3,a4,a5)) x.1 x.2.1 x.2.2.1 x.2.2.2.1 x.2.2.2.2.1 x.2.2.2.2.2) (a0:=(a0,a_,a2,a3,a4,a5)) (λk x h=>(body (λa0 a_ a2 a3 a4 a5=>k (a0,a_,a2,a3,a4,a5)) x.1 x.2.1 x.2.2.1 x.2.2.2.1 x.2.2.2.2.1 x.2.2.2.2.2 h).mono (sL λ_ ⟨a0,a_,a2,a3,a4,a5,g⟩=>⟨(a0,a_,a2,a3,a4,a5),g⟩)) hi (λx=>ch x.1 x.2.1 x.2.2.1 x.2.2.2.1 x.2.2.2.2.1 x.2.2.2.2.2) (λx=>h0 x.1 x.2.1 x.2.2.1 x.2.2.2.1 x.2.2.2.2.1 x.2.2.2.2.2) λm x=>hs m x.1 x.2.1 x.2.2.1 x.2.2.2.1 x.2.2.2.2.1 x.2.2.2.2.2
end
end Go.Ab.Y.T
namespace Go.Ab.Y
open Go Go.Ab Go.Proofs
def H_(n:Nat)(s:auJ):Option auJ:=ar (decide (s.length≤281474976710656))<|some s
def Ia(n:Nat)(s:auJ)(c:Int):Option Int:=some (Lib.indexByte s c.toNat.toUInt8)
def y9(n:Nat)(s:auJ):Option Int:=ar (decide (s.length≤140737488351232))<|some (hO s)
def C7(s:auJ):Int ⊕ Int:=
 match Lib.parseIntB 64 s with
 |.ok v=>.inl v
 |.range=>.inr (Lib.intSat 64 s)
 |_=>.inr 0
def y'(n:Nat)(s:auJ)(base:Int)(Ib:Int):Option (Int ⊕ Int):=
 ar (decide (base=10∧Ib=64∧s.length≤281474976710656))<|some (C7 s)
def Ic(n:Nat)(i:Int)(base:Int):Option auJ:=ar (decide (base=10 ∧ -9223372036854775808≤i∧i≤9223372036854775807))<|some (Lib.itoa i)
def Ie(n:Nat)(elems:List auJ)(sep:auJ):Option auJ:=ar (decide (elems.length≤140737488355328∧(Lib.join elems sep).length≤140737488355328))<|some (Lib.join elems sep)
open Go Go.Ab Go.Proofs
def ajp{n:Nat}{s:auJ}{r:auJ}(h:H_ n s=some r):gj Tryz.prog 369 [.v (.str s)] [] [] (.ret (.v (.str r)) none) []:=by
 unfold H_ at h;obtain⟨g,h⟩:=oq h;obtain rfl:=Option.some.inj h;refine wq (fd:=Tryz.f369) Tryz.func369 rfl rfl (vsOf:=λvs=>vs=[.string ⟨⟨s⟩⟩]) (λM β vs ae ah=>?_) (λvs w ao hg=>?_)
 ·match vs,ae with
  |[v],_=>
   have:=mY (ah 0 v _ rfl rfl)
   rw [this]
 ·subst ao;refine(Tryz.stringslite_Clone ⟨⟨s⟩⟩ w (show s.length≤281474976710656 from of_decide_eq_true g)).mono ?_
  rintro e w' ⟨rfl,hb⟩
  refine⟨_,rfl,λM β=>.v _ _ (.str _),λb bc h=>?_,by rw [hb.os,hb.output]⟩
  rw [hb.block b (Array.getElem?_eq_some_iff.1 h).1];exact h
def ajq{n:Nat}{s:auJ}{c:Int}{r:Int}(h:Ia n s c=some r):gj Tryz.prog 395 [.v (.str s),.v (.int .u8 c)] [] [] (.ret (.v (.int .i64 r)) none) []:=by
 unfold Ia at h;obtain rfl:=Option.some.inj h;refine wq (fd:=Tryz.f395) Tryz.func395 rfl rfl (vsOf:=λvs=>vs=[.string ⟨⟨s⟩⟩,.int .u8 c]) (λM β vs ae ah=>?_) (λvs w ao hg=>?_)
 ·match vs,ae with
  |[v,u],_=>
   have Z:=mY (ah 0 v _ rfl rfl);have ad:=my (ah 1 u _ rfl rfl);rw [Z,ad]
 ·subst ao;refine(Tryz.stringslite_IndexByte ⟨⟨s⟩⟩ c w).mono ?_
  rintro e w' ⟨rfl,rfl⟩
  exact⟨_,rfl,λM β=>.v _ _ (.int _ _),λb bc h=>h,rfl⟩
def Zl{n:Nat}{s:auJ}{r:Int}(h:y9 n s=some r):gj Tryz.prog 244 [.v (.str s)] [] [] (.ret (.v (.int .i64 r)) none) []:=by
 unfold y9 at h;obtain⟨g,h⟩:=oq h;obtain rfl:=Option.some.inj h;refine wq (fd:=Tryz.f244) Tryz.func244 rfl rfl (vsOf:=λvs=>vs=[.string ⟨⟨s⟩⟩]) (λM β vs ae ah=>?_) (λvs w ao hg=>?_)
 ·match vs,ae with
  |[v],_=>
   have:=mY (ah 0 v _ rfl rfl)
   rw [this]
 ·subst ao;refine(ai_ ⟨⟨s⟩⟩ w (show s.length≤140737488351232 from of_decide_eq_true g)).mono ?_
  rintro e w' ⟨rfl,pos,rfl⟩
  refine⟨_,rfl,λM β=>.v _ _ (.int _ _),λb bc h=>?_,rfl⟩
  rw [World.iter,Go.RowKit.Below.heap_alloc w _ b (Array.getElem?_eq_some_iff.1 h).1];exact h
def ajr(w:World)(e:TypeId)(t:ByteArray):((Lib.bytesWorld w e t).os,(Lib.bytesWorld w e t).output)=(w.os,w.output):=by
 rw [(Lib.bytesWorld_below w e t).os,(Lib.bytesWorld_below w e t).output]
def PD:Nt Tryz.prog=[4,5]:=by kernel_rfl
def Zm{n:Nat}{s:auJ}{base:Int}{Ib:Int}{r:(Int ⊕ Int)}(h:y' n s base Ib=some r):gj Tryz.prog 394 [.v (.str s),.v (.int .i64 base),.v (.int .i64 Ib)] [] [] (iB.on r (λZn=>.ret (.bU [.v (.int .i64 Zn),.v (.jE)]) none) (λZo=>.ret (.bU [.v (.int .i64 Zo),.v ((.iface 436 .any))]) none)) []:=by
 unfold y' at h;obtain⟨g,h⟩:=oq h;obtain rfl:=Option.some.inj h;obtain⟨rfl,rfl,ae⟩:=of_decide_eq_true g
 have fc:∀(M:Mem) (β:Nat→Option Nat) (vs:List Value),vs.length=3→(∀(i:Nat) v a,vs[i]? = some v→[D.v (.str s),.v (.int .i64 10),.v (.int .i64 64)][i]? = some a→cE M β v a)→vs=[.string ⟨⟨s⟩⟩,.int .i64 10,.int .i64 64]:=by
  intro M β vs ae ah
  match vs,ae with
  |[v,u,t],_=>
   have Z:=mY (ah 0 v _ rfl rfl);have ad:=my (ah 1 u _ rfl rfl);have am:=my (ah 2 t _ rfl rfl);rw [Z,ad,am]
 unfold C7;rcases hp:Lib.parseIntB 64 s with v|_|_
 ·
   refine wq (fd:=Tryz.f394) Tryz.func394 rfl rfl (vsOf:=λvs=>vs=[.string ⟨⟨s⟩⟩,.int .i64 10,.int .i64 64]) (λM β vs ae ah=>fc M β vs ae ah) (λvs w ao hg=>?_)
   subst ao;refine(Tryz.strconv_ParseInt_10_at64_ok ⟨⟨s⟩⟩ (show s.length≤9223372036854775806 by omega) v hp w).mono ?_
   rintro e w' ⟨rfl,hw⟩
   refine⟨_,rfl,λM β=>.bU [_,_] _ rfl λi v c hi hc=>?_,λb bc h=>?_,by rcases hw with rfl|⟨t,rfl⟩;rfl;exact ajr _ _ _⟩
   ·match i with
    | 0=>cases hi;cases hc;exact .v _ _ (.int _ _)
    | 1=>cases hi;cases hc;exact .v _ _ .jE
    |i+2=>simp at hi
   ·rcases hw with rfl|⟨t,rfl⟩
    ·exact h
    ·rw [Lib.bytesWorld_at_old _ _ _ _ (Array.getElem?_eq_some_iff.1 h).1];exact h
 ·
   refine wq (fd:=Tryz.f394) Tryz.func394 rfl rfl (vsOf:=λvs=>vs=[.string ⟨⟨s⟩⟩,.int .i64 10,.int .i64 64]) (λM β vs ae ah=>fc M β vs ae ah) (λvs w ao hg=>?_)
   subst ao;obtain⟨fU,Z,ad⟩:=hg.1 4 (by rw [PD];simp)
   refine(Tryz.strconv_ParseInt_10_at64_syntax ⟨⟨s⟩⟩ ae (by constructor;intro v;rw [show Lib.parseIntB 64 (⟨⟨s⟩⟩:ByteArray).data.toList=_ from hp];intro e;cases e;rw [show Lib.parseIntB 64 (⟨⟨s⟩⟩:ByteArray).data.toList=_ from hp];intro e;cases e) fU w Z ad).mono ?_
   rintro e w' ⟨N,rfl,aQ,iA,hb⟩
   refine⟨_,rfl,λM β=>.bU [_,_] _ rfl λi v c hi hc=>?_,λb bc h=>?_,by rw [hb.os,hb.output]⟩
   ·match i with
    | 0=>cases hi;cases hc;exact .v _ _ (.int _ _)
    | 1=>cases hi;cases hc;exact .v _ _ (.iface _ _ _ (.any _ rfl))
    |i+2=>simp at hi
   ·rw [hb.block b (Array.getElem?_eq_some_iff.1 h).1];exact h
 ·
   refine wq (fd:=Tryz.f394) Tryz.func394 rfl rfl (vsOf:=λvs=>vs=[.string ⟨⟨s⟩⟩,.int .i64 10,.int .i64 64]) (λM β vs ae ah=>fc M β vs ae ah) (λvs w ao hg=>?_)
   subst ao;obtain⟨fU,Z,ad⟩:=hg.1 5 (by rw [PD];simp)
   refine(Tryz.strconv_ParseInt_10_at64_range ⟨⟨s⟩⟩ ae hp fU w Z ad).mono ?_
   rintro e w' ⟨N,rfl,aQ,iA,hb⟩
   refine⟨_,rfl,λM β=>.bU [_,_] _ rfl λi v c hi hc=>?_,λb bc h=>?_,by rw [hb.os,hb.output]⟩
   ·match i with
    | 0=>cases hi;cases hc;exact .v _ _ (.int _ _)
    | 1=>cases hi;cases hc;exact .v _ _ (.iface _ _ _ (.any _ rfl))
    |i+2=>simp at hi
   ·rw [hb.block b (Array.getElem?_eq_some_iff.1 h).1];exact h
def If : Tryz.prog.globalNamed "internal/strconv.uint64pow10" = some 1 := by kernel_rfl
def Zp:(Lib.pow10Tab.map λz=>Value.int .u64 z).toArray=Nu:=by kernel_rfl
def ajs {w : World} (h : HM Tryz.prog w) : Lib.TabIs Tryz.prog w "internal/strconv.uint64pow10" .u64 Lib.pow10Tab := by
 obtain⟨t,lf,Z⟩:=h.2 1 If;unfold Lib.TabIs World.var?;rw [If,Option.bind_some,Z,Zp]
def ajt{n:Nat}{i:Int}{base:Int}{r:auJ}(h:Ic n i base=some r):gj Tryz.prog 365 [.v (.int .i64 i),.v (.int .i64 base)] [] [] (.ret (.v (.str r)) none) []:=by
 unfold Ic at h;obtain⟨g,h⟩:=oq h;obtain rfl:=Option.some.inj h;obtain⟨rfl,h0,Z⟩:=of_decide_eq_true g;refine wq (fd:=Tryz.f365) Tryz.func365 rfl rfl (vsOf:=λvs=>vs=[.int .i64 i,.int .i64 10]) (λM β vs ae ah=>?_) (λvs w ao hg=>?_)
 ·match vs,ae with
  |[v,u],_=>
   have g1:=my (ah 0 v _ rfl rfl);have g2:=my (ah 1 u _ rfl rfl);rw [g1,g2]
 ·subst ao;refine(Tryz.strconv_FormatInt_10 i h0 Z w (ajs hg)).mono ?_
  rintro e w' ⟨rfl,k,os,rfl⟩
  exact⟨_,rfl,λM β=>.v _ _ (.str _),λb bc h=>(Lib.heap_grow_old w k os b (Array.getElem?_eq_some_iff.1 h).1).trans h,rfl⟩
def Zq{b:List Int}(g:(nz b&&decide (b.length≤9223372036854775807))=true):b.length=(kf b).length∧∀i,i<(kf b).length→(λi=>dc (b.getD i default)) i = .int .u8 (((kf b).getD i 0).toNat:Int):=by
 simp only [Bool.and_eq_true]at g;obtain⟨Z,ad⟩:=CR g.1;exact⟨Z.symm,λi hi=>ad i (by omega)⟩
def Zr{b:List Int}(g:(nz b&&decide (b.length≤9223372036854775807))=true):(kf b).length≤9223372036854775807:=by
 simp only [Bool.and_eq_true,decide_eq_true_eq]at g;rw [(CR g.1).1];exact g.2
def PE:Go.Proofs.Builder.Extra Tryz.prog Tryz.YY where
 sizeBuilder:=by kernel_rfl
 liesBuilder:=by kernel_rfl
 t5:=Tryz.underlying5
 a5:=Tryz.isAgg5
 z5:=Tryz.sizeOf5
 v5:=Tryz.zeroValue5
 infoByte:=by kernel_rfl
 cellsByte:=by kernel_rfl
 sizeByte:=by kernel_rfl
 neB5:=by decide
def Zs{n:Nat}{elems:List auJ}{sep:auJ}{r:auJ}(h:Ie n elems sep=some r):gj Tryz.prog 196 [.v (ag 1 a6 elems),.v (.str sep)] [] [] (.ret (.v (.str r)) none) []:=by
 unfold Ie at h;obtain⟨g,h⟩:=oq h;obtain rfl:=Option.some.inj h;obtain⟨aQ,c7⟩:=of_decide_eq_true g
 have Zt:(elems.map λs=>(⟨⟨s⟩⟩:ByteArray)).map (·.data.toList)=elems:=by
  rw [List.map_map];conv=>rhs;rw [←List.map_id elems]
  rfl
 refine Yv (fd:=Tryz.f196) Tryz.func196 rfl rfl (vsOf:=λw vs=>(∃a,vs=[.slice a 0 0,.string ⟨⟨sep⟩⟩]∧elems=[])∨∃y_ o c,vs=[.slice (some ⟨y_,o,none⟩) elems.length c,.string ⟨⟨sep⟩⟩]∧elems.length≤c∧∀(j:Nat) x,elems[j]? = some x→w.cell? ⟨y_,o+j,none⟩=some (.string ⟨⟨x⟩⟩)) (λw M β vs hm ae ah=>?_) (λvs w ao hg=>?_)
 ·match vs,ae with
  |[v,u],_=>
   have g2:=mY (ah 1 u _ rfl rfl);have g1:=ah 0 v _ rfl rfl;rw [g2];rcases tQ (k:=1) (n:=elems.length) (get:=λi=>a6 (elems.getD i default)) g1 with⟨Z,ad⟩|⟨b,off,cap,val,Z,hc,hk,db,gL,f9⟩
   ·rcases Z with Z|⟨a,Z⟩
    ·exact .inl ⟨none,by rw [Z],List.eq_nil_of_length_eq_zero ad⟩
    ·exact .inl ⟨some a,by rw [Z],List.eq_nil_of_length_eq_zero ad⟩
   ·refine .inr ⟨b,off,cap,by rw [Z],hc,λj x hx=>?_⟩
    have hj:j<elems.length:=(List.getElem?_eq_some_iff.1 hx).1;have e1:=hm _ _ _ (db j 0 hj (by omega))
    have e2:=f9 j 0 (.str x) hj (by
     have:elems.getD j default=x:=by simp [List.getD,hx]
     rw [this];rfl)
    rw [show off+j*1+0=off+j by omega]at e1
    rw [e1];generalize val j 0=y at e2 ⊢
    cases e2;rfl
 ·rcases ao with⟨a,rfl,rfl⟩|⟨y_,o,c,rfl,hc,sv⟩
  ·refine(Any.strings_Join_none Tryz.Pt PE a 0 ⟨⟨sep⟩⟩ w).mono ?_
   rintro e w' ⟨rfl,rfl⟩
   exact⟨_,rfl,λM β=>.v _ _ (.str _),λb bc h=>h,rfl⟩
  ·cases elems with
   |nil=>
    refine(Any.strings_Join_none Tryz.Pt PE (some ⟨y_,o,none⟩) c ⟨⟨sep⟩⟩ w).mono ?_
    rintro e w' ⟨rfl,rfl⟩
    exact⟨_,rfl,λM β=>.v _ _ (.str _),λb bc h=>h,rfl⟩
   |cons sw aju=>
    have ajv:y_<w.heap.size:=lt_of_cell (sv 0 sw rfl)
    have hj:=Any.strings_Join Tryz.Pt PE y_ o c ((sw::aju).map λs=>(⟨⟨s⟩⟩:ByteArray)) ⟨⟨sep⟩⟩ w (λj x hx=>by
     rw [List.getElem?_map,Option.map_eq_some_iff]at hx;obtain⟨y,ci,rfl⟩:=hx;exact sv j y ci) ajv (by simpa using aQ) (by simpa using hc) (by rw [Zt];exact c7)
    rw [List.length_map]at hj;refine hj.mono ?_
    rintro e w' ⟨rfl,hb⟩
    refine⟨_,rfl,λM β=>?_,λb bc h=>?_,by rw [hb.os,hb.output]⟩
    ·rw [Zt];exact .v _ _ (.str _)
    ·rw [hb.block b (Array.getElem?_eq_some_iff.1 h).1];exact h
end Go.Ab.Y
namespace Go.Ab.Y
open Go Go.Ab Go.Proofs T
abbrev auQ{ρ:Type}(i:FuncId)(a:List D)(F:Option ρ)(o:ρ→Out):Prop:=aF i a [] [] F o λ_=>[]
abbrev auR(i:FuncId)(a:List D)(F:Option Bool):Prop:=auQ i a F λr=>aH (cf r)
abbrev auS(i:FuncId)(a:List D)(F:Option Int):Prop:=auQ i a F λr=>aH (aC r)
end Go.Ab.Y

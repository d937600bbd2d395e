/- The types of this claim, and the contracts that were written by hand. -/
import Derived.Test.YtbncfepdlmnmiaaGreatDoorProg
import Derived.WalkKit
import Derived.Lib.Builder
import Derived.Lib.UnsafeStr
import Derived.Laws.Externs
import Derived.Shelf.RegionOpenPlain
import Derived.Lib.Join
import Derived.Lib.Bytealg
import Derived.Lib.ItoaNum
import Derived.Lib.ParseIntBCases
import Derived.Lib.AppendIntMem
import Derived.Lib.AtoiErrMem
import Derived.Test.YtbncfepdlmnmiaaGreatDoorShelf
set_option linter.all false
namespace Go.Ab
abbrev ap2(x:Int):Int:=IntKind.i64.wrap x
abbrev ap3{α:Type}[Inhabited α](l:List α)(i:Int):α:=l.getD i.toNat default
abbrev ap4:=Option Bool
abbrev ap5:=Option Int
abbrev V.ap6(x:Int):V:=.int .i64 x
end Go.Ab
namespace Go.Ab.Y
open Go Go.Proofs
def mG(c:UInt8):Bool:=decide ((97≤c.toNat∧c.toNat≤122)∨(48≤c.toNat∧c.toNat≤57)∨c.toNat=95)
def l_(s:ap0):Nat:=(s.takeWhile mG).length
def KG{s:ap0}{k:Nat}(hk:k≤s.length)(h:∀(j:Nat) c,j<k→s[j]? = some c→mG c=true)(he:∀c,s[k]? = some c→mG c=false):l_ s=k:=by
 unfold l_;induction s generalizing k with
 |nil=>simp at hk ⊢;omega
 |cons c s bc=>
  cases k with
  |zero=>
   have:=he c rfl
   simp [List.takeWhile,this]
  |succ k=>
   have h0:=h 0 c (by omega) rfl
   simp only [List.takeWhile,h0,List.length_cons];rw [bc (by simpa using hk) (λj c hj hc=>h (j+1) c (by omega) (by simpa using hc)) (λc hc=>he c (by simpa using hc))]
def KH(s:ByteArray)(k:Nat)(h:k<s.size):s.data.toList[k]? = some (s[k]'h):=by
 have:k<s.data.toList.length:=by simpa using h
 rw [List.getElem?_eq_getElem this];rfl
def D6(s:ByteArray)(k:Nat):Prop:=∀(j:Nat) c,j<k→s.data.toList[j]? = some c→mG c=true
def D6.succ{s:ByteArray}{k:Nat}(h:D6 s k)(hk:k<s.size)(hc:mG (s[k]'hk)=true):D6 s (k+1):=by
 intro j c hj jA;by_cases e:j=k
 ·subst e;rw [KH s j hk]at jA;cases jA;exact hc
 ·exact h j c (by omega) jA
set_option maxRecDepth 100000 in
def afD(s:ByteArray)(w:World)(hs:s.size≤140737488351232):
 Calls Tryz.prog 244 #[.string s] w λe w'=>e = .returned (.int .i64 (l_ s.data.toList))∧∃pos,w'=w.iter s pos:=by
 go_enter Tryz.func244,Tryz.ntmps244
 go_wp2
 go_loopw [] (λw'=>∃k:Nat,w'=w.iter s k∧k≤s.size∧D6 s k) (λw'=>s.size-w'.iterPos w.heap.size)
 case atStart=>exact⟨0,rfl,by omega,λj c hj=>by omega⟩
 case round=>
  obtain⟨k,rfl,hk,hin⟩:=hrel;by_cases hp:k<s.size
  ·by_cases ha:(s[k]'hp).toNat<128
   ·have hnx:∀ty,(Instr.next (.pointer (some ⟨w.heap.size,0,none⟩)) true ty).run Tryz.prog (w.iter s k)=_:=λty=>run_next_ascii w s k ty hp ha
    cases hw:mG (s[k]'hp)
    ·have hlen:=KG (s:=s.data.toList) (k:=k) (by simpa using hk) hin (λc hc=>by rw [KH s k hp]at hc;cases hc;exact hw)
     have hc:=of_decide_eq_false hw;clear hw
     go_wp2
     all_goals first
      |(exfalso;simp at *;omega)
      |(go_ret;exact⟨by first |rfl |(rw [hlen];rfl),_,rfl⟩)
    ·have hc:=of_decide_eq_true hw;have hin2:=hin.succ hp hw;clear hw hin
     go_wp2
     all_goals first
      |(exfalso;simp at *;omega)
      |(
       go_roundw
       case rel=>exact⟨k+1,rfl,hp,hin2⟩
       case measure=>simp;omega)
   ·have hnx:∀ty,(Instr.next (.pointer (some ⟨w.heap.size,0,none⟩)) true ty).run Tryz.prog (w.iter s k)=_:=λty=>run_next_any w s k ty hp
    have hd:=(decode_high s k hp (by omega)).1
    have hle:=decode_le s k
    have hlen:=KG (s:=s.data.toList) (k:=k) (by simpa using hk) hin (λc hc=>by
     rw [KH s k hp]at hc;cases hc;exact decide_eq_false (by omega))
    generalize Utf8.decode s k=d at hnx hd hle
    go_wp2
    all_goals first
     |(exfalso;simp at *;omega)
     |(go_ret;exact⟨by first |rfl |(rw [hlen];rfl),_,rfl⟩)
  ·have hnx:∀ty,(Instr.next (.pointer (some ⟨w.heap.size,0,none⟩)) true ty).run Tryz.prog (w.iter s k)=_:=λty=>run_next_end w s k ty hp
   have hlen:=KG (s:=s.data.toList) (k:=k) (by simpa using hk) hin (λc hc=>by
    have:=(List.getElem?_eq_some_iff.1 hc).1
    simp at this;omega)
   obtain rfl:k=s.size:=by omega
   go_wp2
   go_ret
   exact⟨by first|rfl|(rw [hlen];rfl),_,rfl⟩
open Go Go.Proofs Go.RowKit
def UE:(Tryz.prog.info? 106).map (·.size)=some 2:=by kernel_rfl
set_option maxHeartbeats 1000000 in
set_option maxRecDepth 100000 in
def UF(b:Nat)(w:World)(h0:w.cell? ⟨b,0,none⟩=some (.pointer (some ⟨b,0,none⟩))):
 Calls Tryz.prog 104 #[.pointer (some ⟨b,0,none⟩)] w λe w'=>e = .returned (.tuple #[])∧w'=w:=by
 obtain⟨j,hj,_⟩:=Option.map_eq_some_iff.1 UE
 go_enter Tryz.func104,Tryz.ntmps104
 go_wp2
 rw [Lib.run_neq_ptr_same w _ Tryz.underlying103 hj]
 go_wp2
 go_end0
 exact⟨rfl,rfl⟩
set_option maxHeartbeats 1000000 in
set_option maxRecDepth 100000 in
def UG(b:Nat)(w:World)(T:TypeId)(k:Nat)(h0:w.cell? ⟨b,0,none⟩=some (.pointer none))(hsh:w.shape? b=some (T,k))(hk:0<k)(hlies:liesAt Tryz.prog Tryz.prog.depth T (k / Tryz.prog.cellsOf T) 0 106 1=true)(hfz:w.frozen? ⟨b,0,none⟩=false):
 Calls Tryz.prog 104 #[.pointer (some ⟨b,0,none⟩)] w λe w'=>e = .returned (.tuple #[])∧w'=w.setCell ⟨b,0,none⟩ (.pointer (some ⟨b,0,none⟩)):=by
 obtain⟨j,hj,hjs⟩:=Option.map_eq_some_iff.1 UE
 go_enter Tryz.func104,Tryz.ntmps104
 go_wp2
 rw [Lib.run_to_unsafe w ⟨b,0,none⟩ Tryz.underlying103 Tryz.underlying213 hj (by rw [hjs];decide) hsh hk]
 simp only [Result.andThen];rw [Oper.upon_value]
 go_wp2
 rw [run_callFunc_extern Tryz.func158 (by kernel_rfl) (by kernel_rfl) (by kernel_rfl) (e:=Extern.AbiNoEscape.same) (by kernel_rfl)]
 rw [Lib.run_noEscape];simp only [Result.andThen];rw [Oper.upon_value]
 go_wp2
 rw [Lib.run_from_unsafe w ⟨b,0,none⟩ Tryz.underlying213 Tryz.underlying103 hj hsh hlies];simp only [Result.andThen];rw [Oper.upon_value]
 go_wp2
 go_end0
 exact⟨rfl,rfl⟩
def cellsByte:Tryz.prog.cellsOf 5=1:=by kernel_rfl
set_option maxHeartbeats 2000000 in
set_option maxRecDepth 100000 in
def UH(b:Nat)(w:World)(h:w.cell? ⟨b,1,none⟩=some (.slice none 0 0)):
 Calls Tryz.prog 54 #[.pointer (some ⟨b,0,none⟩)] w λe w'=>e = .returned (.string ⟨#[]⟩)∧w'=w.drew:=by
 have hUS:(Builtin.unsafeString_ #[157,3] 9 #[.pointer none,.int .i64 0]).run Tryz.prog w.drew = .ok (.string .empty) w.drew:=Lib.run_unsafeString_none w.drew _ _ _ none;have c1:w.drew.cell? ⟨b,1,none⟩=some (.slice none 0 0):=h;have hSD:(Builtin.unsafeSliceData_ #[104] 157 #[.slice none 0 0]).run Tryz.prog w.drew = .ok (.pointer none) w.drew:=rfl;have mixed:Tryz.prog.follows .mixedOrders=true:=by kernel_rfl
 go_enter Tryz.func54,Tryz.ntmps54
 go_wp2
 go_region_o
 all_goals (go_wp2;go_ret;exact⟨rfl,rfl⟩)
set_option maxHeartbeats 2000000 in
set_option maxRecDepth 100000 in
def UI(b g cap:Nat)(w:World)(hc0:cap≠0)(h:w.cell? ⟨b,1,none⟩=some (.slice (some ⟨g,0,none⟩) 0 cap)):
 Calls Tryz.prog 54 #[.pointer (some ⟨b,0,none⟩)] w λe w'=>e = .returned (.string ⟨#[]⟩)∧w'=w.drew:=by
 have hUS:(Builtin.unsafeString_ #[157,3] 9 #[.pointer (some ⟨g,0,none⟩),.int .i64 0]).run Tryz.prog w.drew = .ok (.string .empty) w.drew:=Lib.run_unsafeString_none w.drew _ _ _ _;have c1:w.drew.cell? ⟨b,1,none⟩=some (.slice (some ⟨g,0,none⟩) 0 cap):=h;have hSD:(Builtin.unsafeSliceData_ #[104] 157 #[.slice (some ⟨g,0,none⟩) 0 cap]).run Tryz.prog w.drew = .ok (.pointer (some ⟨g,0,none⟩)) w.drew:=Lib.run_unsafeSliceData_row _ _ _ _ _ _ hc0;clear hc0;have mixed:Tryz.prog.follows .mixedOrders=true:=by kernel_rfl
 go_enter Tryz.func54,Tryz.ntmps54
 go_wp2
 go_region_o
 all_goals (go_wp2;go_ret;exact⟨rfl,rfl⟩)
set_option maxHeartbeats 2000000 in
set_option maxRecDepth 100000 in
def UJ(b g:Nat)(w:World)(vs:List Value)(h:w.cell? ⟨b,1,none⟩=some (.slice (some ⟨g,0,none⟩) 0 0))(hb:b<w.heap.size)(hg:w.heap[g]? = some (.cells ⟨vs⟩ 5 (0,0))):
 Calls Tryz.prog 54 #[.pointer (some ⟨b,0,none⟩)] w λe w'=>e = .returned (.string ⟨#[]⟩)∧w'=(w.drew.alloc (.view ⟨g,0,none⟩ 5)):=by
 have hUS:∀(q:Option Addr) (W:World),(Builtin.unsafeString_ #[157,3] 9 #[.pointer q,.int .i64 0]).run Tryz.prog W = .ok (.string .empty) W:=λq W=>Lib.run_unsafeString_none W _ _ _ q
 have c1:w.drew.cell? ⟨b,1,none⟩=some (.slice (some ⟨g,0,none⟩) 0 0):=h
 have hSD:(Builtin.unsafeSliceData_ #[104] 157 #[.slice (some ⟨g,0,none⟩) 0 0]).run Tryz.prog w.drew = .ok (.pointer (some ⟨w.drew.heap.size,0,none⟩)) (w.drew.alloc (.view ⟨g,0,none⟩ 5)):=
  Lib.run_unsafeSliceData_zero w.drew _ _ 5 Tryz.underlying157 ⟨g,0,none⟩ 0 (5,vs.length) (by have hg':w.drew.heap[g]? = some (.cells ⟨vs⟩ 5 (0,0)):=hg;simp [World.shape?,hg'])
 have c2:(w.drew.alloc (.view ⟨g,0,none⟩ 5)).cell? ⟨b,1,none⟩=some (.slice (some ⟨g,0,none⟩) 0 0):=by
  unfold World.cell? at h ⊢;rw [show(w.drew.alloc (.view ⟨g,0,none⟩ 5)).heap[b]? = w.heap[b]? from Lib.alloc_old w.drew _ b hb];exact h
 have c3:(w.alloc (.view ⟨g,0,none⟩ 5)).drew.cell? ⟨b,1,none⟩=some (.slice (some ⟨g,0,none⟩) 0 0):=c2;have mixed:Tryz.prog.follows .mixedOrders=true:=by kernel_rfl
 go_enter Tryz.func54,Tryz.ntmps54
 go_wp2
 go_region_o
 all_goals (go_wp2;go_ret;exact⟨rfl,rfl⟩)
set_option maxHeartbeats 2000000 in
set_option maxRecDepth 100000 in
def UK(b g cap:Nat)(w:World)(vs:List Value)(l:ap0)(h0:l≠[])(h:w.cell? ⟨b,1,none⟩=some (.slice (some ⟨g,0,none⟩) l.length cap))(hg:w.heap[g]? = some (.cells ⟨vs⟩ 5 (0,0)))
 (hn:l.length≤cap) (hcap:cap≤vs.length) (h63:l.length≤9223372036854775807) (hc:∀(j:Nat) (x:UInt8),l[j]? = some x→vs[j]? = some (Value.int .u8 x.toNat)):
 Calls Tryz.prog 54 #[.pointer (some ⟨b,0,none⟩)] w λe w'=>e = .returned (.string ⟨l.toArray⟩)∧w'=w.drew.freeze ⟨g,0,none⟩ l.length:=by
 have hl0:l.length≠0:=by simpa using h0
 have c1:w.drew.cell? ⟨b,1,none⟩=some (.slice (some ⟨g,0,none⟩) l.length cap):=h;have hg':w.drew.heap[g]? = some (.cells ⟨vs⟩ 5 (0,0)):=hg;have hSD:(Builtin.unsafeSliceData_ #[104] 157 #[.slice (some ⟨g,0,none⟩) l.length cap]).run Tryz.prog w.drew = .ok (.pointer (some ⟨g,0,none⟩)) w.drew:=Lib.run_unsafeSliceData_row _ _ _ _ _ _ (by omega)
 have hUS:(Builtin.unsafeString_ #[157,3] 9 #[.pointer (some ⟨g,0,none⟩),.int .i64 l.length]).run Tryz.prog w.drew = .ok (.string ⟨l.toArray⟩) (w.drew.freeze ⟨g,0,none⟩ l.length):=
  Lib.run_unsafeString_row w.drew 157 3 9 5 Tryz.underlying157 cellsByte g vs.length (by simp [World.shape?,hg']) l h0 (by omega) h63 (λj x hx=>by
   have:=hc j x hx
   rw [show(⟨g,0,none⟩:Addr).add j=⟨g,j,none⟩by unfold Addr.add;split<;>simp_all,Go.Ab.cell_of_heap hg',this])
 have mixed:Tryz.prog.follows .mixedOrders=true:=by kernel_rfl
 go_enter Tryz.func54,Tryz.ntmps54
 go_wp2
 go_region_o
 all_goals (go_wp2;go_ret;exact⟨rfl,rfl⟩)
open Go Go.Ab Go.Proofs
abbrev aoR(x:Int):V:=.int .i32 x
abbrev afE(x:Int):V:=.int .i64 x
abbrev aoS(x:Int):V:=.int .u32 x
abbrev aoT(x:Int):V:=.int .u64 x
abbrev cK(x:Int):V:=.int .u8 x
def aoU{α β dJ:Type}{a:α}{f:α→dJ}{g:β→dJ}{r:dJ}(h:hS.on (.inl a) f g=r):f a=r:=h
def aoV{α β dJ:Type}{b:β}{f:α→dJ}{g:β→dJ}{r:dJ}(h:hS.on (.inr b) f g=r):g b=r:=h
abbrev aoW(x:Bool):V:=.bool x
abbrev be(x:ap0):V:=.str x
structure bG where
 Kind:Int
 N:Int
 S:ap0
instance:Inhabited bG:=⟨⟨0,0,([]:ap0)⟩⟩
def dN(x:bG):V:=.agg [.int .i64 x.Kind,.int .i64 x.N,.str x.S]
structure Version where
 cd:Int
 bo:bG
instance:Inhabited Version:=⟨⟨0,(⟨0,0,([]:ap0)⟩:bG)⟩⟩
def gb(x:Version):V:=.agg [.int .i64 x.cd,.int .i64 x.bo.Kind,.int .i64 x.bo.N,.str x.bo.S]
structure Row where
 Key:ap0
 br:List Version
instance:Inhabited Row:=⟨⟨([]:ap0),([]:List Version)⟩⟩
def bJ(x:Row):V:=.agg [.str x.Key,ae 4 gb x.br]
structure ar where
 bw:Int
 bq:Int
 Rows:List Row
instance:Inhabited ar:=⟨⟨0,0,([]:List Row)⟩⟩
def afF(x:ar):V:=.agg [.int .i64 x.bw,.int .i64 x.bq,ae 2 bJ x.Rows]
structure Param where
 Name:ap0
 fP:Int
instance:Inhabited Param:=⟨⟨([]:ap0),0⟩⟩
def ec(x:Param):V:=.agg [.str x.Name,.int .i64 x.fP]
structure Expr where
 Op:Int
 N:Int
 S:ap0
 aw:List Expr
instance:Inhabited Expr:=⟨⟨0,0,([]:ap0),([]:List Expr)⟩⟩
mutual
def b3:Expr→V
 |⟨Op,N,S,aw⟩=>.agg [.int .i64 Op,.int .i64 N,.str S,.bL 4 aw.length λi=>(zH aw).getD i .ew]
def zH:List Expr→List V
 |[]=>[]
 |x::l=>b3 x::zH l
end
def UL:∀l:List Expr,zH l=l.map b3
 |[]=>rfl
 |x::l=>by rw [zH,UL l];rfl
def UM(l:List Expr)(i:Nat)(h:i<l.length):(zH l).getD i .ew=b3 (l.getD i default):=by
 rw [UL];simp [List.getD,List.getElem?_eq_getElem h]
def KI(x:Expr):jX (b3 x).cells [.int .i64 x.Op,.int .i64 x.N,.str x.S,ae 4 b3 x.aw]:=by
 cases x;exact .cons (hK _) (.cons (hK _) (.cons (hK _) (.cons (oO λi hi=>UM _ i hi) (jX.nil))))
def zI(x:Expr):jX [.int .i64 x.Op,.int .i64 x.N,.str x.S,ae 4 b3 x.aw] (b3 x).cells:=by
 cases x;exact .cons (hK _) (.cons (hK _) (.cons (hK _) (.cons (oO λi hi=>(UM _ i hi).symm) (jX.nil))))
def fI(x:Expr):gH (b3 x) (.agg [.int .i64 x.Op,.int .i64 x.N,.str x.S,ae 4 b3 x.aw]):=by
 have h:=KI x;cases x;exact TK h
structure Stmt where
 Op:Int
 Name:ap0
 Max:Int
 A:Expr
 B:Expr
 Body:List Stmt
 bX:List Stmt
instance:Inhabited Stmt:=⟨⟨0,([]:ap0),0,(⟨0,0,([]:ap0),([]:List Expr)⟩:Expr),(⟨0,0,([]:ap0),([]:List Expr)⟩:Expr),([]:List Stmt),([]:List Stmt)⟩⟩
mutual
def bY:Stmt→V
 |⟨Op,Name,Max,A,B,Body,bX⟩=>.agg [.int .i64 Op,.str Name,.int .i64 Max,.int .i64 A.Op,.int .i64 A.N,.str A.S,ae 4 b3 A.aw,.int .i64 B.Op,.int .i64 B.N,.str B.S,ae 4 b3 B.aw,.bL 13 Body.length λi=>(ww Body).getD i .ew,.bL 13 bX.length λi=>(ww bX).getD i .ew]
def ww:List Stmt→List V
 |[]=>[]
 |x::l=>bY x::ww l
end
def UN:∀l:List Stmt,ww l=l.map bY
 |[]=>rfl
 |x::l=>by rw [ww,UN l];rfl
def D7(l:List Stmt)(i:Nat)(h:i<l.length):(ww l).getD i .ew=bY (l.getD i default):=by
 rw [UN];simp [List.getD,List.getElem?_eq_getElem h]
def afG(x:Stmt):jX (bY x).cells [.int .i64 x.Op,.str x.Name,.int .i64 x.Max,.int .i64 x.A.Op,.int .i64 x.A.N,.str x.A.S,ae 4 b3 x.A.aw,.int .i64 x.B.Op,.int .i64 x.B.N,.str x.B.S,ae 4 b3 x.B.aw,ae 13 bY x.Body,ae 13 bY x.bX]:=by
 cases x;exact .cons (hK _) (.cons (hK _) (.cons (hK _) (.cons (hK _) (.cons (hK _) (.cons (hK _) (.cons (hK _) (.cons (hK _) (.cons (hK _) (.cons (hK _) (.cons (hK _) (.cons (oO λi hi=>D7 _ i hi) (.cons (oO λi hi=>D7 _ i hi) (jX.nil)))))))))))))
def UO(x:Stmt):jX [.int .i64 x.Op,.str x.Name,.int .i64 x.Max,.int .i64 x.A.Op,.int .i64 x.A.N,.str x.A.S,ae 4 b3 x.A.aw,.int .i64 x.B.Op,.int .i64 x.B.N,.str x.B.S,ae 4 b3 x.B.aw,ae 13 bY x.Body,ae 13 bY x.bX] (bY x).cells:=by
 cases x;exact .cons (hK _) (.cons (hK _) (.cons (hK _) (.cons (hK _) (.cons (hK _) (.cons (hK _) (.cons (hK _) (.cons (hK _) (.cons (hK _) (.cons (hK _) (.cons (hK _) (.cons (oO λi hi=>(D7 _ i hi).symm) (.cons (oO λi hi=>(D7 _ i hi).symm) (jX.nil)))))))))))))
def gx(x:Stmt):gH (bY x) (.agg [.int .i64 x.Op,.str x.Name,.int .i64 x.Max,.int .i64 x.A.Op,.int .i64 x.A.N,.str x.A.S,ae 4 b3 x.A.aw,.int .i64 x.B.Op,.int .i64 x.B.N,.str x.B.S,ae 4 b3 x.B.aw,ae 13 bY x.Body,ae 13 bY x.bX]):=by
 have h:=afG x;cases x;exact TK h
structure bi where
 Name:ap0
 Params:List Param
 Body:List Stmt
instance:Inhabited bi:=⟨⟨([]:ap0),([]:List Param),([]:List Stmt)⟩⟩
def cU(x:bi):V:=.agg [.str x.Name,ae 2 ec x.Params,ae 13 bY x.Body]
structure Outcome where
 Status:Int
 Code:Int
 Out:List bG
instance:Inhabited Outcome:=⟨⟨0,0,([]:List bG)⟩⟩
def afH(x:Outcome):V:=.agg [.int .i64 x.Status,.int .i64 x.Code,ae 3 dN x.Out]
structure eI where
 Client:Int
 Seq:Int
 Outcome:Outcome
instance:Inhabited eI:=⟨⟨0,0,(⟨0,0,([]:List bG)⟩:Outcome)⟩⟩
def hU(x:eI):V:=.agg [.int .i64 x.Client,.int .i64 x.Seq,.int .i64 x.Outcome.Status,.int .i64 x.Outcome.Code,ae 3 dN x.Outcome.Out]
structure bV where
 Client:Int
 Next:Int
 b':List eI
instance:Inhabited bV:=⟨⟨0,0,([]:List eI)⟩⟩
def cD(x:bV):V:=.agg [.int .i64 x.Client,.int .i64 x.Next,ae 5 hU x.b']
structure Part where
 Id:Int
 dO:ap0
 Node:Int
 fy:Int
 dE:ap0
instance:Inhabited Part:=⟨⟨0,([]:ap0),0,0,([]:ap0)⟩⟩
def ce(x:Part):V:=.agg [.int .i64 x.Id,.str x.dO,.int .i64 x.Node,.int .i64 x.fy,.str x.dE]
structure b1 where
 Version:Int
 aF:List Part
instance:Inhabited b1:=⟨⟨0,([]:List Part)⟩⟩
def afI(x:b1):V:=.agg [.int .i64 x.Version,ae 5 ce x.aF]
structure bd where
 Key:ap0
 Count:Int
instance:Inhabited bd:=⟨⟨([]:ap0),0⟩⟩
def cX(x:bd):V:=.agg [.str x.Key,.int .i64 x.Count]
structure e9 where
 dV:Bool
 Reads:List ap0
 co:List ap0
instance:Inhabited e9:=⟨⟨false,([]:List ap0),([]:List ap0)⟩⟩
def afJ(x:e9):V:=.agg [.bool x.dV,ae 1 be x.Reads,ae 1 be x.co]
structure Request where
 Client:Int
 Seq:Int
 bi:ap0
 aw:List bG
 dX:Bool
 bp:e9
instance:Inhabited Request:=⟨⟨0,0,([]:ap0),([]:List bG),false,(⟨false,([]:List ap0),([]:List ap0)⟩:e9)⟩⟩
def cY(x:Request):V:=.agg [.int .i64 x.Client,.int .i64 x.Seq,.str x.bi,ae 3 dN x.aw,.bool x.dX,.bool x.bp.dV,ae 1 be x.bp.Reads,ae 1 be x.bp.co]
structure bH where
 Pos:Int
 ar:ar
 bI:List bi
 bO:List bV
 Place:b1
 bd:List bd
 Queue:List Request
 b2:Int
instance:Inhabited bH:=⟨⟨0,(⟨0,0,([]:List Row)⟩:ar),([]:List bi),([]:List bV),(⟨0,([]:List Part)⟩:b1),([]:List bd),([]:List Request),0⟩⟩
def afK(x:bH):V:=.agg [.int .i64 x.Pos,.int .i64 x.ar.bw,.int .i64 x.ar.bq,ae 2 bJ x.ar.Rows,ae 3 cU x.bI,ae 3 cD x.bO,.int .i64 x.Place.Version,ae 5 ce x.Place.aF,ae 2 cX x.bd,ae 8 cY x.Queue,.int .u64 x.b2]
structure aY where
 Key:ap0
 bo:bG
instance:Inhabited aY:=⟨⟨([]:ap0),(⟨0,0,([]:ap0)⟩:bG)⟩⟩
def ca(x:aY):V:=.agg [.str x.Key,.int .i64 x.bo.Kind,.int .i64 x.bo.N,.str x.bo.S]
structure dY where
 cd:Int
 Rest:bH
 Next:ap0
 dE:Bool
 eg:List aY
 cq:List ap0
instance:Inhabited dY:=⟨⟨0,(⟨0,(⟨0,0,([]:List Row)⟩:ar),([]:List bi),([]:List bV),(⟨0,([]:List Part)⟩:b1),([]:List bd),([]:List Request),0⟩:bH),([]:ap0),false,([]:List aY),([]:List ap0)⟩⟩
def UP(x:dY):V:=.agg [.int .i64 x.cd,.int .i64 x.Rest.Pos,.int .i64 x.Rest.ar.bw,.int .i64 x.Rest.ar.bq,ae 2 bJ x.Rest.ar.Rows,ae 3 cU x.Rest.bI,ae 3 cD x.Rest.bO,.int .i64 x.Rest.Place.Version,ae 5 ce x.Rest.Place.aF,ae 2 cX x.Rest.bd,ae 8 cY x.Rest.Queue,.int .u64 x.Rest.b2,.str x.Next,.bool x.dE,ae 4 ca x.eg,ae 1 be x.cq]
structure KJ where
 afL:Bool
 co:List aY
 N:Int
instance:Inhabited KJ:=⟨⟨false,([]:List aY),0⟩⟩
def afM(x:KJ):V:=.agg [.bool x.afL,ae 4 ca x.co,.int .i64 x.N]
structure Range where
 dO:ap0
 n5:ap0
instance:Inhabited Range:=⟨⟨([]:ap0),([]:ap0)⟩⟩
def aoX(x:Range):V:=.agg [.str x.dO,.str x.n5]
structure gc where
 s:ap0
 at_:Int
 e:Int
instance:Inhabited gc:=⟨⟨([]:ap0),0,0⟩⟩
def aoY(x:gc):V:=.agg [.str x.s,.int .i64 x.at_,.int .i64 x.e]
structure n6 where
 f0:bH
 KK:List aY
 sources:List ap0
instance:Inhabited n6:=⟨⟨(⟨0,(⟨0,0,([]:List Row)⟩:ar),([]:List bi),([]:List bV),(⟨0,([]:List Part)⟩:b1),([]:List bd),([]:List Request),0⟩:bH),([]:List aY),([]:List ap0)⟩⟩
def aoZ(x:n6):V:=.agg [.int .i64 x.f0.Pos,.int .i64 x.f0.ar.bw,.int .i64 x.f0.ar.bq,ae 2 bJ x.f0.ar.Rows,ae 3 cU x.f0.bI,ae 3 cD x.f0.bO,.int .i64 x.f0.Place.Version,ae 5 ce x.f0.Place.aF,ae 2 cX x.f0.bd,ae 8 cY x.f0.Queue,.int .u64 x.f0.b2,ae 4 ca x.KK,ae 1 be x.sources]
structure Token where
 Kind:Int
 Text:ap0
 N:Int
 ma:Int
instance:Inhabited Token:=⟨⟨0,([]:ap0),0,0⟩⟩
def da(x:Token):V:=.agg [.int .i64 x.Kind,.str x.Text,.int .i64 x.N,.int .i64 x.ma]
structure cE where
 oY:Bool
 Stmt:Stmt
 zJ:Int
 Expr:Expr
 afN:Bool
instance:Inhabited cE:=⟨⟨false,(⟨0,([]:ap0),0,(⟨0,0,([]:ap0),([]:List Expr)⟩:Expr),(⟨0,0,([]:ap0),([]:List Expr)⟩:Expr),([]:List Stmt),([]:List Stmt)⟩:Stmt),0,(⟨0,0,([]:ap0),([]:List Expr)⟩:Expr),false⟩⟩
def iK(x:cE):V:=.agg [.bool x.oY,.int .i64 x.Stmt.Op,.str x.Stmt.Name,.int .i64 x.Stmt.Max,.int .i64 x.Stmt.A.Op,.int .i64 x.Stmt.A.N,.str x.Stmt.A.S,ae 4 b3 x.Stmt.A.aw,.int .i64 x.Stmt.B.Op,.int .i64 x.Stmt.B.N,.str x.Stmt.B.S,ae 4 b3 x.Stmt.B.aw,ae 13 bY x.Stmt.Body,ae 13 bY x.Stmt.bX,.int .i64 x.zJ,.int .i64 x.Expr.Op,.int .i64 x.Expr.N,.str x.Expr.S,ae 4 b3 x.Expr.aw,.bool x.afN]
structure UQ where
 afO:Int
 seq:Int
instance:Inhabited UQ:=⟨⟨0,0⟩⟩
def ao0(x:UQ):V:=.agg [.int .i64 x.afO,.int .i64 x.seq]
structure ba where
 tokens:List Token
 at_:Int
instance:Inhabited ba:=⟨⟨([]:List Token),0⟩⟩
def ao1(x:ba):V:=.agg [ae 4 da x.tokens,.int .i64 x.at_]
structure UR where
 line:Int
 code:Int
instance:Inhabited UR:=⟨⟨0,0⟩⟩
def ao2(x:UR):V:=.agg [.int .i64 x.line,.int .i64 x.code]
structure kB where
 name:Bool
 a:Bool
 b:Bool
 max:Bool
 body:Bool
 other:Bool
instance:Inhabited kB:=⟨⟨false,false,false,false,false,false⟩⟩
def ao3(x:kB):V:=.agg [.bool x.name,.bool x.a,.bool x.b,.bool x.max,.bool x.body,.bool x.other]
structure kC where
 s:ap0
 at_:Int
 e:Int
instance:Inhabited kC:=⟨⟨([]:ap0),0,0⟩⟩
def ao4(x:kC):V:=.agg [.str x.s,.int .i64 x.at_,.int .i64 x.e]
structure n7 where
 s:ap0
 at_:Int
 e:Int
instance:Inhabited n7:=⟨⟨([]:ap0),0,0⟩⟩
def ao5(x:n7):V:=.agg [.str x.s,.int .i64 x.at_,.int .i64 x.e]
structure hM where
 s:ap0
 at_:Int
 e:Int
instance:Inhabited hM:=⟨⟨([]:ap0),0,0⟩⟩
def ao6(x:hM):V:=.agg [.str x.s,.int .i64 x.at_,.int .i64 x.e]
def tt:dx:=[
 (1,⟨.a1,1,8,[.aO],[]⟩),
 (2,⟨.int .i64,1,8,[.int .i64 0],[]⟩),
 (3,⟨.int .i64,1,8,[.int .i64 0],[]⟩),
 (4,⟨.bool,1,1,[.bool false],[]⟩),
 (5,⟨.int .u8,1,1,[.int .u8 0],[]⟩),
 (6,⟨.int .u8,1,1,[.int .u8 0],[]⟩),
 (7,⟨.b9 [(0,2,1),(1,3,1),(2,4,1),(3,6,1)],4,24,[.int .i64 0,.int .i64 0,.bool false,.int .u8 0],[]⟩),
 (8,⟨.b9 [(0,2,1),(1,3,1),(2,4,1),(3,6,1)],4,24,[.int .i64 0,.int .i64 0,.bool false,.int .u8 0],[]⟩),
 (9,⟨.str,1,16,[.str ([]:ap0)],[]⟩),
 (10,⟨.str,1,16,[.str ([]:ap0)],[]⟩),
 (11,⟨.str,1,16,[.str ([]:ap0)],[]⟩),
 (12,⟨.int .u64,1,8,[.int .u64 0],[]⟩),
 (13,⟨.b9 [(0,9,1),(1,12,1)],2,24,[.str ([]:ap0),.int .u64 0],[]⟩),
 (14,⟨.b9 [(0,9,1),(1,12,1)],2,24,[.str ([]:ap0),.int .u64 0],[]⟩),
 (15,⟨.ptr,1,8,[.ew],[]⟩),
 (16,⟨.ptr,1,8,[.ew],[]⟩),
 (17,⟨.ptr,1,8,[.ew],[]⟩),
 (18,⟨.b9 [(0,17,1)],1,8,[.ew],[]⟩),
 (19,⟨.b9 [(0,17,1)],1,8,[.ew],[]⟩),
 (20,⟨.nJ,1,16,[.h1],[]⟩),
 (21,⟨.int .i32,1,4,[.int .i32 0],[]⟩),
 (22,⟨.bL 92,1,24,[ae 2 bJ ([]:List Row)],[]⟩),
 (23,⟨.b9 [(0,2,1),(1,2,1),(2,22,1)],3,40,[.int .i64 0,.int .i64 0,ae 2 bJ ([]:List Row)],[]⟩),
 (24,⟨.b9 [(0,2,1),(1,2,1),(2,22,1)],3,40,[.int .i64 0,.int .i64 0,ae 2 bJ ([]:List Row)],[]⟩),
 (25,⟨.bL 73,1,24,[ae 3 cU ([]:List bi)],[]⟩),
 (26,⟨.bL 76,1,24,[ae 3 cD ([]:List bV)],[]⟩),
 (27,⟨.bL 148,1,24,[ae 5 ce ([]:List Part)],[]⟩),
 (28,⟨.b9 [(0,2,1),(1,27,1)],2,32,[.int .i64 0,ae 5 ce ([]:List Part)],[]⟩),
 (29,⟨.b9 [(0,2,1),(1,27,1)],2,32,[.int .i64 0,ae 5 ce ([]:List Part)],[]⟩),
 (30,⟨.bL 179,1,24,[ae 2 cX ([]:List bd)],[]⟩),
 (31,⟨.bL 82,1,24,[ae 8 cY ([]:List Request)],[]⟩),
 (32,⟨.int .u64,1,8,[.int .u64 0],[]⟩),
 (33,⟨.b9 [(0,2,1),(1,24,3),(4,25,1),(5,26,1),(6,29,2),(8,30,1),(9,31,1),(10,32,1)],11,184,[.int .i64 0,.int .i64 0,.int .i64 0,ae 2 bJ ([]:List Row),ae 3 cU ([]:List bi),ae 3 cD ([]:List bV),.int .i64 0,ae 5 ce ([]:List Part),ae 2 cX ([]:List bd),ae 8 cY ([]:List Request),.int .u64 0],[]⟩),
 (34,⟨.b9 [(0,2,1),(1,24,3),(4,25,1),(5,26,1),(6,29,2),(8,30,1),(9,31,1),(10,32,1)],11,184,[.int .i64 0,.int .i64 0,.int .i64 0,ae 2 bJ ([]:List Row),ae 3 cU ([]:List bi),ae 3 cD ([]:List bV),.int .i64 0,ae 5 ce ([]:List Part),ae 2 cX ([]:List bd),ae 8 cY ([]:List Request),.int .u64 0],[]⟩),
 (35,⟨.a1,1,8,[.aO],[]⟩),
 (36,⟨.a1,1,8,[.aO],[]⟩),
 (37,⟨.bL 87,1,24,[ae 4 ca ([]:List aY)],[]⟩),
 (38,⟨.bL 9,1,24,[ae 1 be ([]:List ap0)],[]⟩),
 (39,⟨.b9 [(0,2,1),(1,34,11),(12,9,1),(13,4,1),(14,37,1),(15,38,1)],16,264,[.int .i64 0,.int .i64 0,.int .i64 0,.int .i64 0,ae 2 bJ ([]:List Row),ae 3 cU ([]:List bi),ae 3 cD ([]:List bV),.int .i64 0,ae 5 ce ([]:List Part),ae 2 cX ([]:List bd),ae 8 cY ([]:List Request),.int .u64 0,.str ([]:ap0),.bool false,ae 4 ca ([]:List aY),ae 1 be ([]:List ap0)],[]⟩),
 (40,⟨.b9 [(0,2,1),(1,34,11),(12,9,1),(13,4,1),(14,37,1),(15,38,1)],16,264,[.int .i64 0,.int .i64 0,.int .i64 0,.int .i64 0,ae 2 bJ ([]:List Row),ae 3 cU ([]:List bi),ae 3 cD ([]:List bV),.int .i64 0,ae 5 ce ([]:List Part),ae 2 cX ([]:List bd),ae 8 cY ([]:List Request),.int .u64 0,.str ([]:ap0),.bool false,ae 4 ca ([]:List aY),ae 1 be ([]:List ap0)],[]⟩),
 (41,⟨.int .i64,1,8,[.int .i64 0],[]⟩),
 (43,⟨.a1,1,8,[.aO],[]⟩),
 (44,⟨.a1,1,8,[.aO],[]⟩),
 (45,⟨.a1,1,8,[.aO],[]⟩),
 (46,⟨.a1,1,8,[.aO],[]⟩),
 (47,⟨.a1,1,8,[.aO],[]⟩),
 (48,⟨.a1,1,8,[.aO],[]⟩),
 (49,⟨.a1,1,8,[.aO],[]⟩),
 (51,⟨.a1,1,8,[.aO],[]⟩),
 (53,⟨.a1,1,8,[.aO],[]⟩),
 (54,⟨.a1,1,8,[.aO],[]⟩),
 (55,⟨.a1,1,8,[.aO],[]⟩),
 (56,⟨.a1,1,8,[.aO],[]⟩),
 (57,⟨.bL 3,1,24,[ae 1 afE ([]:List Int)],[]⟩),
 (59,⟨.a1,1,8,[.aO],[]⟩),
 (60,⟨.a1,1,8,[.aO],[]⟩),
 (61,⟨.a1,1,8,[.aO],[]⟩),
 (62,⟨.bL 64,1,24,[ae 3 afM ([]:List KJ)],[]⟩),
 (63,⟨.b9 [(0,4,1),(1,37,1),(2,3,1)],3,40,[.bool false,ae 4 ca ([]:List aY),.int .i64 0],[]⟩),
 (64,⟨.b9 [(0,4,1),(1,37,1),(2,3,1)],3,40,[.bool false,ae 4 ca ([]:List aY),.int .i64 0],[]⟩),
 (65,⟨.a1,1,8,[.aO],[]⟩),
 (67,⟨.a1,1,8,[.aO],[]⟩),
 (68,⟨.a1,1,8,[.aO],[]⟩),
 (69,⟨.a1,1,8,[.aO],[]⟩),
 (70,⟨.bL 143,1,24,[ae 2 ec ([]:List Param)],[]⟩),
 (71,⟨.bL 200,1,24,[ae 13 bY ([]:List Stmt)],[]⟩),
 (72,⟨.b9 [(0,9,1),(1,70,1),(2,71,1)],3,64,[.str ([]:ap0),ae 2 ec ([]:List Param),ae 13 bY ([]:List Stmt)],[]⟩),
 (73,⟨.b9 [(0,9,1),(1,70,1),(2,71,1)],3,64,[.str ([]:ap0),ae 2 ec ([]:List Param),ae 13 bY ([]:List Stmt)],[]⟩),
 (74,⟨.bL 232,1,24,[ae 5 hU ([]:List eI)],[]⟩),
 (75,⟨.b9 [(0,3,1),(1,2,1),(2,74,1)],3,40,[.int .i64 0,.int .i64 0,ae 5 hU ([]:List eI)],[]⟩),
 (76,⟨.b9 [(0,3,1),(1,2,1),(2,74,1)],3,40,[.int .i64 0,.int .i64 0,ae 5 hU ([]:List eI)],[]⟩),
 (77,⟨.a1,1,8,[.aO],[]⟩),
 (78,⟨.bL 85,1,24,[ae 3 dN ([]:List bG)],[]⟩),
 (79,⟨.b9 [(0,4,1),(1,38,1),(2,38,1)],3,56,[.bool false,ae 1 be ([]:List ap0),ae 1 be ([]:List ap0)],[]⟩),
 (80,⟨.b9 [(0,4,1),(1,38,1),(2,38,1)],3,56,[.bool false,ae 1 be ([]:List ap0),ae 1 be ([]:List ap0)],[]⟩),
 (81,⟨.b9 [(0,3,1),(1,2,1),(2,9,1),(3,78,1),(4,4,1),(5,80,3)],8,120,[.int .i64 0,.int .i64 0,.str ([]:ap0),ae 3 dN ([]:List bG),.bool false,.bool false,ae 1 be ([]:List ap0),ae 1 be ([]:List ap0)],[]⟩),
 (82,⟨.b9 [(0,3,1),(1,2,1),(2,9,1),(3,78,1),(4,4,1),(5,80,3)],8,120,[.int .i64 0,.int .i64 0,.str ([]:ap0),ae 3 dN ([]:List bG),.bool false,.bool false,ae 1 be ([]:List ap0),ae 1 be ([]:List ap0)],[]⟩),
 (83,⟨.a1,1,8,[.aO],[]⟩),
 (84,⟨.b9 [(0,3,1),(1,2,1),(2,9,1)],3,32,[.int .i64 0,.int .i64 0,.str ([]:ap0)],[]⟩),
 (85,⟨.b9 [(0,3,1),(1,2,1),(2,9,1)],3,32,[.int .i64 0,.int .i64 0,.str ([]:ap0)],[]⟩),
 (86,⟨.b9 [(0,9,1),(1,85,3)],4,48,[.str ([]:ap0),.int .i64 0,.int .i64 0,.str ([]:ap0)],[]⟩),
 (87,⟨.b9 [(0,9,1),(1,85,3)],4,48,[.str ([]:ap0),.int .i64 0,.int .i64 0,.str ([]:ap0)],[]⟩),
 (89,⟨.a1,1,8,[.aO],[]⟩),
 (90,⟨.bL 138,1,24,[ae 4 gb ([]:List Version)],[]⟩),
 (91,⟨.b9 [(0,9,1),(1,90,1)],2,40,[.str ([]:ap0),ae 4 gb ([]:List Version)],[]⟩),
 (92,⟨.b9 [(0,9,1),(1,90,1)],2,40,[.str ([]:ap0),ae 4 gb ([]:List Version)],[]⟩),
 (93,⟨.b9 [(0,9,1),(1,9,1)],2,32,[.str ([]:ap0),.str ([]:ap0)],[]⟩),
 (94,⟨.b9 [(0,9,1),(1,9,1)],2,32,[.str ([]:ap0),.str ([]:ap0)],[]⟩),
 (95,⟨.a1,1,8,[.aO],[]⟩),
 (96,⟨.a1,1,8,[.aO],[]⟩),
 (98,⟨.a1,1,8,[.aO],[]⟩),
 (99,⟨.a1,1,8,[.aO],[]⟩),
 (100,⟨.a1,1,8,[.aO],[]⟩),
 (102,⟨.a1,1,8,[.aO],[]⟩),
 (103,⟨.ptr,1,8,[.ew],[]⟩),
 (104,⟨.bL 5,1,24,[ae 1 cK ([]:List Int)],[]⟩),
 (105,⟨.b9 [(0,103,1),(1,104,1)],2,32,[.ew,ae 1 cK ([]:List Int)],[]⟩),
 (106,⟨.b9 [(0,103,1),(1,104,1)],2,32,[.ew,ae 1 cK ([]:List Int)],[(0,106)]⟩),
 (107,⟨.nJ,1,16,[.h1],[]⟩),
 (108,⟨.nJ,1,16,[.h1],[]⟩),
 (110,⟨.a1,1,8,[.aO],[]⟩),
 (111,⟨.a1,1,8,[.aO],[]⟩),
 (112,⟨.a1,1,8,[.aO],[]⟩),
 (113,⟨.a1,1,8,[.aO],[]⟩),
 (114,⟨.a1,1,8,[.aO],[]⟩),
 (116,⟨.a1,1,8,[.aO],[]⟩),
 (117,⟨.a1,1,8,[.aO],[]⟩),
 (118,⟨.a1,1,8,[.aO],[]⟩),
 (120,⟨.a1,1,8,[.aO],[]⟩),
 (121,⟨.a1,1,8,[.aO],[]⟩),
 (122,⟨.a1,1,8,[.aO],[]⟩),
 (123,⟨.a1,1,8,[.aO],[]⟩),
 (124,⟨.a1,1,8,[.aO],[]⟩),
 (125,⟨.a1,1,8,[.aO],[]⟩),
 (126,⟨.a1,1,8,[.aO],[]⟩),
 (127,⟨.a1,1,8,[.aO],[]⟩),
 (128,⟨.a1,1,8,[.aO],[]⟩),
 (129,⟨.a1,1,8,[.aO],[]⟩),
 (130,⟨.a1,1,8,[.aO],[]⟩),
 (131,⟨.a1,1,8,[.aO],[]⟩),
 (132,⟨.a1,1,8,[.aO],[]⟩),
 (133,⟨.a1,1,8,[.aO],[]⟩),
 (134,⟨.a1,1,8,[.aO],[]⟩),
 (136,⟨.a1,1,8,[.aO],[]⟩),
 (137,⟨.b9 [(0,2,1),(1,85,3)],4,40,[.int .i64 0,.int .i64 0,.int .i64 0,.str ([]:ap0)],[]⟩),
 (138,⟨.b9 [(0,2,1),(1,85,3)],4,40,[.int .i64 0,.int .i64 0,.int .i64 0,.str ([]:ap0)],[]⟩),
 (139,⟨.a1,1,8,[.aO],[]⟩),
 (140,⟨.a1,1,8,[.aO],[]⟩),
 (141,⟨.a1,1,8,[.aO],[]⟩),
 (142,⟨.b9 [(0,9,1),(1,3,1)],2,24,[.str ([]:ap0),.int .i64 0],[]⟩),
 (143,⟨.b9 [(0,9,1),(1,3,1)],2,24,[.str ([]:ap0),.int .i64 0],[]⟩),
 (144,⟨.a1,1,8,[.aO],[]⟩),
 (145,⟨.a1,1,8,[.aO],[]⟩),
 (146,⟨.a1,1,8,[.aO],[]⟩),
 (147,⟨.b9 [(0,3,1),(1,9,1),(2,3,1),(3,3,1),(4,9,1)],5,56,[.int .i64 0,.str ([]:ap0),.int .i64 0,.int .i64 0,.str ([]:ap0)],[]⟩),
 (148,⟨.b9 [(0,3,1),(1,9,1),(2,3,1),(3,3,1),(4,9,1)],5,56,[.int .i64 0,.str ([]:ap0),.int .i64 0,.int .i64 0,.str ([]:ap0)],[]⟩),
 (149,⟨.a1,1,8,[.aO],[]⟩),
 (150,⟨.a1,1,8,[.aO],[]⟩),
 (151,⟨.a1,1,8,[.aO],[]⟩),
 (152,⟨.a1,1,8,[.aO],[]⟩),
 (153,⟨.a1,1,8,[.aO],[]⟩),
 (154,⟨.a1,1,8,[.aO],[]⟩),
 (155,⟨.a1,1,8,[.aO],[]⟩),
 (156,⟨.int .u64,1,8,[.int .u64 0],[]⟩),
 (157,⟨.ptr,1,8,[.ew],[]⟩),
 (159,⟨.a1,1,8,[.aO],[]⟩),
 (161,⟨.a1,1,8,[.aO],[]⟩),
 (163,⟨.a1,1,8,[.aO],[]⟩),
 (165,⟨.a1,1,8,[.aO],[]⟩),
 (167,⟨.a1,1,8,[.aO],[]⟩),
 (169,⟨.a1,1,8,[.aO],[]⟩),
 (171,⟨.a1,1,8,[.aO],[]⟩),
 (173,⟨.a1,1,8,[.aO],[]⟩),
 (175,⟨.a1,1,8,[.aO],[]⟩),
 (176,⟨.a1,1,8,[.aO],[]⟩),
 (177,⟨.a1,1,8,[.aO],[]⟩),
 (178,⟨.b9 [(0,9,1),(1,2,1)],2,24,[.str ([]:ap0),.int .i64 0],[]⟩),
 (179,⟨.b9 [(0,9,1),(1,2,1)],2,24,[.str ([]:ap0),.int .i64 0],[]⟩),
 (180,⟨.a1,1,8,[.aO],[]⟩),
 (181,⟨.a1,1,8,[.aO],[]⟩),
 (182,⟨.a1,1,8,[.aO],[]⟩),
 (183,⟨.a1,1,8,[.aO],[]⟩),
 (184,⟨.a1,1,8,[.aO],[]⟩),
 (185,⟨.a1,1,8,[.aO],[]⟩),
 (186,⟨.a1,1,8,[.aO],[]⟩),
 (187,⟨.a1,1,8,[.aO],[]⟩),
 (188,⟨.a1,1,8,[.aO],[]⟩),
 (189,⟨.a1,1,8,[.aO],[]⟩),
 (190,⟨.a1,1,8,[.aO],[]⟩),
 (191,⟨.a1,1,8,[.aO],[]⟩),
 (192,⟨.a1,1,8,[.aO],[]⟩),
 (193,⟨.a1,1,8,[.aO],[]⟩),
 (194,⟨.a1,1,8,[.aO],[]⟩),
 (195,⟨.a1,1,8,[.aO],[]⟩),
 (196,⟨.bL 198,1,24,[ae 4 b3 ([]:List Expr)],[]⟩),
 (197,⟨.b9 [(0,3,1),(1,2,1),(2,9,1),(3,196,1)],4,56,[.int .i64 0,.int .i64 0,.str ([]:ap0),ae 4 b3 ([]:List Expr)],[]⟩),
 (198,⟨.b9 [(0,3,1),(1,2,1),(2,9,1),(3,196,1)],4,56,[.int .i64 0,.int .i64 0,.str ([]:ap0),ae 4 b3 ([]:List Expr)],[]⟩),
 (199,⟨.b9 [(0,3,1),(1,9,1),(2,3,1),(3,198,4),(7,198,4),(11,71,1),(12,71,1)],13,192,[.int .i64 0,.str ([]:ap0),.int .i64 0,.int .i64 0,.int .i64 0,.str ([]:ap0),ae 4 b3 ([]:List Expr),.int .i64 0,.int .i64 0,.str ([]:ap0),ae 4 b3 ([]:List Expr),ae 13 bY ([]:List Stmt),ae 13 bY ([]:List Stmt)],[]⟩),
 (200,⟨.b9 [(0,3,1),(1,9,1),(2,3,1),(3,198,4),(7,198,4),(11,71,1),(12,71,1)],13,192,[.int .i64 0,.str ([]:ap0),.int .i64 0,.int .i64 0,.int .i64 0,.str ([]:ap0),ae 4 b3 ([]:List Expr),.int .i64 0,.int .i64 0,.str ([]:ap0),ae 4 b3 ([]:List Expr),ae 13 bY ([]:List Stmt),ae 13 bY ([]:List Stmt)],[]⟩),
 (201,⟨.a1,1,8,[.aO],[]⟩),
 (202,⟨.ptr,1,8,[.ew],[]⟩),
 (203,⟨.b9 [(0,9,1),(1,3,1),(2,41,1)],3,32,[.str ([]:ap0),.int .i64 0,.int .i64 0],[]⟩),
 (204,⟨.b9 [(0,9,1),(1,3,1),(2,41,1)],3,32,[.str ([]:ap0),.int .i64 0,.int .i64 0],[]⟩),
 (205,⟨.b9 [(0,34,11),(11,37,1),(12,38,1)],13,232,[.int .i64 0,.int .i64 0,.int .i64 0,ae 2 bJ ([]:List Row),ae 3 cU ([]:List bi),ae 3 cD ([]:List bV),.int .i64 0,ae 5 ce ([]:List Part),ae 2 cX ([]:List bd),ae 8 cY ([]:List Request),.int .u64 0,ae 4 ca ([]:List aY),ae 1 be ([]:List ap0)],[]⟩),
 (206,⟨.b9 [(0,34,11),(11,37,1),(12,38,1)],13,232,[.int .i64 0,.int .i64 0,.int .i64 0,ae 2 bJ ([]:List Row),ae 3 cU ([]:List bi),ae 3 cD ([]:List bV),.int .i64 0,ae 5 ce ([]:List Part),ae 2 cX ([]:List bd),ae 8 cY ([]:List Request),.int .u64 0,ae 4 ca ([]:List aY),ae 1 be ([]:List ap0)],[]⟩),
 (207,⟨.a1,1,8,[.aO],[]⟩),
 (208,⟨.a1,1,8,[.aO],[]⟩),
 (209,⟨.a1,1,8,[.aO],[]⟩),
 (210,⟨.a1,1,8,[.aO],[]⟩),
 (211,⟨.a1,1,8,[.aO],[]⟩),
 (212,⟨.a1,1,8,[.aO],[]⟩),
 (214,⟨.a1,1,8,[.aO],[]⟩),
 (215,⟨.a1,1,8,[.aO],[]⟩),
 (216,⟨.a1,1,8,[.aO],[]⟩),
 (218,⟨.a1,1,8,[.aO],[]⟩),
 (220,⟨.a1,1,8,[.aO],[]⟩),
 (222,⟨.a1,1,8,[.aO],[]⟩),
 (224,⟨.a1,1,8,[.aO],[]⟩),
 (226,⟨.a1,1,8,[.aO],[]⟩),
 (227,⟨.a1,1,8,[.aO],[]⟩),
 (228,⟨.a1,1,8,[.aO],[]⟩),
 (229,⟨.b9 [(0,3,1),(1,3,1),(2,78,1)],3,40,[.int .i64 0,.int .i64 0,ae 3 dN ([]:List bG)],[]⟩),
 (230,⟨.b9 [(0,3,1),(1,3,1),(2,78,1)],3,40,[.int .i64 0,.int .i64 0,ae 3 dN ([]:List bG)],[]⟩),
 (231,⟨.b9 [(0,3,1),(1,2,1),(2,230,3)],5,56,[.int .i64 0,.int .i64 0,.int .i64 0,.int .i64 0,ae 3 dN ([]:List bG)],[]⟩),
 (232,⟨.b9 [(0,3,1),(1,2,1),(2,230,3)],5,56,[.int .i64 0,.int .i64 0,.int .i64 0,.int .i64 0,ae 3 dN ([]:List bG)],[]⟩),
 (233,⟨.a1,1,8,[.aO],[]⟩),
 (234,⟨.a1,1,8,[.aO],[]⟩),
 (235,⟨.a1,1,8,[.aO],[]⟩),
 (236,⟨.a1,1,8,[.aO],[]⟩),
 (237,⟨.a1,1,8,[.aO],[]⟩),
 (238,⟨.a1,1,8,[.aO],[]⟩),
 (239,⟨.a1,1,8,[.aO],[]⟩),
 (240,⟨.a1,1,8,[.aO],[]⟩),
 (241,⟨.a1,1,8,[.aO],[]⟩),
 (242,⟨.a1,1,8,[.aO],[]⟩),
 (243,⟨.a1,1,8,[.aO],[]⟩),
 (244,⟨.ptr,1,8,[.ew],[]⟩),
 (245,⟨.b9 [(0,106,2),(2,3,1)],3,40,[.ew,ae 1 cK ([]:List Int),.int .i64 0],[(0,106)]⟩),
 (246,⟨.b9 [(0,106,2),(2,3,1)],3,40,[.ew,ae 1 cK ([]:List Int),.int .i64 0],[(0,106)]⟩),
 (247,⟨.a1,1,8,[.aO],[]⟩),
 (248,⟨.a1,1,8,[.aO],[]⟩),
 (249,⟨.a1,1,8,[.aO],[]⟩),
 (250,⟨.a1,1,8,[.aO],[]⟩),
 (251,⟨.b9 [(0,161,1)],1,8,[.aO],[]⟩),
 (252,⟨.b9 [(0,161,1)],1,8,[.aO],[]⟩),
 (253,⟨.a1,1,8,[.aO],[]⟩),
 (254,⟨.b9 [(0,163,1)],1,8,[.aO],[]⟩),
 (255,⟨.b9 [(0,163,1)],1,8,[.aO],[]⟩),
 (256,⟨.a1,1,8,[.aO],[]⟩),
 (257,⟨.a1,1,8,[.aO],[]⟩),
 (258,⟨.b9 [(0,257,1)],1,8,[.aO],[]⟩),
 (259,⟨.b9 [(0,257,1)],1,8,[.aO],[]⟩),
 (260,⟨.a1,1,8,[.aO],[]⟩),
 (261,⟨.a1,1,8,[.aO],[]⟩),
 (262,⟨.a1,1,8,[.aO],[]⟩),
 (263,⟨.b9 [(0,262,1)],1,8,[.aO],[]⟩),
 (264,⟨.b9 [(0,262,1)],1,8,[.aO],[]⟩),
 (265,⟨.a1,1,8,[.aO],[]⟩),
 (266,⟨.a1,1,8,[.aO],[]⟩),
 (267,⟨.b9 [(0,167,1)],1,8,[.aO],[]⟩),
 (268,⟨.b9 [(0,167,1)],1,8,[.aO],[]⟩),
 (269,⟨.a1,1,8,[.aO],[]⟩),
 (270,⟨.b9 [(0,169,1)],1,8,[.aO],[]⟩),
 (271,⟨.b9 [(0,169,1)],1,8,[.aO],[]⟩),
 (272,⟨.a1,1,8,[.aO],[]⟩),
 (273,⟨.b9 [(0,173,1)],1,8,[.aO],[]⟩),
 (274,⟨.b9 [(0,173,1)],1,8,[.aO],[]⟩),
 (275,⟨.a1,1,8,[.aO],[]⟩),
 (276,⟨.b9 [(0,159,1)],1,8,[.aO],[]⟩),
 (277,⟨.b9 [(0,159,1)],1,8,[.aO],[]⟩),
 (278,⟨.a1,1,8,[.aO],[]⟩),
 (279,⟨.a1,1,8,[.aO],[]⟩),
 (280,⟨.a1,1,8,[.aO],[]⟩),
 (281,⟨.a1,1,8,[.aO],[]⟩),
 (282,⟨.a1,1,8,[.aO],[]⟩),
 (283,⟨.a1,1,8,[.aO],[]⟩),
 (285,⟨.a1,1,8,[.aO],[]⟩),
 (287,⟨.a1,1,8,[.aO],[]⟩),
 (289,⟨.a1,1,8,[.aO],[]⟩),
 (291,⟨.a1,1,8,[.aO],[]⟩),
 (292,⟨.bL 341,1,24,[ae 4 da ([]:List Token)],[]⟩),
 (294,⟨.a1,1,8,[.aO],[]⟩),
 (295,⟨.a1,1,8,[.aO],[]⟩),
 (296,⟨.a1,1,8,[.aO],[]⟩),
 (297,⟨.a1,1,8,[.aO],[]⟩),
 (298,⟨.a1,1,8,[.aO],[]⟩),
 (299,⟨.a1,1,8,[.aO],[]⟩),
 (300,⟨.a1,1,8,[.aO],[]⟩),
 (301,⟨.bL 304,1,24,[ae 20 iK ([]:List cE)],[]⟩),
 (302,⟨.a1,1,8,[.aO],[]⟩),
 (303,⟨.b9 [(0,4,1),(1,200,13),(14,3,1),(15,198,4),(19,4,1)],20,272,[.bool false,.int .i64 0,.str ([]:ap0),.int .i64 0,.int .i64 0,.int .i64 0,.str ([]:ap0),ae 4 b3 ([]:List Expr),.int .i64 0,.int .i64 0,.str ([]:ap0),ae 4 b3 ([]:List Expr),ae 13 bY ([]:List Stmt),ae 13 bY ([]:List Stmt),.int .i64 0,.int .i64 0,.int .i64 0,.str ([]:ap0),ae 4 b3 ([]:List Expr),.bool false],[]⟩),
 (304,⟨.b9 [(0,4,1),(1,200,13),(14,3,1),(15,198,4),(19,4,1)],20,272,[.bool false,.int .i64 0,.str ([]:ap0),.int .i64 0,.int .i64 0,.int .i64 0,.str ([]:ap0),ae 4 b3 ([]:List Expr),.int .i64 0,.int .i64 0,.str ([]:ap0),ae 4 b3 ([]:List Expr),ae 13 bY ([]:List Stmt),ae 13 bY ([]:List Stmt),.int .i64 0,.int .i64 0,.int .i64 0,.str ([]:ap0),ae 4 b3 ([]:List Expr),.bool false],[]⟩),
 (305,⟨.a1,1,8,[.aO],[]⟩),
 (306,⟨.a1,1,8,[.aO],[]⟩),
 (307,⟨.a1,1,8,[.aO],[]⟩),
 (308,⟨.a1,1,8,[.aO],[]⟩),
 (309,⟨.a1,1,8,[.aO],[]⟩),
 (310,⟨.a1,1,8,[.aO],[]⟩),
 (311,⟨.a1,1,8,[.aO],[]⟩),
 (312,⟨.a1,1,8,[.aO],[]⟩),
 (313,⟨.a1,1,8,[.aO],[]⟩),
 (314,⟨.b9 [(0,3,1),(1,2,1)],2,16,[.int .i64 0,.int .i64 0],[]⟩),
 (315,⟨.b9 [(0,3,1),(1,2,1)],2,16,[.int .i64 0,.int .i64 0],[]⟩),
 (316,⟨.a1,1,8,[.aO],[]⟩),
 (317,⟨.a1,1,8,[.aO],[]⟩),
 (318,⟨.a1,1,8,[.aO],[]⟩),
 (319,⟨.a1,1,8,[.aO],[]⟩),
 (320,⟨.a1,1,8,[.aO],[]⟩),
 (321,⟨.a1,1,8,[.aO],[]⟩),
 (322,⟨.a1,1,8,[.aO],[]⟩),
 (323,⟨.a1,1,8,[.aO],[]⟩),
 (324,⟨.a1,1,8,[.aO],[]⟩),
 (325,⟨.a1,1,8,[.aO],[]⟩),
 (326,⟨.a1,1,8,[.aO],[]⟩),
 (327,⟨.ptr,1,8,[.ew],[]⟩),
 (328,⟨.b9 [(0,9,1),(1,3,1),(2,41,1)],3,32,[.str ([]:ap0),.int .i64 0,.int .i64 0],[]⟩),
 (329,⟨.b9 [(0,9,1),(1,3,1),(2,41,1)],3,32,[.str ([]:ap0),.int .i64 0,.int .i64 0],[]⟩),
 (330,⟨.a1,1,8,[.aO],[]⟩),
 (331,⟨.ptr,1,8,[.ew],[]⟩),
 (332,⟨.b9 [(0,9,1),(1,3,1),(2,41,1)],3,32,[.str ([]:ap0),.int .i64 0,.int .i64 0],[]⟩),
 (333,⟨.b9 [(0,9,1),(1,3,1),(2,41,1)],3,32,[.str ([]:ap0),.int .i64 0,.int .i64 0],[]⟩),
 (334,⟨.a1,1,8,[.aO],[]⟩),
 (336,⟨.a1,1,8,[.aO],[]⟩),
 (337,⟨.ptr,1,8,[.ew],[]⟩),
 (338,⟨.a1,1,8,[.aO],[]⟩),
 (339,⟨.a1,1,8,[.aO],[]⟩),
 (340,⟨.b9 [(0,3,1),(1,9,1),(2,2,1),(3,3,1)],4,40,[.int .i64 0,.str ([]:ap0),.int .i64 0,.int .i64 0],[]⟩),
 (341,⟨.b9 [(0,3,1),(1,9,1),(2,2,1),(3,3,1)],4,40,[.int .i64 0,.str ([]:ap0),.int .i64 0,.int .i64 0],[]⟩),
 (343,⟨.a1,1,8,[.aO],[]⟩),
 (344,⟨.a1,1,8,[.aO],[]⟩),
 (345,⟨.a1,1,8,[.aO],[]⟩),
 (347,⟨.a1,1,8,[.aO],[]⟩),
 (349,⟨.a1,1,8,[.aO],[]⟩),
 (350,⟨.a1,1,8,[.aO],[]⟩),
 (352,⟨.a1,1,8,[.aO],[]⟩),
 (353,⟨.a1,1,8,[.aO],[]⟩),
 (354,⟨.a1,1,8,[.aO],[]⟩),
 (355,⟨.a1,1,8,[.aO],[]⟩),
 (356,⟨.a1,1,8,[.aO],[]⟩),
 (357,⟨.a1,1,8,[.aO],[]⟩),
 (358,⟨.a1,1,8,[.aO],[]⟩),
 (359,⟨.a1,1,8,[.aO],[]⟩),
 (360,⟨.ptr,1,8,[.ew],[]⟩),
 (361,⟨.b9 [(0,3,1),(1,319,1),(2,320,1)],3,24,[.int .i64 0,.aO,.aO],[]⟩),
 (362,⟨.b9 [(0,3,1),(1,319,1),(2,320,1)],3,24,[.int .i64 0,.aO,.aO],[]⟩),
 (363,⟨.a1,1,8,[.aO],[]⟩),
 (364,⟨.b9 [(0,4,1),(1,4,1),(2,4,1),(3,4,1),(4,4,1),(5,4,1)],6,6,[.bool false,.bool false,.bool false,.bool false,.bool false,.bool false],[]⟩),
 (365,⟨.b9 [(0,4,1),(1,4,1),(2,4,1),(3,4,1),(4,4,1),(5,4,1)],6,6,[.bool false,.bool false,.bool false,.bool false,.bool false,.bool false],[]⟩),
 (367,⟨.a1,1,8,[.aO],[]⟩),
 (368,⟨.a1,1,8,[.aO],[]⟩),
 (369,⟨.a1,1,8,[.aO],[]⟩),
 (370,⟨.a1,1,8,[.aO],[]⟩),
 (371,⟨.a1,1,8,[.aO],[]⟩),
 (372,⟨.ptr,1,8,[.ew],[]⟩),
 (373,⟨.b9 [(0,9,1),(1,3,1),(2,41,1)],3,32,[.str ([]:ap0),.int .i64 0,.int .i64 0],[]⟩),
 (374,⟨.b9 [(0,9,1),(1,3,1),(2,41,1)],3,32,[.str ([]:ap0),.int .i64 0,.int .i64 0],[]⟩),
 (375,⟨.a1,1,8,[.aO],[]⟩),
 (376,⟨.a1,1,8,[.aO],[]⟩),
 (377,⟨.a1,1,8,[.aO],[]⟩),
 (378,⟨.b9 [(0,3,1),(1,41,1)],2,16,[.int .i64 0,.int .i64 0],[]⟩),
 (379,⟨.b9 [(0,3,1),(1,41,1)],2,16,[.int .i64 0,.int .i64 0],[]⟩),
 (381,⟨.b9 [(0,292,1),(1,3,1)],2,32,[ae 4 da ([]:List Token),.int .i64 0],[]⟩),
 (382,⟨.b9 [(0,292,1),(1,3,1)],2,32,[ae 4 da ([]:List Token),.int .i64 0],[]⟩),
 (383,⟨.a1,1,8,[.aO],[]⟩),
 (384,⟨.a1,1,8,[.aO],[]⟩),
 (385,⟨.a1,1,8,[.aO],[]⟩),
 (386,⟨.a1,1,8,[.aO],[]⟩),
 (387,⟨.a1,1,8,[.aO],[]⟩),
 (389,⟨.a1,1,8,[.aO],[]⟩),
 (390,⟨.a1,1,8,[.aO],[]⟩),
 (391,⟨.a1,1,8,[.aO],[]⟩),
 (393,⟨.a1,1,8,[.aO],[]⟩),
 (394,⟨.a1,1,8,[.aO],[]⟩),
 (395,⟨.a1,1,8,[.aO],[]⟩),
 (396,⟨.a1,1,8,[.aO],[]⟩),
 (397,⟨.a1,1,8,[.aO],[]⟩),
 (398,⟨.a1,1,8,[.aO],[]⟩),
 (399,⟨.a1,1,8,[.aO],[]⟩),
 (400,⟨.a1,1,8,[.aO],[]⟩),
 (401,⟨.a1,1,8,[.aO],[]⟩),
 (402,⟨.a1,1,8,[.aO],[]⟩),
 (404,⟨.a1,1,8,[.aO],[]⟩),
 (405,⟨.a1,1,8,[.aO],[]⟩),
 (407,⟨.a1,1,8,[.aO],[]⟩),
 (408,⟨.a1,1,8,[.aO],[]⟩),
 (409,⟨.a1,1,8,[.aO],[]⟩),
 (410,⟨.a1,1,8,[.aO],[]⟩),
 (411,⟨.a1,1,8,[.aO],[]⟩),
 (412,⟨.a1,1,8,[.aO],[]⟩),
 (413,⟨.a1,1,8,[.aO],[]⟩),
 (414,⟨.a1,1,8,[.aO],[]⟩),
 (415,⟨.a1,1,8,[.aO],[]⟩),
 (416,⟨.a1,1,8,[.aO],[]⟩),
 (418,⟨.a1,1,8,[.aO],[]⟩),
 (420,⟨.a1,1,8,[.aO],[]⟩),
 (421,⟨.a1,1,8,[.aO],[]⟩),
 (423,⟨.a1,1,8,[.aO],[]⟩),
 (425,⟨.a1,1,8,[.aO],[]⟩),
 (426,⟨.a1,1,8,[.aO],[]⟩),
 (428,⟨.int .u32,1,4,[.int .u32 0],[]⟩),
 (430,⟨.a1,1,8,[.aO],[]⟩),
 (431,⟨.a1,1,8,[.aO],[]⟩),
 (432,⟨.a1,1,8,[.aO],[]⟩),
 (433,⟨.int .i64,1,8,[.int .i64 0],[]⟩),
 (435,⟨.a1,1,8,[.aO],[]⟩),
 (436,⟨.ptr,1,8,[.ew],[]⟩),
 (437,⟨.a1,1,8,[.aO],[]⟩),
 (438,⟨.a1,1,8,[.aO],[]⟩),
 (441,⟨.a1,1,8,[.aO],[]⟩),
 (442,⟨.b9 [(0,9,1),(1,9,1),(2,108,1)],3,48,[.str ([]:ap0),.str ([]:ap0),.h1],[]⟩),
 (443,⟨.b9 [(0,9,1),(1,9,1),(2,108,1)],3,48,[.str ([]:ap0),.str ([]:ap0),.h1],[]⟩),
 (444,⟨.a1,1,8,[.aO],[]⟩),
 (445,⟨.ptr,1,8,[.ew],[]⟩),
 (446,⟨.b9 [(0,9,1)],1,16,[.str ([]:ap0)],[]⟩),
 (447,⟨.b9 [(0,9,1)],1,16,[.str ([]:ap0)],[]⟩),
 (448,⟨.b9 [(0,17,1),(1,17,1),(2,17,1),(3,9,1)],4,40,[.ew,.ew,.ew,.str ([]:ap0)],[]⟩),
 (449,⟨.b9 [(0,17,1),(1,17,1),(2,17,1),(3,9,1)],4,40,[.ew,.ew,.ew,.str ([]:ap0)],[]⟩),
 (453,⟨.int .u8,1,1,[.int .u8 0],[]⟩),
 (454,⟨.int .u8,1,1,[.int .u8 0],[]⟩),
 (455,⟨.a1,1,8,[.aO],[]⟩),
 (456,⟨.int .i32,1,4,[.int .i32 0],[]⟩),
 (457,⟨.int .i32,1,4,[.int .i32 0],[]⟩),
 (458,⟨.b9 [(0,12,1),(1,12,1),(2,428,1),(3,453,1),(4,5,1),(5,5,1),(6,454,1),(7,455,1),(8,157,1),(9,456,1),(10,457,1)],11,48,[.int .u64 0,.int .u64 0,.int .u32 0,.int .u8 0,.int .u8 0,.int .u8 0,.int .u8 0,.aO,.ew,.int .i32 0,.int .i32 0],[]⟩),
 (459,⟨.b9 [(0,12,1),(1,12,1),(2,428,1),(3,453,1),(4,5,1),(5,5,1),(6,454,1),(7,455,1),(8,157,1),(9,456,1),(10,457,1)],11,48,[.int .u64 0,.int .u64 0,.int .u32 0,.int .u8 0,.int .u8 0,.int .u8 0,.int .u8 0,.aO,.ew,.int .i32 0,.int .i32 0],[]⟩)]
def hN:e7 Tryz.prog tt=true:=by kernel_rfl
def zK:Tryz.prog.follows .mixedOrders=true:=by kernel_rfl
end Go.Ab.Y
namespace Go.Ab.Y.T
open Go Go.Ab Go.Proofs
structure aK(f:FuncId)(args:List D)(en:List (Nat×TypeId))(H:List (List aZ)){ρ:Type}(F:Option ρ)(out:ρ→Out)(cH:ρ→List (List aZ)):Prop where
 of:∀{r:ρ},F=some r→gl Tryz.prog f args en H (out r) (cH r)
def q2(E:Nat)(rs:List ResultVar){ρ:Type}(out:ρ→Out)(cH:ρ→List (List aZ))(r:ρ):cv→aJ→Prop:=qW tt E rs λo H'=>o=out r∧H'=cH r
def gJ(s st:aJ):Option aJ:=(s6 (s.env.map (·.1)) (s.H.map (·.1)) s.a8 st.env st.H st.a8).map (fit s)
noncomputable abbrev h6(N:Nat)(ops:Array Oper)(rs:List fo)(st:aJ):=tY (gW Tryz.prog) tt N ops.toList rs st
noncomputable abbrev D8(N:Nat)(ops:Array Oper)(rs:List (Nat×List fo))(st:aJ):=DQ (gW Tryz.prog) tt N ops.toList (spread ops.toList.length 0 rs) st
noncomputable abbrev US(N:Nat)(ops:Array Oper)(f_:Nat)(rs:List (Nat×List fo))(st:aJ):=zy (gW Tryz.prog) tt N ops.toList f_ (st.a8+ops.toList.length) (spread ops.toList.length 0 rs) st
abbrev ad(x:Int):aZ:=⟨.v (.int .i64 x),none⟩
abbrev dj(x:Bool):aZ:=⟨.v (.bool x),none⟩
abbrev aT(x:ap0):aZ:=⟨.v (.str x),none⟩
abbrev ax{α:Type}[Inhabited α](k:Nat)(e:α→V)(l:List α):aZ:=⟨.v (ae k e l),none⟩
abbrev aW(r o:Nat):aZ:=⟨.ptr r o,none⟩
abbrev e'(x:V):aZ:=⟨.v x,none⟩
abbrev bk(x:Int):D:=.v (.int .i64 x)
abbrev bW(x:Bool):D:=.v (.bool x)
abbrev b_(x:ap0):D:=.v (.str x)
abbrev db{α:Type}[Inhabited α](k:Nat)(e:α→V)(l:List α):D:=.v (ae k e l)
abbrev aL(d:D):Out:=.ret d none
def afP(n:Nat):gP (n:Int) n=true:=adk ⟨Int.natCast_nonneg n,Int.le_refl _⟩
abbrev aq:=all_nil
def aa{p:Prop}{l:List Prop}(h:p)(ag:kz l):kz (p::l):=⟨h,ag⟩
section
variable {N E:Nat} {st:aJ} {Q:cv→aJ→Prop} {next:aJ→Prop} {x y:Code} {id i j:Nat} {ops:Array Oper}
def wx{x:V}(h:Q (.bl x) st):cv.then next Q (.bl x) st:=h
def bP(h:Q .normal st):cv.inBlock i Q (.exit i) st:=cv.aeu h
def wy(h:Q (.exit j) st)(ef:Nat.beq j i=false:=by kernel_rfl):cv.inBlock i Q (.exit j) st:=cv.aev ef h
def afQ{x:V}(h:Q (.bl x) st):cv.inBlock i Q (.bl x) st:=h
def an(h:bf Tryz.prog N E x (cv.then (bf Tryz.prog N E y Q) Q) st):bf Tryz.prog N E (.seq x y) Q st:=bf.seq h
def am(h:Q .normal st):bf Tryz.prog N E .skip Q st:=bf.skip h
def UT{r:Nat}(h:Q .ret (zE r st)):KA r Q .ret st:=h
def UU(r:Nat)(h:bf Tryz.prog N E x (KA r Q) st):bf Tryz.prog N E x Q st:=bf.nO r h
def ua(n4:List Nat)(h:bf Tryz.prog N E x Q {env:=forget n4 st.env,H:=st.H,a8:=st.a8}):bf Tryz.prog N E x Q st:=bf.forget n4 h
def afR{l:Nat}(h:Q .normal st):bf Tryz.prog N E (.label l) Q st:=bf.label h
def bQ(h:Q (.exit i) st):bf Tryz.prog N E (.exit i) Q st:=bf.exit h
def D9(h:Q .ret st):bf Tryz.prog N E .ret Q st:=bf.ret h
def afS(h:bf Tryz.prog N E x Q st):bf Tryz.prog N E (.scope x) Q st:=bf.scope h
def aG(h:bf Tryz.prog N E x (cv.inBlock i Q) st):bf Tryz.prog N E (.block i x) Q st:=bf.block h
def eB(rs:List fo){cJ:List Prop}(cC:kz cJ)(ea:Q .normal (jo (h6 N ops rs st)))(ak:lG (h6 N ops rs st)=some cJ:=by kernel_rfl):bf Tryz.prog N E (.region id ops false) Q st:=bf.rg hN rs ak cC ea
def bv(ea:Q .normal (jo (h6 N ops [] st)))(ak:lG (h6 N ops [] st)=some []:=by kernel_rfl):bf Tryz.prog N E (.region id ops false) Q st:=eB [] aq ea ak
def G(ea:bf Tryz.prog N E y Q (jo (h6 N ops [] st)))(ak:lG (h6 N ops [] st)=some []:=by kernel_rfl):bf Tryz.prog N E (.seq (.region id ops false) y) Q st:=an (bv (Q:=cv.then (bf Tryz.prog N E y Q) Q) ea ak)
def aN(rs:List fo){cJ:List Prop}(cC:kz cJ)(ea:bf Tryz.prog N E y Q (jo (h6 N ops rs st)))(ak:lG (h6 N ops rs st)=some cJ:=by kernel_rfl):bf Tryz.prog N E (.seq (.region id ops false) y) Q st:=an (eB (Q:=cv.then (bf Tryz.prog N E y Q) Q) rs cC ea ak)
section
variable {f:FuncId} {args:List D} {en:List (Nat×TypeId)} {H cH:List (List aZ)} {out:Out}
def k0(p:gl Tryz.prog f args en H out cH)(ea:Q .normal (jo (h6 N ops [aU p []] st)))(ak:lG (h6 N ops [aU p []] st)=some [gl Tryz.prog f args en H out cH]:=by kernel_rfl):bf Tryz.prog N E (.region id ops false) Q st:=eB [aU p []] (aa p aq) ea ak
def j'(p:gl Tryz.prog f args en H out cH)(ea:Q .normal (jo (h6 N ops [bM p []] st)))(ak:lG (h6 N ops [bM p []] st)=some [gl Tryz.prog f args en H out cH]:=by kernel_rfl):bf Tryz.prog N E (.region id ops false) Q st:=eB [bM p []] (aa p aq) ea ak
def bF(p:gl Tryz.prog f args en H out cH)(ea:bf Tryz.prog N E y Q (jo (h6 N ops [aU p []] st)))(ak:lG (h6 N ops [aU p []] st)=some [gl Tryz.prog f args en H out cH]:=by kernel_rfl):bf Tryz.prog N E (.seq (.region id ops false) y) Q st:=aN [aU p []] (aa p aq) ea ak
def dn(p:gl Tryz.prog f args en H out cH)(ea:bf Tryz.prog N E y Q (jo (h6 N ops [bM p []] st)))(ak:lG (h6 N ops [bM p []] st)=some [gl Tryz.prog f args en H out cH]:=by kernel_rfl):bf Tryz.prog N E (.seq (.region id ops false) y) Q st:=aN [bM p []] (aa p aq) ea ak
end
def gY(rs:List (Nat×List fo)){cJ:List Prop}(cC:kz cJ)(ea:Q .normal (jo (D8 N ops rs st)))(ak:lG (D8 N ops rs st)=some cJ:=by kernel_rfl):bf Tryz.prog N E (.region id ops true) Q st:=bf.DS hN zK rs ak cC ea
def cg(rs:List (Nat×List fo)){cJ:List Prop}(cC:kz cJ)(ea:bf Tryz.prog N E y Q (jo (D8 N ops rs st)))(ak:lG (D8 N ops rs st)=some cJ:=by kernel_rfl):bf Tryz.prog N E (.seq (.region id ops true) y) Q st:=an (gY (Q:=cv.then (bf Tryz.prog N E y Q) Q) rs cC ea ak)
def ed(x:V)(rs:List fo){cJ:List Prop}(cC:kz cJ)(ea:Q (.bl x) (jo (h6 N ops rs st)))(ak:Kf (h6 N ops rs st)=some (x,cJ):=by kernel_rfl):bf Tryz.prog N E (.region id ops false) Q st:=bf.Kg hN rs ak cC ea
def q3(f_:Nat)(x:V)(rs:List (Nat×List fo)){cJ:List Prop}(cC:kz cJ)(ea:∀n,Q (.bl x) {env:=[],H:=Ks (US N ops f_ rs st),a8:=n})(ak:Kr (US N ops f_ rs st)=some (x,cJ):=by kernel_rfl):bf Tryz.prog N E (.region id ops true) Q st:=bf.ae' hN zK f_ rs ak cC ea
def C{α:Type}{b:Bool}{p q:Option α}{r:α}{c:Nat}(h:(bif b then p else q)=some r)(bU:p=some r→bf Tryz.prog N E x Q st)(a':q=some r→bf Tryz.prog N E y Q st)(hc:(look st.env c).map (·.d)=some (.v (.bool b)):=by kernel_rfl):bf Tryz.prog N E (.cond (.tmp c) x y) Q st:=bf.Ki h hc bU a'
def UV{c:Nat}(bU:bf Tryz.prog N E x Q st)(hc:(look st.env c).map (·.d)=some (.v (.bool true)):=by kernel_rfl):bf Tryz.prog N E (.cond (.tmp c) x y) Q st:=bf.T8 hc bU
def UW{c:Nat}(a':bf Tryz.prog N E y Q st)(hc:(look st.env c).map (·.d)=some (.v (.bool false)):=by kernel_rfl):bf Tryz.prog N E (.cond (.tmp c) x y) Q st:=bf.Kj hc a'
section
variable {ρ:Type} {a r:ρ} {out:ρ→Out} {cH:ρ→List (List aZ)} {rs:List ResultVar}
def DN(h:some a=some r)(ag:leave tt E rs st=some (out a,cH a):=by kernel_rfl):q2 E rs out cH r .ret st:=by
 obtain rfl:=Option.some.inj h;exact aex ag
def afT(D':Nat)(h:some a=some r)(ag:qV tt E D' rs st=some (out a,cH a):=by kernel_rfl):q2 E rs out cH r .ret st:=by
 obtain rfl:=Option.some.inj h;exact aey ag
def bx{Q:cv→aJ→Prop}(h:some a=some r)(aE:q2 E rs out cH r .ret st=Q .ret st:=by rfl)(ag:leave tt E rs st=some (out a,cH a):=by kernel_rfl):bf Tryz.prog N E .ret Q st:=D9 (aE ▸ DN h ag)
def afU(D':Nat){Q:cv→aJ→Prop}(h:some a=some r)(aE:q2 E rs out cH r .ret st=Q .ret st:=by rfl)(ag:qV tt E D' rs st=some (out a,cH a):=by kernel_rfl):bf Tryz.prog N E .ret Q st:=D9 (aE ▸ afT D' h ag)
def bm{Q:cv→aJ→Prop}{id:Nat}{ops:Array Oper}(h:some a=some r)(aE:q2 E rs out cH r .ret (jo (h6 N ops [] st))=Q .ret (jo (h6 N ops [] st)):=by rfl)(ag:leave tt E rs (jo (h6 N ops [] st))=some (out a,cH a):=by kernel_rfl)(ak:lG (h6 N ops [] st)=some []:=by kernel_rfl):bf Tryz.prog N E (.seq (.region id ops false) .ret) Q st:=G (bx h aE ag) ak
def aC{Q:cv→aJ→Prop}{id:Nat}{ops:Array Oper}{b:Bool}{q:Option ρ}{c:Nat}{y:Code}(h:(bif b then some a else q)=some r)(a':q=some r→bf Tryz.prog N E y Q st)(aE:q2 E rs out cH r .ret (jo (h6 N ops [] st))=Q .ret (jo (h6 N ops [] st)):=by rfl)(ag:leave tt E rs (jo (h6 N ops [] st))=some (out a,cH a):=by kernel_rfl)(ak:lG (h6 N ops [] st)=some []:=by kernel_rfl)(hc:(look st.env c).map (·.d)=some (.v (.bool b)):=by kernel_rfl):bf Tryz.prog N E (.cond (.tmp c) (.seq (.region id ops false) .ret) y) Q st:=C h (λh=>bm h aE ag ak) a' hc
def j_(h:some a=some r)(ag:leave tt E rs st=some (out a,cH a):=by kernel_rfl):q2 E rs out cH r .normal st:=by
 obtain rfl:=Option.some.inj h;exact J3 ag
def dF{x:V}(h:some a=some r)(ag:(Dr E st.H).map ng=some (cH a):=by kernel_rfl)(hx:out a = .bl x:=by kernel_rfl):q2 E rs out cH r (.bl x) st:=by
 obtain rfl:=Option.some.inj h;show qW tt E rs _ _ _
 rw [hx];exact aez ag
end
def aM{f:FuncId}{fn:Func}{c:Code}{args:List D}{en:List (Nat×TypeId)}{H:List (List aZ)}{ρ:Type}{F:Option ρ}{out:ρ→Out}{cH:ρ→List (List aZ)}(a':Tryz.prog.funcs[f]? = some fn)(hb:fn.body=some c)
 (h : ∀ {r : ρ}, F = some r → bf Tryz.prog fn.ntmps H.length c (q2 H.length fn.results.toList out cH r) { env := hA args en, H := c8 0 H, a8 := H.length }) (jl : decide (fn.name = "runtime.NumGoroutine") = false := by rfl) (ha : Nat.ble args.length fn.ntmps = true := by rfl) : aK f args en H F out cH :=
 ⟨λh0=>aew hN a' hb jl ha (h h0)⟩
end
section
variable {α β dJ gT:Type} {p:Prop}
def dh{q:Prop}(a:p)(k:p→q):q:=k a
def sc{UX:Type}{X:Option UX}(c:α ⊕ β→UX){x:α ⊕ β}{f:α→Option dJ}{g:β→Option dJ}{r:dJ}(q:X=some (c x))(h:hS.on x f g=some r)(cS:∀a,X=some (c (.inl a))→f a=some r→p)(al:∀b,X=some (c (.inr b))→g b=some r→p):p:=
 match x,q,h with
 |.inl a,q,h=>cS a q h
 |.inr b,q,h=>al b q h
def h7{r:α}(h:none=some r):p:=by cases h
def az{b:Bool}{x:Option α}{r:α}(h:av b x=some r)(k:b=true→x=some r→p):p:=k (qY h).1 (qY h).2
def aj{x:Option α}{f:α→Option β}{r:β}(h:Option.bind x f=some r)(k:∀a,x=some a→f a=some r→p):p:=let ⟨a,Z,af⟩:=bind_some h;k a Z af
def dW{x:Option (aV α β)}{f:α→β→Option dJ}{g:V→β→Option dJ}{r:dJ}(h:Option.bind x (λz=>aV.on z f g)=some r)(cS:∀a b,x=some (.ret a b)→f a b=some r→p)(al:∀y b,x=some (.bl y b)→g y b=some r→p):p:=
 let ⟨z,Z,af⟩:=bind_some h
 match z,Z,af with
 |.ret a b,Z,af=>cS a b Z af
 |.bl y b,Z,af=>al y b Z af
end
section
variable {ρ:Type} {r:ρ} {N E:Nat} {st:aJ} {Q:cv→aJ→Prop} {x y:Code}
def cw{cu:aJ}{f:Option ρ}(h:f=some r)(ak:gJ (cu) st=some (cu):=by kernel_rfl):gJ (cu) st=some (cu)∧f=some r:=⟨ak,h⟩
def cF(cu:aJ)(f:Option ρ)(Z:bf Tryz.prog N E x (cv.then (λbZ=>gJ (cu) bZ=some (cu)∧f=some r) Q) st)(af:f=some r→bf Tryz.prog N E y Q (cu))(cI:Nat.ble E (cu).a8=true:=by intros;kernel_rfl):bf Tryz.prog N E (.seq x y) Q st:=
 bf.cut _ Z λbZ ⟨ak,h⟩=>bf.p4 _ _ _ _ ak (cI) (af h)
end
section
variable {α:Type} {ρ:Type} {r:ρ} {N E:Nat} {st:aJ} {Q:cv→aJ→Prop} {x y:Code}
def a6{cu:α→aJ}{f:α→Option ρ}{a0:_}(h:f a0=some r)(ak:gJ (cu a0) st=some (cu a0):=by kernel_rfl):∃a0,gJ (cu a0) st=some (cu a0)∧f a0=some r:=⟨a0,ak,h⟩
def c_(cu:α→aJ)(f:α→Option ρ)(Z:bf Tryz.prog N E x (cv.then (λbZ=>∃a0,gJ (cu a0) bZ=some (cu a0)∧f a0=some r) Q) st)(af:∀a0,f a0=some r→bf Tryz.prog N E y Q (cu a0))(cI:∀a0,Nat.ble E (cu a0).a8=true:=by intros;kernel_rfl):bf Tryz.prog N E (.seq x y) Q st:=
 bf.cut _ Z λbZ ⟨a0,ak,h⟩=>bf.p4 _ _ _ _ ak (cI a0) (af a0 h)
def du(cu:α→aJ)(F:Nat→α→Option ρ)(B:(α→Option ρ)→α→Option ρ){n:Nat}{a0:_}(h:F n a0=some r)(body:∀k a0,B k a0=some r→bf Tryz.prog N E x (cv.then (λbZ=>∃a0,gJ (cu a0) bZ=some (cu a0)∧k a0=some r) Q) (cu a0))(hi:gJ (cu a0) st=some (cu a0):=by kernel_rfl)(cI:∀a0,Nat.ble E (cu a0).a8=true:=by intros;kernel_rfl)(h0:∀a0,F 0 a0=none:=by intros;rfl)(hs:∀m a0,F (m+1) a0=B (F m) a0:=by intros;rfl):bf Tryz.prog N E (.loop x) Q st:=by
 refine bf.loop (σ:=α) (λm (s:α) st=>gJ (cu s) st=some (cu s)∧F m s=some r) ?_ (n:=n) (s:=a0) ⟨hi,h⟩
 rintro m a0 bZ ⟨ak,h⟩
 cases m with
 |zero=>have af:=(h0 a0).symm.trans h;cases af
 |succ m=>
  refine⟨m,rfl,bf.p4 _ _ _ _ ak (cI a0) ((body (F m) a0 ((hs m a0).symm.trans h)).mono ?_)⟩
  intro fg D_ aE;cases fg with
  |normal=>obtain⟨a0,g1,g2⟩:=aE;exact⟨a0,g1,g2⟩
  |exit i=>exact aE
  |ret=>exact aE
  |bl x=>exact aE
end
section
variable {α β:Type} {ρ:Type} {r:ρ} {N E:Nat} {st:aJ} {Q:cv→aJ→Prop} {x y:Code}
def dq{cu:α→β→aJ}{f:α→β→Option ρ}{a0 a7:_}(h:f a0 a7=some r)(ak:gJ (cu a0 a7) st=some (cu a0 a7):=by kernel_rfl):∃a0 a7,gJ (cu a0 a7) st=some (cu a0 a7)∧f a0 a7=some r:=⟨a0,a7,ak,h⟩
def mb(cu:α→β→aJ)(f:α→β→Option ρ)(Z:bf Tryz.prog N E x (cv.then (λbZ=>∃a0 a7,gJ (cu a0 a7) bZ=some (cu a0 a7)∧f a0 a7=some r) Q) st)(af:∀a0 a7,f a0 a7=some r→bf Tryz.prog N E y Q (cu a0 a7))(cI:∀a0 a7,Nat.ble E (cu a0 a7).a8=true:=by intros;kernel_rfl):bf Tryz.prog N E (.seq x y) Q st:=
 bf.cut _ Z λbZ ⟨a0,a7,ak,h⟩=>bf.p4 _ _ _ _ ak (cI a0 a7) (af a0 a7 h)
def eU(cu:α→β→aJ)(F:Nat→α→β→Option ρ)(B:(α→β→Option ρ)→α→β→Option ρ){n:Nat}{a0 a7:_}(h:F n a0 a7=some r)(body:∀k a0 a7,B k a0 a7=some r→bf Tryz.prog N E x (cv.then (λbZ=>∃a0 a7,gJ (cu a0 a7) bZ=some (cu a0 a7)∧k a0 a7=some r) Q) (cu a0 a7))(hi:gJ (cu a0 a7) st=some (cu a0 a7):=by kernel_rfl)(cI:∀a0 a7,Nat.ble E (cu a0 a7).a8=true:=by intros;kernel_rfl)(h0:∀a0 a7,F 0 a0 a7=none:=by intros;rfl)(hs:∀m a0 a7,F (m+1) a0 a7=B (F m) a0 a7:=by intros;rfl):bf Tryz.prog N E (.loop x) Q st:=by
 refine bf.loop (σ:=α×β) (λm (s:α×β) st=>gJ (cu s.1 s.2) st=some (cu s.1 s.2)∧F m s.1 s.2=some r) ?_ (n:=n) (s:=(a0,a7)) ⟨hi,h⟩
 rintro m ⟨a0,a7⟩ bZ ⟨ak,h⟩
 cases m with
 |zero=>have af:=(h0 a0 a7).symm.trans h;cases af
 |succ m=>
  refine⟨m,rfl,bf.p4 _ _ _ _ ak (cI a0 a7) ((body (F m) a0 a7 ((hs m a0 a7).symm.trans h)).mono ?_)⟩
  intro fg D_ aE;cases fg with
  |normal=>obtain⟨a0,a7,g1,g2⟩:=aE;exact⟨(a0,a7),g1,g2⟩
  |exit i=>exact aE
  |ret=>exact aE
  |bl x=>exact aE
end
section
variable {α β dJ:Type} {ρ:Type} {r:ρ} {N E:Nat} {st:aJ} {Q:cv→aJ→Prop} {x y:Code}
def hV{cu:α→β→dJ→aJ}{f:α→β→dJ→Option ρ}{a0 a7 a2:_}(h:f a0 a7 a2=some r)(ak:gJ (cu a0 a7 a2) st=some (cu a0 a7 a2):=by kernel_rfl):∃a0 a7 a2,gJ (cu a0 a7 a2) st=some (cu a0 a7 a2)∧f a0 a7 a2=some r:=⟨a0,a7,a2,ak,h⟩
def p6(cu:α→β→dJ→aJ)(f:α→β→dJ→Option ρ)(Z:bf Tryz.prog N E x (cv.then (λbZ=>∃a0 a7 a2,gJ (cu a0 a7 a2) bZ=some (cu a0 a7 a2)∧f a0 a7 a2=some r) Q) st)(af:∀a0 a7 a2,f a0 a7 a2=some r→bf Tryz.prog N E y Q (cu a0 a7 a2))(cI:∀a0 a7 a2,Nat.ble E (cu a0 a7 a2).a8=true:=by intros;kernel_rfl):bf Tryz.prog N E (.seq x y) Q st:=
 bf.cut _ Z λbZ ⟨a0,a7,a2,ak,h⟩=>bf.p4 _ _ _ _ ak (cI a0 a7 a2) (af a0 a7 a2 h)
def wz(cu:α→β→dJ→aJ)(F:Nat→α→β→dJ→Option ρ)(B:(α→β→dJ→Option ρ)→α→β→dJ→Option ρ){n:Nat}{a0 a7 a2:_}(h:F n a0 a7 a2=some r)(body:∀k a0 a7 a2,B k a0 a7 a2=some r→bf Tryz.prog N E x (cv.then (λbZ=>∃a0 a7 a2,gJ (cu a0 a7 a2) bZ=some (cu a0 a7 a2)∧k a0 a7 a2=some r) Q) (cu a0 a7 a2))(hi:gJ (cu a0 a7 a2) st=some (cu a0 a7 a2):=by kernel_rfl)(cI:∀a0 a7 a2,Nat.ble E (cu a0 a7 a2).a8=true:=by intros;kernel_rfl)(h0:∀a0 a7 a2,F 0 a0 a7 a2=none:=by intros;rfl)(hs:∀m a0 a7 a2,F (m+1) a0 a7 a2=B (F m) a0 a7 a2:=by intros;rfl):bf Tryz.prog N E (.loop x) Q st:=by
 refine bf.loop (σ:=α×β×dJ) (λm (s:α×β×dJ) st=>gJ (cu s.1 s.2.1 s.2.2) st=some (cu s.1 s.2.1 s.2.2)∧F m s.1 s.2.1 s.2.2=some r) ?_ (n:=n) (s:=(a0,a7,a2)) ⟨hi,h⟩
 rintro m ⟨a0,a7,a2⟩ bZ ⟨ak,h⟩
 cases m with
 |zero=>have af:=(h0 a0 a7 a2).symm.trans h;cases af
 |succ m=>
  refine⟨m,rfl,bf.p4 _ _ _ _ ak (cI a0 a7 a2) ((body (F m) a0 a7 a2 ((hs m a0 a7 a2).symm.trans h)).mono ?_)⟩
  intro fg D_ aE;cases fg with
  |normal=>obtain⟨a0,a7,a2,g1,g2⟩:=aE;exact⟨(a0,a7,a2),g1,g2⟩
  |exit i=>exact aE
  |ret=>exact aE
  |bl x=>exact aE
end
section
variable {α β dJ gT:Type} {ρ:Type} {r:ρ} {N E:Nat} {st:aJ} {Q:cv→aJ→Prop} {x y:Code}
def oZ{cu:α→β→dJ→gT→aJ}{f:α→β→dJ→gT→Option ρ}{a0 a7 a2 a3:_}(h:f a0 a7 a2 a3=some r)(ak:gJ (cu a0 a7 a2 a3) st=some (cu a0 a7 a2 a3):=by kernel_rfl):∃a0 a7 a2 a3,gJ (cu a0 a7 a2 a3) st=some (cu a0 a7 a2 a3)∧f a0 a7 a2 a3=some r:=⟨a0,a7,a2,a3,ak,h⟩
def afV(cu:α→β→dJ→gT→aJ)(f:α→β→dJ→gT→Option ρ)(Z:bf Tryz.prog N E x (cv.then (λbZ=>∃a0 a7 a2 a3,gJ (cu a0 a7 a2 a3) bZ=some (cu a0 a7 a2 a3)∧f a0 a7 a2 a3=some r) Q) st)(af:∀a0 a7 a2 a3,f a0 a7 a2 a3=some r→bf Tryz.prog N E y Q (cu a0 a7 a2 a3))(cI:∀a0 a7 a2 a3,Nat.ble E (cu a0 a7 a2 a3).a8=true:=by intros;kernel_rfl):bf Tryz.prog N E (.seq x y) Q st:=
 bf.cut _ Z λbZ ⟨a0,a7,a2,a3,ak,h⟩=>bf.p4 _ _ _ _ ak (cI a0 a7 a2 a3) (af a0 a7 a2 a3 h)
def q4(cu:α→β→dJ→gT→aJ)(F:Nat→α→β→dJ→gT→Option ρ)(B:(α→β→dJ→gT→Option ρ)→α→β→dJ→gT→Option ρ){n:Nat}{a0 a7 a2 a3:_}(h:F n a0 a7 a2 a3=some r)(body:∀k a0 a7 a2 a3,B k a0 a7 a2 a3=some r→bf Tryz.prog N E x (cv.then (λbZ=>∃a0 a7 a2 a3,gJ (cu a0 a7 a2 a3) bZ=some (cu a0 a7 a2 a3)∧k a0 a7 a2 a3=some r) Q) (cu a0 a7 a2 a3))(hi:gJ (cu a0 a7 a2 a3) st=some (cu a0 a7 a2 a3):=by kernel_rfl)(cI:∀a0 a7 a2 a3,Nat.ble E (cu a0 a7 a2 a3).a8=true:=by intros;kernel_rfl)(h0:∀a0 a7 a2 a3,F 0 a0 a7 a2 a3=none:=by intros;rfl)(hs:∀m a0 a7 a2 a3,F (m+1) a0 a7 a2 a3=B (F m) a0 a7 a2 a3:=by intros;rfl):bf Tryz.prog N E (.loop x) Q st:=by
 refine bf.loop (σ:=α×β×dJ×gT) (λm (s:α×β×dJ×gT) st=>gJ (cu s.1 s.2.1 s.2.2.1 s.2.2.2) st=some (cu s.1 s.2.1 s.2.2.1 s.2.2.2)∧F m s.1 s.2.1 s.2.2.1 s.2.2.2=some r) ?_ (n:=n) (s:=(a0,a7,a2,a3)) ⟨hi,h⟩
 rintro m ⟨a0,a7,a2,a3⟩ bZ ⟨ak,h⟩
 cases m with
 |zero=>have af:=(h0 a0 a7 a2 a3).symm.trans h;cases af
 |succ m=>
  refine⟨m,rfl,bf.p4 _ _ _ _ ak (cI a0 a7 a2 a3) ((body (F m) a0 a7 a2 a3 ((hs m a0 a7 a2 a3).symm.trans h)).mono ?_)⟩
  intro fg D_ aE;cases fg with
  |normal=>obtain⟨a0,a7,a2,a3,g1,g2⟩:=aE;exact⟨(a0,a7,a2,a3),g1,g2⟩
  |exit i=>exact aE
  |ret=>exact aE
  |bl x=>exact aE
end
section
variable {α β dJ gT q5:Type} {ρ:Type} {r:ρ} {N E:Nat} {st:aJ} {Q:cv→aJ→Prop} {x y:Code}
def afW{cu:α→β→dJ→gT→q5→aJ}{f:α→β→dJ→gT→q5→Option ρ}{a0 a7 a2 a3 a4:_}(h:f a0 a7 a2 a3 a4=some r)(ak:gJ (cu a0 a7 a2 a3 a4) st=some (cu a0 a7 a2 a3 a4):=by kernel_rfl):∃a0 a7 a2 a3 a4,gJ (cu a0 a7 a2 a3 a4) st=some (cu a0 a7 a2 a3 a4)∧f a0 a7 a2 a3 a4=some r:=⟨a0,a7,a2,a3,a4,ak,h⟩
def afX(cu:α→β→dJ→gT→q5→aJ)(F:Nat→α→β→dJ→gT→q5→Option ρ)(B:(α→β→dJ→gT→q5→Option ρ)→α→β→dJ→gT→q5→Option ρ){n:Nat}{a0 a7 a2 a3 a4:_}(h:F n a0 a7 a2 a3 a4=some r)(body:∀k a0 a7 a2 a3 a4,B k a0 a7 a2 a3 a4=some r→bf Tryz.prog N E x (cv.then (λbZ=>∃a0 a7 a2 a3 a4,gJ (cu a0 a7 a2 a3 a4) bZ=some (cu a0 a7 a2 a3 a4)∧k a0 a7 a2 a3 a4=some r) Q) (cu a0 a7 a2 a3 a4))(hi:gJ (cu a0 a7 a2 a3 a4) st=some (cu a0 a7 a2 a3 a4):=by kernel_rfl)(cI:∀a0 a7 a2 a3 a4,Nat.ble E (cu a0 a7 a2 a3 a4).a8=true:=by intros;kernel_rfl)(h0:∀a0 a7 a2 a3 a4,F 0 a0 a7 a2 a3 a4=none:=by intros;rfl)(hs:∀m a0 a7 a2 a3 a4,F (m+1) a0 a7 a2 a3 a4=B (F m) a0 a7 a2 a3 a4:=by intros;rfl):bf Tryz.prog N E (.loop x) Q st:=by
 refine bf.loop (σ:=α×β×dJ×gT×q5) (λm (s:α×β×dJ×gT×q5) st=>gJ (cu s.1 s.2.1 s.2.2.1 s.2.2.2.1 s.2.2.2.2) st=some (cu s.1 s.2.1 s.2.2.1 s.2.2.2.1 s.2.2.2.2)∧F m s.1 s.2.1 s.2.2.1 s.2.2.2.1 s.2.2.2.2=some r) ?_ (n:=n) (s:=(a0,a7,a2,a3,a4)) ⟨hi,h⟩
 rintro m ⟨a0,a7,a2,a3,a4⟩ bZ ⟨ak,h⟩
 cases m with
 |zero=>have af:=(h0 a0 a7 a2 a3 a4).symm.trans h;cases af
 |succ m=>
  refine⟨m,rfl,bf.p4 _ _ _ _ ak (cI a0 a7 a2 a3 a4) ((body (F m) a0 a7 a2 a3 a4 ((hs m a0 a7 a2 a3 a4).symm.trans h)).mono ?_)⟩
  intro fg D_ aE;cases fg with
  |normal=>obtain⟨a0,a7,a2,a3,a4,g1,g2⟩:=aE;exact⟨(a0,a7,a2,a3,a4),g1,g2⟩
  |exit i=>exact aE
  |ret=>exact aE
  |bl x=>exact aE
end
section
variable {α β dJ gT q5 ao7:Type} {ρ:Type} {r:ρ} {N E:Nat} {st:aJ} {Q:cv→aJ→Prop} {x y:Code}
end
section
variable {afY afZ af0 af1 af2 af3 af4 af5 af6 af7 af8 af9 af' af_ aga agb:Type} {ρ:Type} {r:ρ} {N E:Nat} {st:aJ} {Q:cv→aJ→Prop} {x y:Code}
end
section
variable {afY afZ af0 af1 af2 af3 af4 af5 af6 af7 af8 af9 af' af_ aga agb ao8:Type} {ρ:Type} {r:ρ} {N E:Nat} {st:aJ} {Q:cv→aJ→Prop} {x y:Code}
end
end Go.Ab.Y.T
namespace Go.Ab.Y
open Go Go.Ab Go.Proofs
def Ea(n:Nat)(s:ap0):Option ap0:=av (decide (s.length≤281474976710656))<|some s
def KL(n:Nat)(s:ap0)(c:Int):Option Int:=some (Lib.indexByte s c.toNat.toUInt8)
def wA(n:Nat)(s:ap0):Option Int:=av (decide (s.length≤140737488351232))<|some (l_ s)
def UY(s:ap0):Int ⊕ Int:=
 match Lib.parseIntB 64 s with
 |.ok v=>.inl v
 |.range=>.inr (Lib.intSat 64 s)
 |_=>.inr 0
def KM(n:Nat)(s:ap0)(base:Int)(Eb:Int):Option (Int ⊕ Int):=
 av (decide (base=10∧Eb=64∧s.length≤281474976710656))<|some (UY s)
def Ec(n:Nat)(i:Int)(base:Int):Option ap0:=av (decide (base=10 ∧ -9223372036854775808≤i∧i≤9223372036854775807))<|some (Lib.itoa i)
def Ed(n:Nat)(elems:List ap0)(sep:ap0):Option ap0:=av (decide (elems.length≤140737488355328∧(Lib.join elems sep).length≤140737488355328))<|some (Lib.join elems sep)
open Go Go.Ab Go.Proofs
def agc{n:Nat}{s:ap0}{r:ap0}(h:Ea n s=some r):gl Tryz.prog 369 [.v (.str s)] [] [] (.ret (.v (.str r)) none) []:=by
 unfold Ea at h;obtain⟨g,h⟩:=qY h;obtain rfl:=Option.some.inj h;refine tX (fd:=Tryz.f369) Tryz.func369 rfl rfl (vsOf:=λvs=>vs=[.string ⟨⟨s⟩⟩]) (λM β vs ag ak=>?_) (λvs w ay hg=>?_)
 ·match vs,ag with
  |[v],_=>
   have:=l3 (ak 0 v _ rfl rfl)
   rw [this]
 ·subst ay;refine(Tryz.stringslite_Clone ⟨⟨s⟩⟩ w (show s.length≤281474976710656 from of_decide_eq_true g)).mono ?_
  rintro e w' ⟨rfl,hb⟩
  refine⟨_,rfl,λM β=>.v _ _ (.str _),λb bb h=>?_,by rw [hb.os,hb.output]⟩
  rw [hb.block b (Array.getElem?_eq_some_iff.1 h).1];exact h
def agd{n:Nat}{s:ap0}{c:Int}{r:Int}(h:KL n s c=some r):gl Tryz.prog 395 [.v (.str s),.v (.int .u8 c)] [] [] (.ret (.v (.int .i64 r)) none) []:=by
 unfold KL at h;obtain rfl:=Option.some.inj h;refine tX (fd:=Tryz.f395) Tryz.func395 rfl rfl (vsOf:=λvs=>vs=[.string ⟨⟨s⟩⟩,.int .u8 c]) (λM β vs ag ak=>?_) (λvs w ay hg=>?_)
 ·match vs,ag with
  |[v,u],_=>
   have Z:=l3 (ak 0 v _ rfl rfl);have af:=lz (ak 1 u _ rfl rfl);rw [Z,af]
 ·subst ay;refine(Tryz.stringslite_IndexByte ⟨⟨s⟩⟩ c w).mono ?_
  rintro e w' ⟨rfl,rfl⟩
  exact⟨_,rfl,λM β=>.v _ _ (.int _ _),λb bb h=>h,rfl⟩
def UZ{n:Nat}{s:ap0}{r:Int}(h:wA n s=some r):gl Tryz.prog 244 [.v (.str s)] [] [] (.ret (.v (.int .i64 r)) none) []:=by
 unfold wA at h;obtain⟨g,h⟩:=qY h;obtain rfl:=Option.some.inj h;refine tX (fd:=Tryz.f244) Tryz.func244 rfl rfl (vsOf:=λvs=>vs=[.string ⟨⟨s⟩⟩]) (λM β vs ag ak=>?_) (λvs w ay hg=>?_)
 ·match vs,ag with
  |[v],_=>
   have:=l3 (ak 0 v _ rfl rfl)
   rw [this]
 ·subst ay;refine(afD ⟨⟨s⟩⟩ w (show s.length≤140737488351232 from of_decide_eq_true g)).mono ?_
  rintro e w' ⟨rfl,pos,rfl⟩
  refine⟨_,rfl,λM β=>.v _ _ (.int _ _),λb bb h=>?_,rfl⟩
  rw [World.iter,Go.RowKit.Below.heap_alloc w _ b (Array.getElem?_eq_some_iff.1 h).1];exact h
def age(w:World)(e:TypeId)(t:ByteArray):((Lib.bytesWorld w e t).os,(Lib.bytesWorld w e t).output)=(w.os,w.output):=by
 rw [(Lib.bytesWorld_below w e t).os,(Lib.bytesWorld_below w e t).output]
def KN:IE Tryz.prog=[4,5]:=by kernel_rfl
def U0{n:Nat}{s:ap0}{base:Int}{Eb:Int}{r:(Int ⊕ Int)}(h:KM n s base Eb=some r):gl Tryz.prog 394 [.v (.str s),.v (.int .i64 base),.v (.int .i64 Eb)] [] [] (hS.on r (λU1=>.ret (.cp [.v (.int .i64 U1),.v (.h1)]) none) (λU2=>.ret (.cp [.v (.int .i64 U2),.v ((.iface 436 .any))]) none)) []:=by
 unfold KM at h;obtain⟨g,h⟩:=qY h;obtain rfl:=Option.some.inj h;obtain⟨rfl,rfl,ag⟩:=of_decide_eq_true g
 have eZ:∀(M:Mem) (β:Nat→Option Nat) (vs:List Value),vs.length=3→(∀(i:Nat) v a,vs[i]? = some v→[D.v (.str s),.v (.int .i64 10),.v (.int .i64 64)][i]? = some a→cz M β v a)→vs=[.string ⟨⟨s⟩⟩,.int .i64 10,.int .i64 64]:=by
  intro M β vs ag ak
  match vs,ag with
  |[v,u,t],_=>
   have Z:=l3 (ak 0 v _ rfl rfl);have af:=lz (ak 1 u _ rfl rfl);have au:=lz (ak 2 t _ rfl rfl);rw [Z,af,au]
 unfold UY;rcases hp:Lib.parseIntB 64 s with v|_|_
 ·
   refine tX (fd:=Tryz.f394) Tryz.func394 rfl rfl (vsOf:=λvs=>vs=[.string ⟨⟨s⟩⟩,.int .i64 10,.int .i64 64]) (λM β vs ag ak=>eZ M β vs ag ak) (λvs w ay hg=>?_)
   subst ay;refine(Tryz.strconv_ParseInt_10_at64_ok ⟨⟨s⟩⟩ (show s.length≤9223372036854775806 by omega) v hp w).mono ?_
   rintro e w' ⟨rfl,hw⟩
   refine⟨_,rfl,λM β=>.cp [_,_] _ rfl λi v c hi hc=>?_,λb bb h=>?_,by rcases hw with rfl|⟨t,rfl⟩;rfl;exact age _ _ _⟩
   ·match i with
    | 0=>cases hi;cases hc;exact .v _ _ (.int _ _)
    | 1=>cases hi;cases hc;exact .v _ _ .h1
    |i+2=>simp at hi
   ·rcases hw with rfl|⟨t,rfl⟩
    ·exact h
    ·rw [Lib.bytesWorld_at_old _ _ _ _ (Array.getElem?_eq_some_iff.1 h).1];exact h
 ·
   refine tX (fd:=Tryz.f394) Tryz.func394 rfl rfl (vsOf:=λvs=>vs=[.string ⟨⟨s⟩⟩,.int .i64 10,.int .i64 64]) (λM β vs ag ak=>eZ M β vs ag ak) (λvs w ay hg=>?_)
   subst ay;obtain⟨fF,Z,af⟩:=hg.1 4 (by rw [KN];simp)
   refine(Tryz.strconv_ParseInt_10_at64_syntax ⟨⟨s⟩⟩ ag (by constructor;intro v;rw [show Lib.parseIntB 64 (⟨⟨s⟩⟩:ByteArray).data.toList=_ from hp];intro e;cases e;rw [show Lib.parseIntB 64 (⟨⟨s⟩⟩:ByteArray).data.toList=_ from hp];intro e;cases e) fF w Z af).mono ?_
   rintro e w' ⟨N,rfl,bB,hQ,hb⟩
   refine⟨_,rfl,λM β=>.cp [_,_] _ rfl λi v c hi hc=>?_,λb bb h=>?_,by rw [hb.os,hb.output]⟩
   ·match i with
    | 0=>cases hi;cases hc;exact .v _ _ (.int _ _)
    | 1=>cases hi;cases hc;exact .v _ _ (.iface _ _ _ (.any _ rfl))
    |i+2=>simp at hi
   ·rw [hb.block b (Array.getElem?_eq_some_iff.1 h).1];exact h
 ·
   refine tX (fd:=Tryz.f394) Tryz.func394 rfl rfl (vsOf:=λvs=>vs=[.string ⟨⟨s⟩⟩,.int .i64 10,.int .i64 64]) (λM β vs ag ak=>eZ M β vs ag ak) (λvs w ay hg=>?_)
   subst ay;obtain⟨fF,Z,af⟩:=hg.1 5 (by rw [KN];simp)
   refine(Tryz.strconv_ParseInt_10_at64_range ⟨⟨s⟩⟩ ag hp fF w Z af).mono ?_
   rintro e w' ⟨N,rfl,bB,hQ,hb⟩
   refine⟨_,rfl,λM β=>.cp [_,_] _ rfl λi v c hi hc=>?_,λb bb h=>?_,by rw [hb.os,hb.output]⟩
   ·match i with
    | 0=>cases hi;cases hc;exact .v _ _ (.int _ _)
    | 1=>cases hi;cases hc;exact .v _ _ (.iface _ _ _ (.any _ rfl))
    |i+2=>simp at hi
   ·rw [hb.block b (Array.getElem?_eq_some_iff.1 h).1];exact h
def Ee : Tryz.prog.globalNamed "internal/strconv.uint64pow10" = some 1 := by kernel_rfl
def U3:(Lib.pow10Tab.map λz=>Value.int .u64 z).toArray=IF:=by kernel_rfl
def agf {w : World} (h : DO Tryz.prog w) : Lib.TabIs Tryz.prog w "internal/strconv.uint64pow10" .u64 Lib.pow10Tab := by
 obtain⟨t,kq,Z⟩:=h.2 1 Ee;unfold Lib.TabIs World.var?;rw [Ee,Option.bind_some,Z,U3]
def agh{n:Nat}{i:Int}{base:Int}{r:ap0}(h:Ec n i base=some r):gl Tryz.prog 365 [.v (.int .i64 i),.v (.int .i64 base)] [] [] (.ret (.v (.str r)) none) []:=by
 unfold Ec at h;obtain⟨g,h⟩:=qY h;obtain rfl:=Option.some.inj h;obtain⟨rfl,h0,Z⟩:=of_decide_eq_true g;refine tX (fd:=Tryz.f365) Tryz.func365 rfl rfl (vsOf:=λvs=>vs=[.int .i64 i,.int .i64 10]) (λM β vs ag ak=>?_) (λvs w ay hg=>?_)
 ·match vs,ag with
  |[v,u],_=>
   have g1:=lz (ak 0 v _ rfl rfl);have g2:=lz (ak 1 u _ rfl rfl);rw [g1,g2]
 ·subst ay;refine(Tryz.strconv_FormatInt_10 i h0 Z w (agf hg)).mono ?_
  rintro e w' ⟨rfl,k,os,rfl⟩
  exact⟨_,rfl,λM β=>.v _ _ (.str _),λb bb h=>(Lib.heap_grow_old w k os b (Array.getElem?_eq_some_iff.1 h).1).trans h,rfl⟩
def U4{b:List Int}(g:(lH b&&decide (b.length≤9223372036854775807))=true):b.length=(hL b).length∧∀i,i<(hL b).length→(λi=>cK (b.getD i default)) i = .int .u8 (((hL b).getD i 0).toNat:Int):=by
 simp only [Bool.and_eq_true]at g;obtain⟨Z,af⟩:=t' g.1;exact⟨Z.symm,λi hi=>af i (by omega)⟩
def U5{b:List Int}(g:(lH b&&decide (b.length≤9223372036854775807))=true):(hL b).length≤9223372036854775807:=by
 simp only [Bool.and_eq_true,decide_eq_true_eq]at g;rw [(t' g.1).1];exact g.2
def KO:Go.Proofs.Builder.Extra Tryz.prog Tryz.UD where
 sizeBuilder:=by kernel_rfl
 liesBuilder:=by kernel_rfl
 t5:=Tryz.underlying5
 a5:=Tryz.isAgg5
 z5:=Tryz.sizeOf5
 v5:=Tryz.zeroValue5
 infoByte:=by kernel_rfl
 cellsByte:=by kernel_rfl
 sizeByte:=by kernel_rfl
 neB5:=by decide
def U6{n:Nat}{elems:List ap0}{sep:ap0}{r:ap0}(h:Ed n elems sep=some r):gl Tryz.prog 196 [.v (ae 1 be elems),.v (.str sep)] [] [] (.ret (.v (.str r)) none) []:=by
 unfold Ed at h;obtain⟨g,h⟩:=qY h;obtain rfl:=Option.some.inj h;obtain⟨bB,mC⟩:=of_decide_eq_true g
 have U7:(elems.map λs=>(⟨⟨s⟩⟩:ByteArray)).map (·.data.toList)=elems:=by
  rw [List.map_map];conv=>rhs;rw [←List.map_id elems]
  rfl
 refine T7 (fd:=Tryz.f196) Tryz.func196 rfl rfl (vsOf:=λw vs=>(∃a,vs=[.slice a 0 0,.string ⟨⟨sep⟩⟩]∧elems=[])∨∃wB o c,vs=[.slice (some ⟨wB,o,none⟩) elems.length c,.string ⟨⟨sep⟩⟩]∧elems.length≤c∧∀(j:Nat) x,elems[j]? = some x→w.cell? ⟨wB,o+j,none⟩=some (.string ⟨⟨x⟩⟩)) (λw M β vs hm ag ak=>?_) (λvs w ay hg=>?_)
 ·match vs,ag with
  |[v,u],_=>
   have g2:=l3 (ak 1 u _ rfl rfl);have g1:=ak 0 v _ rfl rfl;rw [g2];rcases rN (k:=1) (n:=elems.length) (get:=λi=>be (elems.getD i default)) g1 with⟨Z,af⟩|⟨b,off,cap,val,Z,hc,hk,c7,gi,fM⟩
   ·rcases Z with Z|⟨a,Z⟩
    ·exact .inl ⟨none,by rw [Z],List.eq_nil_of_length_eq_zero af⟩
    ·exact .inl ⟨some a,by rw [Z],List.eq_nil_of_length_eq_zero af⟩
   ·refine .inr ⟨b,off,cap,by rw [Z],hc,λj x hx=>?_⟩
    have hj:j<elems.length:=(List.getElem?_eq_some_iff.1 hx).1;have e1:=hm _ _ _ (c7 j 0 hj (by omega))
    have e2:=fM j 0 (.str x) hj (by
     have:elems.getD j default=x:=by simp [List.getD,hx]
     rw [this];rfl)
    rw [show off+j*1+0=off+j by omega]at e1
    rw [e1];generalize val j 0=y at e2 ⊢
    cases e2;rfl
 ·rcases ay with⟨a,rfl,rfl⟩|⟨wB,o,c,rfl,hc,oI⟩
  ·refine(Any.strings_Join_none Tryz.KD KO a 0 ⟨⟨sep⟩⟩ w).mono ?_
   rintro e w' ⟨rfl,rfl⟩
   exact⟨_,rfl,λM β=>.v _ _ (.str _),λb bb h=>h,rfl⟩
  ·cases elems with
   |nil=>
    refine(Any.strings_Join_none Tryz.KD KO (some ⟨wB,o,none⟩) c ⟨⟨sep⟩⟩ w).mono ?_
    rintro e w' ⟨rfl,rfl⟩
    exact⟨_,rfl,λM β=>.v _ _ (.str _),λb bb h=>h,rfl⟩
   |cons fq agi=>
    have agj:wB<w.heap.size:=lt_of_cell (oI 0 fq rfl)
    have hj:=Any.strings_Join Tryz.KD KO wB o c ((fq::agi).map λs=>(⟨⟨s⟩⟩:ByteArray)) ⟨⟨sep⟩⟩ w (λj x hx=>by
     rw [List.getElem?_map,Option.map_eq_some_iff]at hx;obtain⟨y,cc,rfl⟩:=hx;exact oI j y cc) agj (by simpa using bB) (by simpa using hc) (by rw [U7];exact mC)
    rw [List.length_map]at hj;refine hj.mono ?_
    rintro e w' ⟨rfl,hb⟩
    refine⟨_,rfl,λM β=>?_,λb bb h=>?_,by rw [hb.os,hb.output]⟩
    ·rw [U7];exact .v _ _ (.str _)
    ·rw [hb.block b (Array.getElem?_eq_some_iff.1 h).1];exact h
end Go.Ab.Y
namespace Go.Ab.Y
open Go Go.Ab Go.Proofs T
abbrev ap7{ρ:Type}(i:FuncId)(a:List D)(F:Option ρ)(o:ρ→Out):Prop:=aK i a [] [] F o λ_=>[]
abbrev ap8(i:FuncId)(a:List D)(F:Option Bool):Prop:=ap7 i a F λr=>aL (bW r)
abbrev ap9(i:FuncId)(a:List D)(F:Option Int):Prop:=ap7 i a F λr=>aL (bk r)
end Go.Ab.Y

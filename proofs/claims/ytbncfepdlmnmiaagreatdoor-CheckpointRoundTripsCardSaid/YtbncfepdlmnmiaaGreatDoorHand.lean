/- The types of this claim, and the contracts that were written by hand. -/
import Derived.Test.YtbncfepdlmnmiaaGreatDoorProg
import Derived.WalkKit
import Derived.Lib.Builder
import Derived.Lib.UnsafeStr
import Derived.Laws.Externs
import Derived.Shelf.RegionOpenPlain
import Derived.Lib.Join
import Derived.Lib.Bytealg
import Derived.Lib.ItoaNum
import Derived.Lib.ParseIntBCases
import Derived.Lib.AppendIntMem
import Derived.Lib.AtoiErrMem
import Derived.Test.YtbncfepdlmnmiaaGreatDoorShelf
set_option linter.all false
namespace Go.Ab
abbrev ava(x:Int):Int:=IntKind.i64.wrap x
abbrev avb{α:Type}[Inhabited α](l:List α)(i:Int):α:=l.getD i.toNat default
abbrev avc:=Option Bool
abbrev avd:=Option Int
abbrev V.ave(x:Int):V:=.int .i64 x
end Go.Ab
namespace Go.Ab.Y
open Go Go.Proofs
def im(c:UInt8):Bool:=decide ((97≤c.toNat∧c.toNat≤122)∨(48≤c.toNat∧c.toNat≤57)∨c.toNat=95)
def gI(s:au'):Nat:=(s.takeWhile im).length
def Ov{s:au'}{k:Nat}(hk:k≤s.length)(h:∀(j:Nat) c,j<k→s[j]? = some c→im c=true)(he:∀c,s[k]? = some c→im c=false):gI s=k:=by
 unfold gI;induction s generalizing k with
 |nil=>simp at hk ⊢;omega
 |cons c s aM=>
  cases k with
  |zero=>
   have:=he c rfl
   simp [List.takeWhile,this]
  |succ k=>
   have h0:=h 0 c (by omega) rfl
   simp only [List.takeWhile,h0,List.length_cons];rw [aM (by simpa using hk) (λj c hj hc=>h (j+1) c (by omega) (by simpa using hc)) (λc hc=>he c (by simpa using hc))]
def Ow(s:ByteArray)(k:Nat)(h:k<s.size):s.data.toList[k]? = some (s[k]'h):=by
 have:k<s.data.toList.length:=by simpa using h
 rw [List.getElem?_eq_getElem this];rfl
def Ht(s:ByteArray)(k:Nat):Prop:=∀(j:Nat) c,j<k→s.data.toList[j]? = some c→im c=true
def Ht.succ{s:ByteArray}{k:Nat}(h:Ht s k)(hk:k<s.size)(hc:im (s[k]'hk)=true):Ht s (k+1):=by
 intro j c hj kv;by_cases e:j=k
 ·subst e;rw [Ow s j hk]at kv;cases kv;exact hc
 ·exact h j c (by omega) kv
set_option maxRecDepth 100000 in
def aiG(s:ByteArray)(w:World)(hs:s.size≤140737488351232):
 Calls Tryz.prog 244 #[.string s] w λe w'=>e = .returned (.int .i64 (gI s.data.toList))∧∃pos,w'=w.iter s pos:=by
 go_enter Tryz.func244,Tryz.ntmps244
 go_wp2
 go_loopw [] (λw'=>∃k:Nat,w'=w.iter s k∧k≤s.size∧Ht s k) (λw'=>s.size-w'.iterPos w.heap.size)
 case atStart=>exact⟨0,rfl,by omega,λj c hj=>by omega⟩
 case round=>
  obtain⟨k,rfl,hk,hin⟩:=hrel;by_cases hp:k<s.size
  ·by_cases ha:(s[k]'hp).toNat<128
   ·have hnx:∀ty,(Instr.next (.pointer (some ⟨w.heap.size,0,none⟩)) true ty).run Tryz.prog (w.iter s k)=_:=λty=>run_next_ascii w s k ty hp ha
    cases hw:im (s[k]'hp)
    ·have hlen:=Ov (s:=s.data.toList) (k:=k) (by simpa using hk) hin (λc hc=>by rw [Ow s k hp]at hc;cases hc;exact hw)
     have hc:=of_decide_eq_false hw;clear hw
     go_wp2
     all_goals first
      |(exfalso;simp at *;omega)
      |(go_ret;exact⟨by first |rfl |(rw [hlen];rfl),_,rfl⟩)
    ·have hc:=of_decide_eq_true hw;have hin2:=hin.succ hp hw;clear hw hin
     go_wp2
     all_goals first
      |(exfalso;simp at *;omega)
      |(
       go_roundw
       case rel=>exact⟨k+1,rfl,hp,hin2⟩
       case measure=>simp;omega)
   ·have hnx:∀ty,(Instr.next (.pointer (some ⟨w.heap.size,0,none⟩)) true ty).run Tryz.prog (w.iter s k)=_:=λty=>run_next_any w s k ty hp
    have hd:=(decode_high s k hp (by omega)).1
    have hle:=decode_le s k
    have hlen:=Ov (s:=s.data.toList) (k:=k) (by simpa using hk) hin (λc hc=>by
     rw [Ow s k hp]at hc;cases hc;exact decide_eq_false (by omega))
    generalize Utf8.decode s k=d at hnx hd hle
    go_wp2
    all_goals first
     |(exfalso;simp at *;omega)
     |(go_ret;exact⟨by first |rfl |(rw [hlen];rfl),_,rfl⟩)
  ·have hnx:∀ty,(Instr.next (.pointer (some ⟨w.heap.size,0,none⟩)) true ty).run Tryz.prog (w.iter s k)=_:=λty=>run_next_end w s k ty hp
   have hlen:=Ov (s:=s.data.toList) (k:=k) (by simpa using hk) hin (λc hc=>by
    have:=(List.getElem?_eq_some_iff.1 hc).1
    simp at this;omega)
   obtain rfl:k=s.size:=by omega
   go_wp2
   go_ret
   exact⟨by first|rfl|(rw [hlen];rfl),_,rfl⟩
open Go Go.Proofs Go.RowKit
def XG:(Tryz.prog.info? 106).map (·.size)=some 2:=by kernel_rfl
set_option maxHeartbeats 1000000 in
set_option maxRecDepth 100000 in
def XH(b:Nat)(w:World)(h0:w.cell? ⟨b,0,none⟩=some (.pointer (some ⟨b,0,none⟩))):
 Calls Tryz.prog 104 #[.pointer (some ⟨b,0,none⟩)] w λe w'=>e = .returned (.tuple #[])∧w'=w:=by
 obtain⟨j,hj,_⟩:=Option.map_eq_some_iff.1 XG
 go_enter Tryz.func104,Tryz.ntmps104
 go_wp2
 rw [Lib.run_neq_ptr_same w _ Tryz.underlying103 hj]
 go_wp2
 go_end0
 exact⟨rfl,rfl⟩
set_option maxHeartbeats 1000000 in
set_option maxRecDepth 100000 in
def XI(b:Nat)(w:World)(T:TypeId)(k:Nat)(h0:w.cell? ⟨b,0,none⟩=some (.pointer none))(hsh:w.shape? b=some (T,k))(hk:0<k)(hlies:liesAt Tryz.prog Tryz.prog.depth T (k / Tryz.prog.cellsOf T) 0 106 1=true)(hfz:w.frozen? ⟨b,0,none⟩=false):
 Calls Tryz.prog 104 #[.pointer (some ⟨b,0,none⟩)] w λe w'=>e = .returned (.tuple #[])∧w'=w.setCell ⟨b,0,none⟩ (.pointer (some ⟨b,0,none⟩)):=by
 obtain⟨j,hj,hjs⟩:=Option.map_eq_some_iff.1 XG
 go_enter Tryz.func104,Tryz.ntmps104
 go_wp2
 rw [Lib.run_to_unsafe w ⟨b,0,none⟩ Tryz.underlying103 Tryz.underlying213 hj (by rw [hjs];decide) hsh hk]
 simp only [Result.andThen];rw [Oper.upon_value]
 go_wp2
 rw [run_callFunc_extern Tryz.func158 (by kernel_rfl) (by kernel_rfl) (by kernel_rfl) (e:=Extern.AbiNoEscape.same) (by kernel_rfl)]
 rw [Lib.run_noEscape];simp only [Result.andThen];rw [Oper.upon_value]
 go_wp2
 rw [Lib.run_from_unsafe w ⟨b,0,none⟩ Tryz.underlying213 Tryz.underlying103 hj hsh hlies];simp only [Result.andThen];rw [Oper.upon_value]
 go_wp2
 go_end0
 exact⟨rfl,rfl⟩
def cellsByte:Tryz.prog.cellsOf 5=1:=by kernel_rfl
set_option maxHeartbeats 2000000 in
set_option maxRecDepth 100000 in
def XJ(b:Nat)(w:World)(h:w.cell? ⟨b,1,none⟩=some (.slice none 0 0)):
 Calls Tryz.prog 54 #[.pointer (some ⟨b,0,none⟩)] w λe w'=>e = .returned (.string ⟨#[]⟩)∧w'=w.drew:=by
 have hUS:(Builtin.unsafeString_ #[157,3] 9 #[.pointer none,.int .i64 0]).run Tryz.prog w.drew = .ok (.string .empty) w.drew:=Lib.run_unsafeString_none w.drew _ _ _ none;have c1:w.drew.cell? ⟨b,1,none⟩=some (.slice none 0 0):=h;have hSD:(Builtin.unsafeSliceData_ #[104] 157 #[.slice none 0 0]).run Tryz.prog w.drew = .ok (.pointer none) w.drew:=rfl;have mixed:Tryz.prog.follows .mixedOrders=true:=by kernel_rfl
 go_enter Tryz.func54,Tryz.ntmps54
 go_wp2
 go_region_o
 all_goals (go_wp2;go_ret;exact⟨rfl,rfl⟩)
set_option maxHeartbeats 2000000 in
set_option maxRecDepth 100000 in
def XK(b g cap:Nat)(w:World)(hc0:cap≠0)(h:w.cell? ⟨b,1,none⟩=some (.slice (some ⟨g,0,none⟩) 0 cap)):
 Calls Tryz.prog 54 #[.pointer (some ⟨b,0,none⟩)] w λe w'=>e = .returned (.string ⟨#[]⟩)∧w'=w.drew:=by
 have hUS:(Builtin.unsafeString_ #[157,3] 9 #[.pointer (some ⟨g,0,none⟩),.int .i64 0]).run Tryz.prog w.drew = .ok (.string .empty) w.drew:=Lib.run_unsafeString_none w.drew _ _ _ _;have c1:w.drew.cell? ⟨b,1,none⟩=some (.slice (some ⟨g,0,none⟩) 0 cap):=h;have hSD:(Builtin.unsafeSliceData_ #[104] 157 #[.slice (some ⟨g,0,none⟩) 0 cap]).run Tryz.prog w.drew = .ok (.pointer (some ⟨g,0,none⟩)) w.drew:=Lib.run_unsafeSliceData_row _ _ _ _ _ _ hc0;clear hc0;have mixed:Tryz.prog.follows .mixedOrders=true:=by kernel_rfl
 go_enter Tryz.func54,Tryz.ntmps54
 go_wp2
 go_region_o
 all_goals (go_wp2;go_ret;exact⟨rfl,rfl⟩)
set_option maxHeartbeats 2000000 in
set_option maxRecDepth 100000 in
def XL(b g:Nat)(w:World)(vs:List Value)(h:w.cell? ⟨b,1,none⟩=some (.slice (some ⟨g,0,none⟩) 0 0))(hb:b<w.heap.size)(hg:w.heap[g]? = some (.cells ⟨vs⟩ 5 (0,0))):
 Calls Tryz.prog 54 #[.pointer (some ⟨b,0,none⟩)] w λe w'=>e = .returned (.string ⟨#[]⟩)∧w'=(w.drew.alloc (.view ⟨g,0,none⟩ 5)):=by
 have hUS:∀(q:Option Addr) (W:World),(Builtin.unsafeString_ #[157,3] 9 #[.pointer q,.int .i64 0]).run Tryz.prog W = .ok (.string .empty) W:=λq W=>Lib.run_unsafeString_none W _ _ _ q
 have c1:w.drew.cell? ⟨b,1,none⟩=some (.slice (some ⟨g,0,none⟩) 0 0):=h
 have hSD:(Builtin.unsafeSliceData_ #[104] 157 #[.slice (some ⟨g,0,none⟩) 0 0]).run Tryz.prog w.drew = .ok (.pointer (some ⟨w.drew.heap.size,0,none⟩)) (w.drew.alloc (.view ⟨g,0,none⟩ 5)):=
  Lib.run_unsafeSliceData_zero w.drew _ _ 5 Tryz.underlying157 ⟨g,0,none⟩ 0 (5,vs.length) (by have hg':w.drew.heap[g]? = some (.cells ⟨vs⟩ 5 (0,0)):=hg;simp [World.shape?,hg'])
 have c2:(w.drew.alloc (.view ⟨g,0,none⟩ 5)).cell? ⟨b,1,none⟩=some (.slice (some ⟨g,0,none⟩) 0 0):=by
  unfold World.cell? at h ⊢;rw [show(w.drew.alloc (.view ⟨g,0,none⟩ 5)).heap[b]? = w.heap[b]? from Lib.alloc_old w.drew _ b hb];exact h
 have c3:(w.alloc (.view ⟨g,0,none⟩ 5)).drew.cell? ⟨b,1,none⟩=some (.slice (some ⟨g,0,none⟩) 0 0):=c2;have mixed:Tryz.prog.follows .mixedOrders=true:=by kernel_rfl
 go_enter Tryz.func54,Tryz.ntmps54
 go_wp2
 go_region_o
 all_goals (go_wp2;go_ret;exact⟨rfl,rfl⟩)
set_option maxHeartbeats 2000000 in
set_option maxRecDepth 100000 in
def XM(b g cap:Nat)(w:World)(vs:List Value)(l:au')(h0:l≠[])(h:w.cell? ⟨b,1,none⟩=some (.slice (some ⟨g,0,none⟩) l.length cap))(hg:w.heap[g]? = some (.cells ⟨vs⟩ 5 (0,0)))
 (hn:l.length≤cap) (hcap:cap≤vs.length) (h63:l.length≤9223372036854775807) (hc:∀(j:Nat) (x:UInt8),l[j]? = some x→vs[j]? = some (Value.int .u8 x.toNat)):
 Calls Tryz.prog 54 #[.pointer (some ⟨b,0,none⟩)] w λe w'=>e = .returned (.string ⟨l.toArray⟩)∧w'=w.drew.freeze ⟨g,0,none⟩ l.length:=by
 have hl0:l.length≠0:=by simpa using h0
 have c1:w.drew.cell? ⟨b,1,none⟩=some (.slice (some ⟨g,0,none⟩) l.length cap):=h;have hg':w.drew.heap[g]? = some (.cells ⟨vs⟩ 5 (0,0)):=hg;have hSD:(Builtin.unsafeSliceData_ #[104] 157 #[.slice (some ⟨g,0,none⟩) l.length cap]).run Tryz.prog w.drew = .ok (.pointer (some ⟨g,0,none⟩)) w.drew:=Lib.run_unsafeSliceData_row _ _ _ _ _ _ (by omega)
 have hUS:(Builtin.unsafeString_ #[157,3] 9 #[.pointer (some ⟨g,0,none⟩),.int .i64 l.length]).run Tryz.prog w.drew = .ok (.string ⟨l.toArray⟩) (w.drew.freeze ⟨g,0,none⟩ l.length):=
  Lib.run_unsafeString_row w.drew 157 3 9 5 Tryz.underlying157 cellsByte g vs.length (by simp [World.shape?,hg']) l h0 (by omega) h63 (λj x hx=>by
   have:=hc j x hx
   rw [show(⟨g,0,none⟩:Addr).add j=⟨g,j,none⟩by unfold Addr.add;split<;>simp_all,Go.Ab.cell_of_heap hg',this])
 have mixed:Tryz.prog.follows .mixedOrders=true:=by kernel_rfl
 go_enter Tryz.func54,Tryz.ntmps54
 go_wp2
 go_region_o
 all_goals (go_wp2;go_ret;exact⟨rfl,rfl⟩)
open Go Go.Ab Go.Proofs
abbrev atF(x:Int):V:=.int .i32 x
abbrev atG(x:Int):V:=.int .i64 x
abbrev atH(x:Int):V:=.int .u32 x
abbrev atI(x:Int):V:=.int .u64 x
abbrev cV(x:Int):V:=.int .u8 x
def atJ{α β dO:Type}{a:α}{f:α→dO}{g:β→dO}{r:dO}(h:iA.on (.inl a) f g=r):f a=r:=h
def atK{α β dO:Type}{b:β}{f:α→dO}{g:β→dO}{r:dO}(h:iA.on (.inr b) f g=r):g b=r:=h
abbrev atL(x:Bool):V:=.bool x
abbrev bh(x:au'):V:=.str x
structure bz where
 Kind:Int
 N:Int
 S:au'
instance:Inhabited bz:=⟨⟨0,0,[]⟩⟩
def eS(x:bz):V:=.agg [.int .i64 x.Kind,.int .i64 x.N,.str x.S]
structure Version where
 cg:Int
 bj:bz
instance:Inhabited Version:=⟨⟨0,default⟩⟩
def gX(x:Version):V:=.agg [.int .i64 x.cg,.int .i64 x.bj.Kind,.int .i64 x.bj.N,.str x.bj.S]
structure Row where
 Key:au'
 bA:List Version
instance:Inhabited Row:=⟨⟨[],[]⟩⟩
def bT(x:Row):V:=.agg [.str x.Key,ag 4 gX x.bA]
structure aw where
 bB:Int
 bv:Int
 Rows:List Row
instance:Inhabited aw:=⟨⟨0,0,[]⟩⟩
def atM(x:aw):V:=.agg [.int .i64 x.bB,.int .i64 x.bv,ag 2 bT x.Rows]
structure Param where
 Name:au'
 fS:Int
instance:Inhabited Param:=⟨⟨[],0⟩⟩
def eF(x:Param):V:=.agg [.str x.Name,.int .i64 x.fS]
structure Expr where
 Op:Int
 N:Int
 S:au'
 ax:List Expr
instance:Inhabited Expr:=⟨⟨0,0,[],[]⟩⟩
mutual
def ch:Expr→V
 |⟨Op,N,S,ax⟩=>.agg [.int .i64 Op,.int .i64 N,.str S,.bJ 4 ax.length λi=>(CC ax).getD i .fC]
def CC:List Expr→List V
 |[]=>[]
 |x::l=>ch x::CC l
end
def XN:∀l:List Expr,CC l=l.map ch
 |[]=>rfl
 |x::l=>by rw [CC,XN l];rfl
def XO(l:List Expr)(i:Nat)(h:i<l.length):(CC l).getD i .fC=ch (l.getD i default):=by
 rw [XN];simp [List.getD,List.getElem?_eq_getElem h]
def aiH(x:Expr):lq (ch x).cells [.int .i64 x.Op,.int .i64 x.N,.str x.S,ag 4 ch x.ax]:=by
 cases x;exact .cons (ik _) (.cons (ik _) (.cons (ik _) (.cons (qd λi hi=>XO _ i hi) (lq.nil))))
def Hu(x:Expr):lq [.int .i64 x.Op,.int .i64 x.N,.str x.S,ag 4 ch x.ax] (ch x).cells:=by
 cases x;exact .cons (ik _) (.cons (ik _) (.cons (ik _) (.cons (qd λi hi=>(XO _ i hi).symm) (lq.nil))))
def f9(x:Expr):hv (ch x) (.agg [.int .i64 x.Op,.int .i64 x.N,.str x.S,ag 4 ch x.ax]):=by
 have h:=aiH x;cases x;exact WT h
structure Stmt where
 Op:Int
 Name:au'
 Max:Int
 A:Expr
 B:Expr
 Body:List Stmt
 bM:List Stmt
instance:Inhabited Stmt:=⟨⟨0,[],0,default,default,[],[]⟩⟩
mutual
def cb:Stmt→V
 |⟨Op,Name,Max,A,B,Body,bM⟩=>.agg [.int .i64 Op,.str Name,.int .i64 Max,.int .i64 A.Op,.int .i64 A.N,.str A.S,ag 4 ch A.ax,.int .i64 B.Op,.int .i64 B.N,.str B.S,ag 4 ch B.ax,.bJ 13 Body.length λi=>(y3 Body).getD i .fC,.bJ 13 bM.length λi=>(y3 bM).getD i .fC]
def y3:List Stmt→List V
 |[]=>[]
 |x::l=>cb x::y3 l
end
def XP:∀l:List Stmt,y3 l=l.map cb
 |[]=>rfl
 |x::l=>by rw [y3,XP l];rfl
def Hv(l:List Stmt)(i:Nat)(h:i<l.length):(y3 l).getD i .fC=cb (l.getD i default):=by
 rw [XP];simp [List.getD,List.getElem?_eq_getElem h]
def aiI(x:Stmt):lq (cb x).cells [.int .i64 x.Op,.str x.Name,.int .i64 x.Max,.int .i64 x.A.Op,.int .i64 x.A.N,.str x.A.S,ag 4 ch x.A.ax,.int .i64 x.B.Op,.int .i64 x.B.N,.str x.B.S,ag 4 ch x.B.ax,ag 13 cb x.Body,ag 13 cb x.bM]:=by
 cases x;exact .cons (ik _) (.cons (ik _) (.cons (ik _) (.cons (ik _) (.cons (ik _) (.cons (ik _) (.cons (ik _) (.cons (ik _) (.cons (ik _) (.cons (ik _) (.cons (ik _) (.cons (qd λi hi=>Hv _ i hi) (.cons (qd λi hi=>Hv _ i hi) (lq.nil)))))))))))))
def aiJ(x:Stmt):lq [.int .i64 x.Op,.str x.Name,.int .i64 x.Max,.int .i64 x.A.Op,.int .i64 x.A.N,.str x.A.S,ag 4 ch x.A.ax,.int .i64 x.B.Op,.int .i64 x.B.N,.str x.B.S,ag 4 ch x.B.ax,ag 13 cb x.Body,ag 13 cb x.bM] (cb x).cells:=by
 cases x;exact .cons (ik _) (.cons (ik _) (.cons (ik _) (.cons (ik _) (.cons (ik _) (.cons (ik _) (.cons (ik _) (.cons (ik _) (.cons (ik _) (.cons (ik _) (.cons (ik _) (.cons (qd λi hi=>(Hv _ i hi).symm) (.cons (qd λi hi=>(Hv _ i hi).symm) (lq.nil)))))))))))))
def ju(x:Stmt):hv (cb x) (.agg [.int .i64 x.Op,.str x.Name,.int .i64 x.Max,.int .i64 x.A.Op,.int .i64 x.A.N,.str x.A.S,ag 4 ch x.A.ax,.int .i64 x.B.Op,.int .i64 x.B.N,.str x.B.S,ag 4 ch x.B.ax,ag 13 cb x.Body,ag 13 cb x.bM]):=by
 have h:=aiI x;cases x;exact WT h
structure bb where
 Name:au'
 Params:List Param
 Body:List Stmt
instance:Inhabited bb:=⟨⟨[],[],[]⟩⟩
def dB(x:bb):V:=.agg [.str x.Name,ag 2 eF x.Params,ag 13 cb x.Body]
structure Outcome where
 Status:Int
 Code:Int
 Out:List bz
instance:Inhabited Outcome:=⟨⟨0,0,[]⟩⟩
def atN(x:Outcome):V:=.agg [.int .i64 x.Status,.int .i64 x.Code,ag 3 eS x.Out]
structure fg where
 Client:Int
 Seq:Int
 Outcome:Outcome
instance:Inhabited fg:=⟨⟨0,0,default⟩⟩
def jv(x:fg):V:=.agg [.int .i64 x.Client,.int .i64 x.Seq,.int .i64 x.Outcome.Status,.int .i64 x.Outcome.Code,ag 3 eS x.Outcome.Out]
structure b_ where
 Client:Int
 Next:Int
 cZ:List fg
instance:Inhabited b_:=⟨⟨0,0,[]⟩⟩
def dn(x:b_):V:=.agg [.int .i64 x.Client,.int .i64 x.Next,ag 5 jv x.cZ]
structure Part where
 Id:Int
 es:au'
 Node:Int
 gO:Int
 dQ:au'
instance:Inhabited Part:=⟨⟨0,[],0,0,[]⟩⟩
def cS(x:Part):V:=.agg [.int .i64 x.Id,.str x.es,.int .i64 x.Node,.int .i64 x.gO,.str x.dQ]
structure cc where
 Version:Int
 aS:List Part
instance:Inhabited cc:=⟨⟨0,[]⟩⟩
def atO(x:cc):V:=.agg [.int .i64 x.Version,ag 5 cS x.aS]
structure bg where
 Key:au'
 Count:Int
instance:Inhabited bg:=⟨⟨[],0⟩⟩
def dF(x:bg):V:=.agg [.str x.Key,.int .i64 x.Count]
structure gP where
 fh:Bool
 Reads:List au'
 dI:List au'
instance:Inhabited gP:=⟨⟨false,[],[]⟩⟩
def atP(x:gP):V:=.agg [.bool x.fh,ag 1 bh x.Reads,ag 1 bh x.dI]
structure Request where
 Client:Int
 Seq:Int
 bb:au'
 ax:List bz
 fE:Bool
 bU:gP
instance:Inhabited Request:=⟨⟨0,0,[],[],false,default⟩⟩
def dJ(x:Request):V:=.agg [.int .i64 x.Client,.int .i64 x.Seq,.str x.bb,ag 3 eS x.ax,.bool x.fE,.bool x.bU.fh,ag 1 bh x.bU.Reads,ag 1 bh x.bU.dI]
structure bN where
 Pos:Int
 aw:aw
 cj:List bb
 cp:List b_
 Place:cc
 bg:List bg
 Queue:List Request
 cz:Int
instance:Inhabited bN:=⟨⟨0,default,[],[],default,[],[],0⟩⟩
def atQ(x:bN):V:=.agg [.int .i64 x.Pos,.int .i64 x.aw.bB,.int .i64 x.aw.bv,ag 2 bT x.aw.Rows,ag 3 dB x.cj,ag 3 dn x.cp,.int .i64 x.Place.Version,ag 5 cS x.Place.aS,ag 2 dF x.bg,ag 8 dJ x.Queue,.int .u64 x.cz]
structure aU where
 Key:au'
 bj:bz
instance:Inhabited aU:=⟨⟨[],default⟩⟩
def ct(x:aU):V:=.agg [.str x.Key,.int .i64 x.bj.Kind,.int .i64 x.bj.N,.str x.bj.S]
structure dw where
 cg:Int
 Rest:bN
 Next:au'
 dQ:Bool
 e_:List aU
 dD:List au'
instance:Inhabited dw:=⟨⟨0,default,[],false,[],[]⟩⟩
def atR(x:dw):V:=.agg [.int .i64 x.cg,.int .i64 x.Rest.Pos,.int .i64 x.Rest.aw.bB,.int .i64 x.Rest.aw.bv,ag 2 bT x.Rest.aw.Rows,ag 3 dB x.Rest.cj,ag 3 dn x.Rest.cp,.int .i64 x.Rest.Place.Version,ag 5 cS x.Rest.Place.aS,ag 2 dF x.Rest.bg,ag 8 dJ x.Rest.Queue,.int .u64 x.Rest.cz,.str x.Next,.bool x.dQ,ag 4 ct x.e_,ag 1 bh x.dD]
structure XQ where
 aiK:Bool
 dI:List aU
 N:Int
instance:Inhabited XQ:=⟨⟨false,[],0⟩⟩
def atS(x:XQ):V:=.agg [.bool x.aiK,ag 4 ct x.dI,.int .i64 x.N]
structure Range where
 es:au'
 pB:au'
instance:Inhabited Range:=⟨⟨[],[]⟩⟩
def atT(x:Range):V:=.agg [.str x.es,.str x.pB]
structure fw where
 s:au'
 at_:Int
 e:Int
instance:Inhabited fw:=⟨⟨[],0,0⟩⟩
def atU(x:fw):V:=.agg [.str x.s,.int .i64 x.at_,.int .i64 x.e]
structure pC where
 gi:bN
 Ox:List aU
 sources:List au'
instance:Inhabited pC:=⟨⟨default,[],[]⟩⟩
def atV(x:pC):V:=.agg [.int .i64 x.gi.Pos,.int .i64 x.gi.aw.bB,.int .i64 x.gi.aw.bv,ag 2 bT x.gi.aw.Rows,ag 3 dB x.gi.cj,ag 3 dn x.gi.cp,.int .i64 x.gi.Place.Version,ag 5 cS x.gi.Place.aS,ag 2 dF x.gi.bg,ag 8 dJ x.gi.Queue,.int .u64 x.gi.cz,ag 4 ct x.Ox,ag 1 bh x.sources]
structure Token where
 Kind:Int
 Text:au'
 N:Int
 mC:Int
instance:Inhabited Token:=⟨⟨0,[],0,0⟩⟩
def c'(x:Token):V:=.agg [.int .i64 x.Kind,.str x.Text,.int .i64 x.N,.int .i64 x.mC]
structure cA where
 qo:Bool
 Stmt:Stmt
 CD:Int
 Expr:Expr
 aiL:Bool
instance:Inhabited cA:=⟨⟨false,default,0,default,false⟩⟩
def jw(x:cA):V:=.agg [.bool x.qo,.int .i64 x.Stmt.Op,.str x.Stmt.Name,.int .i64 x.Stmt.Max,.int .i64 x.Stmt.A.Op,.int .i64 x.Stmt.A.N,.str x.Stmt.A.S,ag 4 ch x.Stmt.A.ax,.int .i64 x.Stmt.B.Op,.int .i64 x.Stmt.B.N,.str x.Stmt.B.S,ag 4 ch x.Stmt.B.ax,ag 13 cb x.Stmt.Body,ag 13 cb x.Stmt.bM,.int .i64 x.CD,.int .i64 x.Expr.Op,.int .i64 x.Expr.N,.str x.Expr.S,ag 4 ch x.Expr.ax,.bool x.aiL]
structure XR where
 aiM:Int
 seq:Int
instance:Inhabited XR:=⟨⟨0,0⟩⟩
def atW(x:XR):V:=.agg [.int .i64 x.aiM,.int .i64 x.seq]
structure a1 where
 tokens:List Token
 at_:Int
instance:Inhabited a1:=⟨⟨[],0⟩⟩
def atX(x:a1):V:=.agg [ag 4 c' x.tokens,.int .i64 x.at_]
structure XS where
 line:Int
 code:Int
instance:Inhabited XS:=⟨⟨0,0⟩⟩
def atY(x:XS):V:=.agg [.int .i64 x.line,.int .i64 x.code]
structure ls where
 name:Bool
 a:Bool
 b:Bool
 max:Bool
 body:Bool
 other:Bool
instance:Inhabited ls:=⟨⟨false,false,false,false,false,false⟩⟩
def atZ(x:ls):V:=.agg [.bool x.name,.bool x.a,.bool x.b,.bool x.max,.bool x.body,.bool x.other]
structure lu where
 s:au'
 at_:Int
 e:Int
instance:Inhabited lu:=⟨⟨[],0,0⟩⟩
def at0(x:lu):V:=.agg [.str x.s,.int .i64 x.at_,.int .i64 x.e]
structure pD where
 s:au'
 at_:Int
 e:Int
instance:Inhabited pD:=⟨⟨[],0,0⟩⟩
def at1(x:pD):V:=.agg [.str x.s,.int .i64 x.at_,.int .i64 x.e]
structure h8 where
 s:au'
 at_:Int
 e:Int
instance:Inhabited h8:=⟨⟨[],0,0⟩⟩
def at2(x:h8):V:=.agg [.str x.s,.int .i64 x.at_,.int .i64 x.e]
def tt:dH:=[
 (1,⟨.iK,1,8,[.fD],[]⟩),
 (2,⟨.int .i64,1,8,[.int .i64 0],[]⟩),
 (3,⟨.int .i64,1,8,[.int .i64 0],[]⟩),
 (4,⟨.bool,1,1,[.bool false],[]⟩),
 (5,⟨.int .u8,1,1,[.int .u8 0],[]⟩),
 (6,⟨.int .u8,1,1,[.int .u8 0],[]⟩),
 (7,⟨.dE [(0,2,1),(1,3,1),(2,4,1),(3,6,1)],4,24,[.int .i64 0,.int .i64 0,.bool false,.int .u8 0],[]⟩),
 (8,⟨.dE [(0,2,1),(1,3,1),(2,4,1),(3,6,1)],4,24,[.int .i64 0,.int .i64 0,.bool false,.int .u8 0],[]⟩),
 (9,⟨.str,1,16,[.str ([]:au')],[]⟩),
 (10,⟨.str,1,16,[.str ([]:au')],[]⟩),
 (11,⟨.str,1,16,[.str ([]:au')],[]⟩),
 (12,⟨.int .u64,1,8,[.int .u64 0],[]⟩),
 (13,⟨.dE [(0,9,1),(1,12,1)],2,24,[.str ([]:au'),.int .u64 0],[]⟩),
 (14,⟨.dE [(0,9,1),(1,12,1)],2,24,[.str ([]:au'),.int .u64 0],[]⟩),
 (15,⟨.ptr,1,8,[.fC],[]⟩),
 (16,⟨.ptr,1,8,[.fC],[]⟩),
 (17,⟨.ptr,1,8,[.fC],[]⟩),
 (18,⟨.dE [(0,17,1)],1,8,[.fC],[]⟩),
 (19,⟨.dE [(0,17,1)],1,8,[.fC],[]⟩),
 (20,⟨.pY,1,16,[.jL],[]⟩),
 (21,⟨.int .i32,1,4,[.int .i32 0],[]⟩),
 (22,⟨.bJ 92,1,24,[ag 2 bT ([]:List Row)],[]⟩),
 (23,⟨.dE [(0,2,1),(1,2,1),(2,22,1)],3,40,[.int .i64 0,.int .i64 0,ag 2 bT ([]:List Row)],[]⟩),
 (24,⟨.dE [(0,2,1),(1,2,1),(2,22,1)],3,40,[.int .i64 0,.int .i64 0,ag 2 bT ([]:List Row)],[]⟩),
 (25,⟨.bJ 73,1,24,[ag 3 dB ([]:List bb)],[]⟩),
 (26,⟨.bJ 76,1,24,[ag 3 dn ([]:List b_)],[]⟩),
 (27,⟨.bJ 148,1,24,[ag 5 cS ([]:List Part)],[]⟩),
 (29,⟨.dE [(0,2,1),(1,27,1)],2,32,[.int .i64 0,ag 5 cS ([]:List Part)],[]⟩),
 (30,⟨.bJ 179,1,24,[ag 2 dF ([]:List bg)],[]⟩),
 (31,⟨.bJ 82,1,24,[ag 8 dJ ([]:List Request)],[]⟩),
 (32,⟨.int .u64,1,8,[.int .u64 0],[]⟩),
 (34,⟨.dE [(0,2,1),(1,24,3),(4,25,1),(5,26,1),(6,29,2),(8,30,1),(9,31,1),(10,32,1)],11,184,[.int .i64 0,.int .i64 0,.int .i64 0,ag 2 bT ([]:List Row),ag 3 dB ([]:List bb),ag 3 dn ([]:List b_),.int .i64 0,ag 5 cS ([]:List Part),ag 2 dF ([]:List bg),ag 8 dJ ([]:List Request),.int .u64 0],[]⟩),
 (37,⟨.bJ 87,1,24,[ag 4 ct ([]:List aU)],[]⟩),
 (38,⟨.bJ 9,1,24,[ag 1 bh ([]:List au')],[]⟩),
 (40,⟨.dE [(0,2,1),(1,34,11),(12,9,1),(13,4,1),(14,37,1),(15,38,1)],16,264,[.int .i64 0,.int .i64 0,.int .i64 0,.int .i64 0,ag 2 bT ([]:List Row),ag 3 dB ([]:List bb),ag 3 dn ([]:List b_),.int .i64 0,ag 5 cS ([]:List Part),ag 2 dF ([]:List bg),ag 8 dJ ([]:List Request),.int .u64 0,.str ([]:au'),.bool false,ag 4 ct ([]:List aU),ag 1 bh ([]:List au')],[]⟩),
 (41,⟨.int .i64,1,8,[.int .i64 0],[]⟩),
 (59,⟨.iK,1,8,[.fD],[]⟩),
 (70,⟨.bJ 143,1,24,[ag 2 eF ([]:List Param)],[]⟩),
 (71,⟨.bJ 200,1,24,[ag 13 cb ([]:List Stmt)],[]⟩),
 (73,⟨.dE [(0,9,1),(1,70,1),(2,71,1)],3,64,[.str ([]:au'),ag 2 eF ([]:List Param),ag 13 cb ([]:List Stmt)],[]⟩),
 (74,⟨.bJ 232,1,24,[ag 5 jv ([]:List fg)],[]⟩),
 (76,⟨.dE [(0,3,1),(1,2,1),(2,74,1)],3,40,[.int .i64 0,.int .i64 0,ag 5 jv ([]:List fg)],[]⟩),
 (78,⟨.bJ 85,1,24,[ag 3 eS ([]:List bz)],[]⟩),
 (80,⟨.dE [(0,4,1),(1,38,1),(2,38,1)],3,56,[.bool false,ag 1 bh ([]:List au'),ag 1 bh ([]:List au')],[]⟩),
 (82,⟨.dE [(0,3,1),(1,2,1),(2,9,1),(3,78,1),(4,4,1),(5,80,3)],8,120,[.int .i64 0,.int .i64 0,.str ([]:au'),ag 3 eS ([]:List bz),.bool false,.bool false,ag 1 bh ([]:List au'),ag 1 bh ([]:List au')],[]⟩),
 (85,⟨.dE [(0,3,1),(1,2,1),(2,9,1)],3,32,[.int .i64 0,.int .i64 0,.str ([]:au')],[]⟩),
 (87,⟨.dE [(0,9,1),(1,85,3)],4,48,[.str ([]:au'),.int .i64 0,.int .i64 0,.str ([]:au')],[]⟩),
 (90,⟨.bJ 138,1,24,[ag 4 gX ([]:List Version)],[]⟩),
 (92,⟨.dE [(0,9,1),(1,90,1)],2,40,[.str ([]:au'),ag 4 gX ([]:List Version)],[]⟩),
 (94,⟨.dE [(0,9,1),(1,9,1)],2,32,[.str ([]:au'),.str ([]:au')],[]⟩),
 (103,⟨.ptr,1,8,[.fC],[]⟩),
 (104,⟨.bJ 5,1,24,[ag 1 cV ([]:List Int)],[]⟩),
 (106,⟨.dE [(0,103,1),(1,104,1)],2,32,[.fC,ag 1 cV ([]:List Int)],[(0,106)]⟩),
 (108,⟨.pY,1,16,[.jL],[]⟩),
 (117,⟨.iK,1,8,[.fD],[]⟩),
 (133,⟨.iK,1,8,[.fD],[]⟩),
 (138,⟨.dE [(0,2,1),(1,85,3)],4,40,[.int .i64 0,.int .i64 0,.int .i64 0,.str ([]:au')],[]⟩),
 (143,⟨.dE [(0,9,1),(1,3,1)],2,24,[.str ([]:au'),.int .i64 0],[]⟩),
 (148,⟨.dE [(0,3,1),(1,9,1),(2,3,1),(3,3,1),(4,9,1)],5,56,[.int .i64 0,.str ([]:au'),.int .i64 0,.int .i64 0,.str ([]:au')],[]⟩),
 (156,⟨.int .u64,1,8,[.int .u64 0],[]⟩),
 (157,⟨.ptr,1,8,[.fC],[]⟩),
 (159,⟨.iK,1,8,[.fD],[]⟩),
 (161,⟨.iK,1,8,[.fD],[]⟩),
 (163,⟨.iK,1,8,[.fD],[]⟩),
 (167,⟨.iK,1,8,[.fD],[]⟩),
 (169,⟨.iK,1,8,[.fD],[]⟩),
 (173,⟨.iK,1,8,[.fD],[]⟩),
 (179,⟨.dE [(0,9,1),(1,2,1)],2,24,[.str ([]:au'),.int .i64 0],[]⟩),
 (196,⟨.bJ 198,1,24,[ag 4 ch ([]:List Expr)],[]⟩),
 (198,⟨.dE [(0,3,1),(1,2,1),(2,9,1),(3,196,1)],4,56,[.int .i64 0,.int .i64 0,.str ([]:au'),ag 4 ch ([]:List Expr)],[]⟩),
 (200,⟨.dE [(0,3,1),(1,9,1),(2,3,1),(3,198,4),(7,198,4),(11,71,1),(12,71,1)],13,192,[.int .i64 0,.str ([]:au'),.int .i64 0,.int .i64 0,.int .i64 0,.str ([]:au'),ag 4 ch ([]:List Expr),.int .i64 0,.int .i64 0,.str ([]:au'),ag 4 ch ([]:List Expr),ag 13 cb ([]:List Stmt),ag 13 cb ([]:List Stmt)],[]⟩),
 (202,⟨.ptr,1,8,[.fC],[]⟩),
 (204,⟨.dE [(0,9,1),(1,3,1),(2,41,1)],3,32,[.str ([]:au'),.int .i64 0,.int .i64 0],[]⟩),
 (206,⟨.dE [(0,34,11),(11,37,1),(12,38,1)],13,232,[.int .i64 0,.int .i64 0,.int .i64 0,ag 2 bT ([]:List Row),ag 3 dB ([]:List bb),ag 3 dn ([]:List b_),.int .i64 0,ag 5 cS ([]:List Part),ag 2 dF ([]:List bg),ag 8 dJ ([]:List Request),.int .u64 0,ag 4 ct ([]:List aU),ag 1 bh ([]:List au')],[]⟩),
 (209,⟨.iK,1,8,[.fD],[]⟩),
 (212,⟨.iK,1,8,[.fD],[]⟩),
 (230,⟨.dE [(0,3,1),(1,3,1),(2,78,1)],3,40,[.int .i64 0,.int .i64 0,ag 3 eS ([]:List bz)],[]⟩),
 (232,⟨.dE [(0,3,1),(1,2,1),(2,230,3)],5,56,[.int .i64 0,.int .i64 0,.int .i64 0,.int .i64 0,ag 3 eS ([]:List bz)],[]⟩),
 (244,⟨.ptr,1,8,[.fC],[]⟩),
 (246,⟨.dE [(0,106,2),(2,3,1)],3,40,[.fC,ag 1 cV ([]:List Int),.int .i64 0],[(0,106)]⟩),
 (251,⟨.dE [(0,161,1)],1,8,[.fD],[]⟩),
 (252,⟨.dE [(0,161,1)],1,8,[.fD],[]⟩),
 (254,⟨.dE [(0,163,1)],1,8,[.fD],[]⟩),
 (255,⟨.dE [(0,163,1)],1,8,[.fD],[]⟩),
 (257,⟨.iK,1,8,[.fD],[]⟩),
 (259,⟨.dE [(0,257,1)],1,8,[.fD],[]⟩),
 (262,⟨.iK,1,8,[.fD],[]⟩),
 (263,⟨.dE [(0,262,1)],1,8,[.fD],[]⟩),
 (264,⟨.dE [(0,262,1)],1,8,[.fD],[]⟩),
 (268,⟨.dE [(0,167,1)],1,8,[.fD],[]⟩),
 (270,⟨.dE [(0,169,1)],1,8,[.fD],[]⟩),
 (271,⟨.dE [(0,169,1)],1,8,[.fD],[]⟩),
 (274,⟨.dE [(0,173,1)],1,8,[.fD],[]⟩),
 (277,⟨.dE [(0,159,1)],1,8,[.fD],[]⟩),
 (292,⟨.bJ 341,1,24,[ag 4 c' ([]:List Token)],[]⟩),
 (301,⟨.bJ 304,1,24,[ag 20 jw ([]:List cA)],[]⟩),
 (304,⟨.dE [(0,4,1),(1,200,13),(14,3,1),(15,198,4),(19,4,1)],20,272,[.bool false,.int .i64 0,.str ([]:au'),.int .i64 0,.int .i64 0,.int .i64 0,.str ([]:au'),ag 4 ch ([]:List Expr),.int .i64 0,.int .i64 0,.str ([]:au'),ag 4 ch ([]:List Expr),ag 13 cb ([]:List Stmt),ag 13 cb ([]:List Stmt),.int .i64 0,.int .i64 0,.int .i64 0,.str ([]:au'),ag 4 ch ([]:List Expr),.bool false],[]⟩),
 (315,⟨.dE [(0,3,1),(1,2,1)],2,16,[.int .i64 0,.int .i64 0],[]⟩),
 (316,⟨.iK,1,8,[.fD],[]⟩),
 (317,⟨.iK,1,8,[.fD],[]⟩),
 (319,⟨.iK,1,8,[.fD],[]⟩),
 (320,⟨.iK,1,8,[.fD],[]⟩),
 (323,⟨.iK,1,8,[.fD],[]⟩),
 (327,⟨.ptr,1,8,[.fC],[]⟩),
 (329,⟨.dE [(0,9,1),(1,3,1),(2,41,1)],3,32,[.str ([]:au'),.int .i64 0,.int .i64 0],[]⟩),
 (331,⟨.ptr,1,8,[.fC],[]⟩),
 (333,⟨.dE [(0,9,1),(1,3,1),(2,41,1)],3,32,[.str ([]:au'),.int .i64 0,.int .i64 0],[]⟩),
 (337,⟨.ptr,1,8,[.fC],[]⟩),
 (339,⟨.iK,1,8,[.fD],[]⟩),
 (341,⟨.dE [(0,3,1),(1,9,1),(2,2,1),(3,3,1)],4,40,[.int .i64 0,.str ([]:au'),.int .i64 0,.int .i64 0],[]⟩),
 (359,⟨.iK,1,8,[.fD],[]⟩),
 (360,⟨.ptr,1,8,[.fC],[]⟩),
 (362,⟨.dE [(0,3,1),(1,319,1),(2,320,1)],3,24,[.int .i64 0,.fD,.fD],[]⟩),
 (365,⟨.dE [(0,4,1),(1,4,1),(2,4,1),(3,4,1),(4,4,1),(5,4,1)],6,6,[.bool false,.bool false,.bool false,.bool false,.bool false,.bool false],[]⟩),
 (372,⟨.ptr,1,8,[.fC],[]⟩),
 (374,⟨.dE [(0,9,1),(1,3,1),(2,41,1)],3,32,[.str ([]:au'),.int .i64 0,.int .i64 0],[]⟩),
 (379,⟨.dE [(0,3,1),(1,41,1)],2,16,[.int .i64 0,.int .i64 0],[]⟩),
 (382,⟨.dE [(0,292,1),(1,3,1)],2,32,[ag 4 c' ([]:List Token),.int .i64 0],[]⟩)]
def ip:fe Tryz.prog tt=true:=by kernel_rfl
def CE:Tryz.prog.follows .mixedOrders=true:=by kernel_rfl
end Go.Ab.Y
namespace Go.Ab.Y.T
open Go Go.Ab Go.Proofs
structure aN(f:FuncId)(args:List D)(er:List (Nat×TypeId))(H:List (List aW)){ρ:Type}(F:Option ρ)(out:ρ→Out)(cE:ρ→List (List aW)):Prop where
 of:∀{r:ρ},F=some r→gL Tryz.prog f args er H (out r) (cE r)
def sG(E:Nat)(rs:List ResultVar){ρ:Type}(out:ρ→Out)(cE:ρ→List (List aW))(r:ρ):cr→aH→Prop:=sA tt E rs λo H'=>o=out r∧H'=cE r
def hB(s st:aH):Option aH:=(vE (s.env.map (·.1)) (s.H.map (·.1)) s.aX st.env st.H st.aX).map (fit s)
noncomputable abbrev iO(N:Nat)(ops:Array Oper)(rs:List fu)(st:aH):=wC (hR Tryz.prog) tt N ops.toList rs st
noncomputable abbrev Hw(N:Nat)(ops:Array Oper)(rs:List (Nat×List fu))(st:aH):=Hg (hR Tryz.prog) tt N ops.toList (spread ops.toList.length 0 rs) st
noncomputable abbrev XT(N:Nat)(ops:Array Oper)(gy:Nat)(rs:List (Nat×List fu))(st:aH):=Cu (hR Tryz.prog) tt N ops.toList gy (st.aX+ops.toList.length) (spread ops.toList.length 0 rs) st
abbrev af(x:Int):aW:=⟨.v (.int .i64 x),none⟩
abbrev dM(x:Bool):aW:=⟨.v (.bool x),none⟩
abbrev a7(x:au'):aW:=⟨.v (.str x),none⟩
abbrev az{α:Type}[Inhabited α](k:Nat)(e:α→V)(l:List α):aW:=⟨.v (ag k e l),none⟩
abbrev a'(r o:Nat):aW:=⟨.ptr r o,none⟩
abbrev gj(x:V):aW:=⟨.v x,none⟩
abbrev bi(x:Int):D:=.v (.int .i64 x)
abbrev b7(x:Bool):D:=.v (.bool x)
abbrev cw(x:au'):D:=.v (.str x)
abbrev dd{α:Type}[Inhabited α](k:Nat)(e:α→V)(l:List α):D:=.v (ag k e l)
abbrev aO(d:D):Out:=.ret d none
def aiN(n:Nat):gT (n:Int) n=true:=agq ⟨Int.natCast_nonneg n,Int.le_refl _⟩
abbrev ar:=all_nil
def ad{p:Prop}{l:List Prop}(h:p)(ab:lp l):lp (p::l):=⟨h,ab⟩
section
variable {N E:Nat} {st:aH} {Q:cr→aH→Prop} {next:aH→Prop} {x y:Code} {id i j:Nat} {ops:Array Oper}
def y4{x:V}(h:Q (.aJ x) st):cr.then next Q (.aJ x) st:=h
def b3(h:Q .normal st):cr.inBlock i Q (.exit i) st:=cr.ahy h
def y5(h:Q (.exit j) st)(dL:Nat.beq j i=false:=by kernel_rfl):cr.inBlock i Q (.exit j) st:=cr.ahz dL h
def aiO{x:V}(h:Q (.aJ x) st):cr.inBlock i Q (.aJ x) st:=h
def aq(h:ba Tryz.prog N E x (cr.then (ba Tryz.prog N E y Q) Q) st):ba Tryz.prog N E (.seq x y) Q st:=ba.seq h
def an(h:Q .normal st):ba Tryz.prog N E .skip Q st:=ba.skip h
def XU{r:Nat}(h:Q .ret (Cz r st)):Om r Q .ret st:=h
def XV(r:Nat)(h:ba Tryz.prog N E x (Om r Q) st):ba Tryz.prog N E x Q st:=ba.pi r h
def wI(pA:List Nat)(h:ba Tryz.prog N E x Q {env:=forget pA st.env,H:=st.H,aX:=st.aX}):ba Tryz.prog N E x Q st:=ba.forget pA h
def aiP{l:Nat}(h:Q .normal st):ba Tryz.prog N E (.label l) Q st:=ba.label h
def b4(h:Q (.exit i) st):ba Tryz.prog N E (.exit i) Q st:=ba.exit h
def Hx(h:Q .ret st):ba Tryz.prog N E .ret Q st:=ba.ret h
def aiQ(h:ba Tryz.prog N E x Q st):ba Tryz.prog N E (.scope x) Q st:=ba.scope h
def aL(h:ba Tryz.prog N E x (cr.inBlock i Q) st):ba Tryz.prog N E (.block i x) Q st:=ba.block h
def fx(rs:List fu){bu:List Prop}(cx:lp bu)(ew:Q .normal (kf (iO N ops rs st)))(ai:mB (iO N ops rs st)=some bu:=by kernel_rfl):ba Tryz.prog N E (.region id ops false) Q st:=ba.rg ip rs ai cx ew
def bC(ew:Q .normal (kf (iO N ops [] st)))(ai:mB (iO N ops [] st)=some []:=by kernel_rfl):ba Tryz.prog N E (.region id ops false) Q st:=fx [] ar ew ai
def G(ew:ba Tryz.prog N E y Q (kf (iO N ops [] st)))(ai:mB (iO N ops [] st)=some []:=by kernel_rfl):ba Tryz.prog N E (.seq (.region id ops false) y) Q st:=aq (bC (Q:=cr.then (ba Tryz.prog N E y Q) Q) ew ai)
def aQ(rs:List fu){bu:List Prop}(cx:lp bu)(ew:ba Tryz.prog N E y Q (kf (iO N ops rs st)))(ai:mB (iO N ops rs st)=some bu:=by kernel_rfl):ba Tryz.prog N E (.seq (.region id ops false) y) Q st:=aq (fx (Q:=cr.then (ba Tryz.prog N E y Q) Q) rs cx ew ai)
section
variable {f:FuncId} {args:List D} {er:List (Nat×TypeId)} {H cE:List (List aW)} {out:Out}
def lO(p:gL Tryz.prog f args er H out cE)(ew:Q .normal (kf (iO N ops [be p []] st)))(ai:mB (iO N ops [be p []] st)=some [gL Tryz.prog f args er H out cE]:=by kernel_rfl):ba Tryz.prog N E (.region id ops false) Q st:=fx [be p []] (ad p ar) ew ai
def kT(p:gL Tryz.prog f args er H out cE)(ew:Q .normal (kf (iO N ops [bF p []] st)))(ai:mB (iO N ops [bF p []] st)=some [gL Tryz.prog f args er H out cE]:=by kernel_rfl):ba Tryz.prog N E (.region id ops false) Q st:=fx [bF p []] (ad p ar) ew ai
def bG(p:gL Tryz.prog f args er H out cE)(ew:ba Tryz.prog N E y Q (kf (iO N ops [be p []] st)))(ai:mB (iO N ops [be p []] st)=some [gL Tryz.prog f args er H out cE]:=by kernel_rfl):ba Tryz.prog N E (.seq (.region id ops false) y) Q st:=aQ [be p []] (ad p ar) ew ai
def dt(p:gL Tryz.prog f args er H out cE)(ew:ba Tryz.prog N E y Q (kf (iO N ops [bF p []] st)))(ai:mB (iO N ops [bF p []] st)=some [gL Tryz.prog f args er H out cE]:=by kernel_rfl):ba Tryz.prog N E (.seq (.region id ops false) y) Q st:=aQ [bF p []] (ad p ar) ew ai
end
def iB(rs:List (Nat×List fu)){bu:List Prop}(cx:lp bu)(ew:Q .normal (kf (Hw N ops rs st)))(ai:mB (Hw N ops rs st)=some bu:=by kernel_rfl):ba Tryz.prog N E (.region id ops true) Q st:=ba.Hi ip CE rs ai cx ew
def cy(rs:List (Nat×List fu)){bu:List Prop}(cx:lp bu)(ew:ba Tryz.prog N E y Q (kf (Hw N ops rs st)))(ai:mB (Hw N ops rs st)=some bu:=by kernel_rfl):ba Tryz.prog N E (.seq (.region id ops true) y) Q st:=aq (iB (Q:=cr.then (ba Tryz.prog N E y Q) Q) rs cx ew ai)
def ei(x:V)(rs:List fu){bu:List Prop}(cx:lp bu)(ew:Q (.aJ x) (kf (iO N ops rs st)))(ai:N4 (iO N ops rs st)=some (x,bu):=by kernel_rfl):ba Tryz.prog N E (.region id ops false) Q st:=ba.N5 ip rs ai cx ew
def sH(gy:Nat)(x:V)(rs:List (Nat×List fu)){bu:List Prop}(cx:lp bu)(ew:∀n,Q (.aJ x) {env:=[],H:=Of (XT N ops gy rs st),aX:=n})(ai:Oe (XT N ops gy rs st)=some (x,bu):=by kernel_rfl):ba Tryz.prog N E (.region id ops true) Q st:=ba.aic ip CE gy rs ai cx ew
def C{α:Type}{b:Bool}{p q:Option α}{r:α}{c:Nat}(h:(bif b then p else q)=some r)(aF:p=some r→ba Tryz.prog N E x Q st)(bP:q=some r→ba Tryz.prog N E y Q st)(hc:(look st.env c).map (·.d)=some (.v (.bool b)):=by kernel_rfl):ba Tryz.prog N E (.cond (.tmp c) x y) Q st:=ba.N7 h hc aF bP
def XW{c:Nat}(aF:ba Tryz.prog N E x Q st)(hc:(look st.env c).map (·.d)=some (.v (.bool true)):=by kernel_rfl):ba Tryz.prog N E (.cond (.tmp c) x y) Q st:=ba.Xd hc aF
def XX{c:Nat}(bP:ba Tryz.prog N E y Q st)(hc:(look st.env c).map (·.d)=some (.v (.bool false)):=by kernel_rfl):ba Tryz.prog N E (.cond (.tmp c) x y) Q st:=ba.N8 hc bP
section
variable {ρ:Type} {a r:ρ} {out:ρ→Out} {cE:ρ→List (List aW)} {rs:List ResultVar}
def Hd(h:some a=some r)(ab:leave tt E rs st=some (out a,cE a):=by kernel_rfl):sG E rs out cE r .ret st:=by
 obtain rfl:=Option.some.inj h;exact ahB ab
def aiR(Hy:Nat)(h:some a=some r)(ab:sz tt E Hy rs st=some (out a,cE a):=by kernel_rfl):sG E rs out cE r .ret st:=by
 obtain rfl:=Option.some.inj h;exact ahC ab
def bq{Q:cr→aH→Prop}(h:some a=some r)(ao:sG E rs out cE r .ret st=Q .ret st:=by rfl)(ab:leave tt E rs st=some (out a,cE a):=by kernel_rfl):ba Tryz.prog N E .ret Q st:=Hx (ao ▸ Hd h ab)
def aiS(Hy:Nat){Q:cr→aH→Prop}(h:some a=some r)(ao:sG E rs out cE r .ret st=Q .ret st:=by rfl)(ab:sz tt E Hy rs st=some (out a,cE a):=by kernel_rfl):ba Tryz.prog N E .ret Q st:=Hx (ao ▸ aiR Hy h ab)
def bk{Q:cr→aH→Prop}{id:Nat}{ops:Array Oper}(h:some a=some r)(ao:sG E rs out cE r .ret (kf (iO N ops [] st))=Q .ret (kf (iO N ops [] st)):=by rfl)(ab:leave tt E rs (kf (iO N ops [] st))=some (out a,cE a):=by kernel_rfl)(ai:mB (iO N ops [] st)=some []:=by kernel_rfl):ba Tryz.prog N E (.seq (.region id ops false) .ret) Q st:=G (bq h ao ab) ai
def aC{Q:cr→aH→Prop}{id:Nat}{ops:Array Oper}{b:Bool}{q:Option ρ}{c:Nat}{y:Code}(h:(bif b then some a else q)=some r)(bP:q=some r→ba Tryz.prog N E y Q st)(ao:sG E rs out cE r .ret (kf (iO N ops [] st))=Q .ret (kf (iO N ops [] st)):=by rfl)(ab:leave tt E rs (kf (iO N ops [] st))=some (out a,cE a):=by kernel_rfl)(ai:mB (iO N ops [] st)=some []:=by kernel_rfl)(hc:(look st.env c).map (·.d)=some (.v (.bool b)):=by kernel_rfl):ba Tryz.prog N E (.cond (.tmp c) (.seq (.region id ops false) .ret) y) Q st:=C h (λh=>bk h ao ab ai) bP hc
def kU(h:some a=some r)(ab:leave tt E rs st=some (out a,cE a):=by kernel_rfl):sG E rs out cE r .normal st:=by
 obtain rfl:=Option.some.inj h;exact NQ ab
def dN{x:V}(h:some a=some r)(ab:(GT E st.H).map oD=some (cE a):=by kernel_rfl)(hx:out a = .aJ x:=by kernel_rfl):sG E rs out cE r (.aJ x) st:=by
 obtain rfl:=Option.some.inj h;show sA tt E rs _ _ _
 rw [hx];exact ahD ab
end
def aP{f:FuncId}{fn:Func}{c:Code}{args:List D}{er:List (Nat×TypeId)}{H:List (List aW)}{ρ:Type}{F:Option ρ}{out:ρ→Out}{cE:ρ→List (List aW)}(bP:Tryz.prog.funcs[f]? = some fn)(hb:fn.body=some c)
 (h : ∀ {r : ρ}, F = some r → ba Tryz.prog fn.ntmps H.length c (sG H.length fn.results.toList out cE r) { env := h7 args er, H := cX 0 H, aX := H.length }) (kb : decide (fn.name = "runtime.NumGoroutine") = false := by rfl) (ha : Nat.ble args.length fn.ntmps = true := by rfl) : aN f args er H F out cE :=
 ⟨λh0=>ahA ip bP hb kb ha (h h0)⟩
end
section
variable {α β dO hK:Type} {p:Prop}
def di{q:Prop}(a:p)(k:p→q):q:=k a
def uy{XY:Type}{X:Option XY}(c:α ⊕ β→XY){x:α ⊕ β}{f:α→Option dO}{g:β→Option dO}{r:dO}(q:X=some (c x))(h:iA.on x f g=some r)(dc:∀a,X=some (c (.inl a))→f a=some r→p)(aj:∀b,X=some (c (.inr b))→g b=some r→p):p:=
 match x,q,h with
 |.inl a,q,h=>dc a q h
 |.inr b,q,h=>aj b q h
def jx{r:α}(h:none=some r):p:=by cases h
def aA{b:Bool}{x:Option α}{r:α}(h:av b x=some r)(k:b=true→x=some r→p):p:=k (sC h).1 (sC h).2
def al{x:Option α}{f:α→Option β}{r:β}(h:Option.bind x f=some r)(k:∀a,x=some a→f a=some r→p):p:=let ⟨a,Z,aa⟩:=bind_some h;k a Z aa
def d_{x:Option (aB α β)}{f:α→β→Option dO}{g:V→β→Option dO}{r:dO}(h:Option.bind x (λz=>aB.on z f g)=some r)(dc:∀a b,x=some (.ret a b)→f a b=some r→p)(aj:∀y b,x=some (.aJ y b)→g y b=some r→p):p:=
 let ⟨z,Z,aa⟩:=bind_some h
 match z,Z,aa with
 |.ret a b,Z,aa=>dc a b Z aa
 |.aJ y b,Z,aa=>aj y b Z aa
end
section
variable {ρ:Type} {r:ρ} {N E:Nat} {st:aH} {Q:cr→aH→Prop} {x y:Code}
def cK{cB:aH}{f:Option ρ}(h:f=some r)(ai:hB (cB) st=some (cB):=by kernel_rfl):hB (cB) st=some (cB)∧f=some r:=⟨ai,h⟩
def cU(cB:aH)(f:Option ρ)(Z:ba Tryz.prog N E x (cr.then (λbY=>hB (cB) bY=some (cB)∧f=some r) Q) st)(aa:f=some r→ba Tryz.prog N E y Q (cB))(b2:Nat.ble E (cB).aX=true:=by intros;kernel_rfl):ba Tryz.prog N E (.seq x y) Q st:=
 ba.cut _ Z λbY ⟨ai,h⟩=>ba.rr _ _ _ _ ai (b2) (aa h)
end
section
variable {α:Type} {ρ:Type} {r:ρ} {N E:Nat} {st:aH} {Q:cr→aH→Prop} {x y:Code}
def a_{cB:α→aH}{f:α→Option ρ}{a0:_}(h:f a0=some r)(ai:hB (cB a0) st=some (cB a0):=by kernel_rfl):∃a0,hB (cB a0) st=some (cB a0)∧f a0=some r:=⟨a0,ai,h⟩
def dy(cB:α→aH)(f:α→Option ρ)(Z:ba Tryz.prog N E x (cr.then (λbY=>∃a0,hB (cB a0) bY=some (cB a0)∧f a0=some r) Q) st)(aa:∀a0,f a0=some r→ba Tryz.prog N E y Q (cB a0))(b2:∀a0,Nat.ble E (cB a0).aX=true:=by intros;kernel_rfl):ba Tryz.prog N E (.seq x y) Q st:=
 ba.cut _ Z λbY ⟨a0,ai,h⟩=>ba.rr _ _ _ _ ai (b2 a0) (aa a0 h)
def dU(cB:α→aH)(F:Nat→α→Option ρ)(B:(α→Option ρ)→α→Option ρ){n:Nat}{a0:_}(h:F n a0=some r)(body:∀k a0,B k a0=some r→ba Tryz.prog N E x (cr.then (λbY=>∃a0,hB (cB a0) bY=some (cB a0)∧k a0=some r) Q) (cB a0))(hi:hB (cB a0) st=some (cB a0):=by kernel_rfl)(b2:∀a0,Nat.ble E (cB a0).aX=true:=by intros;kernel_rfl)(h0:∀a0,F 0 a0=none:=by intros;rfl)(hs:∀m a0,F (m+1) a0=B (F m) a0:=by intros;rfl):ba Tryz.prog N E (.loop x) Q st:=by
 refine ba.loop (σ:=α) (λm (s:α) st=>hB (cB s) st=some (cB s)∧F m s=some r) ?_ (n:=n) (s:=a0) ⟨hi,h⟩
 rintro m a0 bY ⟨ai,h⟩
 cases m with
 |zero=>have aa:=(h0 a0).symm.trans h;cases aa
 |succ m=>
  refine⟨m,rfl,ba.rr _ _ _ _ ai (b2 a0) ((body (F m) a0 ((hs m a0).symm.trans h)).mono ?_)⟩
  intro fr Hz ao;cases fr with
  |normal=>obtain⟨a0,g1,g2⟩:=ao;exact⟨a0,g1,g2⟩
  |exit i=>exact ao
  |ret=>exact ao
  |aJ x=>exact ao
end
section
variable {α β:Type} {ρ:Type} {r:ρ} {N E:Nat} {st:aH} {Q:cr→aH→Prop} {x y:Code}
def ef{cB:α→β→aH}{f:α→β→Option ρ}{a0 bc:_}(h:f a0 bc=some r)(ai:hB (cB a0 bc) st=some (cB a0 bc):=by kernel_rfl):∃a0 bc,hB (cB a0 bc) st=some (cB a0 bc)∧f a0 bc=some r:=⟨a0,bc,ai,h⟩
def nG(cB:α→β→aH)(f:α→β→Option ρ)(Z:ba Tryz.prog N E x (cr.then (λbY=>∃a0 bc,hB (cB a0 bc) bY=some (cB a0 bc)∧f a0 bc=some r) Q) st)(aa:∀a0 bc,f a0 bc=some r→ba Tryz.prog N E y Q (cB a0 bc))(b2:∀a0 bc,Nat.ble E (cB a0 bc).aX=true:=by intros;kernel_rfl):ba Tryz.prog N E (.seq x y) Q st:=
 ba.cut _ Z λbY ⟨a0,bc,ai,h⟩=>ba.rr _ _ _ _ ai (b2 a0 bc) (aa a0 bc h)
def gk(cB:α→β→aH)(F:Nat→α→β→Option ρ)(B:(α→β→Option ρ)→α→β→Option ρ){n:Nat}{a0 bc:_}(h:F n a0 bc=some r)(body:∀k a0 bc,B k a0 bc=some r→ba Tryz.prog N E x (cr.then (λbY=>∃a0 bc,hB (cB a0 bc) bY=some (cB a0 bc)∧k a0 bc=some r) Q) (cB a0 bc))(hi:hB (cB a0 bc) st=some (cB a0 bc):=by kernel_rfl)(b2:∀a0 bc,Nat.ble E (cB a0 bc).aX=true:=by intros;kernel_rfl)(h0:∀a0 bc,F 0 a0 bc=none:=by intros;rfl)(hs:∀m a0 bc,F (m+1) a0 bc=B (F m) a0 bc:=by intros;rfl):ba Tryz.prog N E (.loop x) Q st:=by
 refine ba.loop (σ:=α×β) (λm (s:α×β) st=>hB (cB s.1 s.2) st=some (cB s.1 s.2)∧F m s.1 s.2=some r) ?_ (n:=n) (s:=(a0,bc)) ⟨hi,h⟩
 rintro m ⟨a0,bc⟩ bY ⟨ai,h⟩
 cases m with
 |zero=>have aa:=(h0 a0 bc).symm.trans h;cases aa
 |succ m=>
  refine⟨m,rfl,ba.rr _ _ _ _ ai (b2 a0 bc) ((body (F m) a0 bc ((hs m a0 bc).symm.trans h)).mono ?_)⟩
  intro fr Hz ao;cases fr with
  |normal=>obtain⟨a0,bc,g1,g2⟩:=ao;exact⟨(a0,bc),g1,g2⟩
  |exit i=>exact ao
  |ret=>exact ao
  |aJ x=>exact ao
end
section
variable {α β dO:Type} {ρ:Type} {r:ρ} {N E:Nat} {st:aH} {Q:cr→aH→Prop} {x y:Code}
def iC{cB:α→β→dO→aH}{f:α→β→dO→Option ρ}{a0 bc a2:_}(h:f a0 bc a2=some r)(ai:hB (cB a0 bc a2) st=some (cB a0 bc a2):=by kernel_rfl):∃a0 bc a2,hB (cB a0 bc a2) st=some (cB a0 bc a2)∧f a0 bc a2=some r:=⟨a0,bc,a2,ai,h⟩
def rv(cB:α→β→dO→aH)(f:α→β→dO→Option ρ)(Z:ba Tryz.prog N E x (cr.then (λbY=>∃a0 bc a2,hB (cB a0 bc a2) bY=some (cB a0 bc a2)∧f a0 bc a2=some r) Q) st)(aa:∀a0 bc a2,f a0 bc a2=some r→ba Tryz.prog N E y Q (cB a0 bc a2))(b2:∀a0 bc a2,Nat.ble E (cB a0 bc a2).aX=true:=by intros;kernel_rfl):ba Tryz.prog N E (.seq x y) Q st:=
 ba.cut _ Z λbY ⟨a0,bc,a2,ai,h⟩=>ba.rr _ _ _ _ ai (b2 a0 bc a2) (aa a0 bc a2 h)
def y6(cB:α→β→dO→aH)(F:Nat→α→β→dO→Option ρ)(B:(α→β→dO→Option ρ)→α→β→dO→Option ρ){n:Nat}{a0 bc a2:_}(h:F n a0 bc a2=some r)(body:∀k a0 bc a2,B k a0 bc a2=some r→ba Tryz.prog N E x (cr.then (λbY=>∃a0 bc a2,hB (cB a0 bc a2) bY=some (cB a0 bc a2)∧k a0 bc a2=some r) Q) (cB a0 bc a2))(hi:hB (cB a0 bc a2) st=some (cB a0 bc a2):=by kernel_rfl)(b2:∀a0 bc a2,Nat.ble E (cB a0 bc a2).aX=true:=by intros;kernel_rfl)(h0:∀a0 bc a2,F 0 a0 bc a2=none:=by intros;rfl)(hs:∀m a0 bc a2,F (m+1) a0 bc a2=B (F m) a0 bc a2:=by intros;rfl):ba Tryz.prog N E (.loop x) Q st:=by
 refine ba.loop (σ:=α×β×dO) (λm (s:α×β×dO) st=>hB (cB s.1 s.2.1 s.2.2) st=some (cB s.1 s.2.1 s.2.2)∧F m s.1 s.2.1 s.2.2=some r) ?_ (n:=n) (s:=(a0,bc,a2)) ⟨hi,h⟩
 rintro m ⟨a0,bc,a2⟩ bY ⟨ai,h⟩
 cases m with
 |zero=>have aa:=(h0 a0 bc a2).symm.trans h;cases aa
 |succ m=>
  refine⟨m,rfl,ba.rr _ _ _ _ ai (b2 a0 bc a2) ((body (F m) a0 bc a2 ((hs m a0 bc a2).symm.trans h)).mono ?_)⟩
  intro fr Hz ao;cases fr with
  |normal=>obtain⟨a0,bc,a2,g1,g2⟩:=ao;exact⟨(a0,bc,a2),g1,g2⟩
  |exit i=>exact ao
  |ret=>exact ao
  |aJ x=>exact ao
end
section
variable {α β dO hK:Type} {ρ:Type} {r:ρ} {N E:Nat} {st:aH} {Q:cr→aH→Prop} {x y:Code}
def qp{cB:α→β→dO→hK→aH}{f:α→β→dO→hK→Option ρ}{a0 bc a2 a3:_}(h:f a0 bc a2 a3=some r)(ai:hB (cB a0 bc a2 a3) st=some (cB a0 bc a2 a3):=by kernel_rfl):∃a0 bc a2 a3,hB (cB a0 bc a2 a3) st=some (cB a0 bc a2 a3)∧f a0 bc a2 a3=some r:=⟨a0,bc,a2,a3,ai,h⟩
def aiT(cB:α→β→dO→hK→aH)(f:α→β→dO→hK→Option ρ)(Z:ba Tryz.prog N E x (cr.then (λbY=>∃a0 bc a2 a3,hB (cB a0 bc a2 a3) bY=some (cB a0 bc a2 a3)∧f a0 bc a2 a3=some r) Q) st)(aa:∀a0 bc a2 a3,f a0 bc a2 a3=some r→ba Tryz.prog N E y Q (cB a0 bc a2 a3))(b2:∀a0 bc a2 a3,Nat.ble E (cB a0 bc a2 a3).aX=true:=by intros;kernel_rfl):ba Tryz.prog N E (.seq x y) Q st:=
 ba.cut _ Z λbY ⟨a0,bc,a2,a3,ai,h⟩=>ba.rr _ _ _ _ ai (b2 a0 bc a2 a3) (aa a0 bc a2 a3 h)
def sI(cB:α→β→dO→hK→aH)(F:Nat→α→β→dO→hK→Option ρ)(B:(α→β→dO→hK→Option ρ)→α→β→dO→hK→Option ρ){n:Nat}{a0 bc a2 a3:_}(h:F n a0 bc a2 a3=some r)(body:∀k a0 bc a2 a3,B k a0 bc a2 a3=some r→ba Tryz.prog N E x (cr.then (λbY=>∃a0 bc a2 a3,hB (cB a0 bc a2 a3) bY=some (cB a0 bc a2 a3)∧k a0 bc a2 a3=some r) Q) (cB a0 bc a2 a3))(hi:hB (cB a0 bc a2 a3) st=some (cB a0 bc a2 a3):=by kernel_rfl)(b2:∀a0 bc a2 a3,Nat.ble E (cB a0 bc a2 a3).aX=true:=by intros;kernel_rfl)(h0:∀a0 bc a2 a3,F 0 a0 bc a2 a3=none:=by intros;rfl)(hs:∀m a0 bc a2 a3,F (m+1) a0 bc a2 a3=B (F m) a0 bc a2 a3:=by intros;rfl):ba Tryz.prog N E (.loop x) Q st:=by
 refine ba.loop (σ:=α×β×dO×hK) (λm (s:α×β×dO×hK) st=>hB (cB s.1 s.2.1 s.2.2.1 s.2.2.2) st=some (cB s.1 s.2.1 s.2.2.1 s.2.2.2)∧F m s.1 s.2.1 s.2.2.1 s.2.2.2=some r) ?_ (n:=n) (s:=(a0,bc,a2,a3)) ⟨hi,h⟩
 rintro m ⟨a0,bc,a2,a3⟩ bY ⟨ai,h⟩
 cases m with
 |zero=>have aa:=(h0 a0 bc a2 a3).symm.trans h;cases aa
 |succ m=>
  refine⟨m,rfl,ba.rr _ _ _ _ ai (b2 a0 bc a2 a3) ((body (F m) a0 bc a2 a3 ((hs m a0 bc a2 a3).symm.trans h)).mono ?_)⟩
  intro fr Hz ao;cases fr with
  |normal=>obtain⟨a0,bc,a2,a3,g1,g2⟩:=ao;exact⟨(a0,bc,a2,a3),g1,g2⟩
  |exit i=>exact ao
  |ret=>exact ao
  |aJ x=>exact ao
end
section
variable {α β dO hK sJ:Type} {ρ:Type} {r:ρ} {N E:Nat} {st:aH} {Q:cr→aH→Prop} {x y:Code}
def aiU{cB:α→β→dO→hK→sJ→aH}{f:α→β→dO→hK→sJ→Option ρ}{a0 bc a2 a3 a4:_}(h:f a0 bc a2 a3 a4=some r)(ai:hB (cB a0 bc a2 a3 a4) st=some (cB a0 bc a2 a3 a4):=by kernel_rfl):∃a0 bc a2 a3 a4,hB (cB a0 bc a2 a3 a4) st=some (cB a0 bc a2 a3 a4)∧f a0 bc a2 a3 a4=some r:=⟨a0,bc,a2,a3,a4,ai,h⟩
def aiV(cB:α→β→dO→hK→sJ→aH)(F:Nat→α→β→dO→hK→sJ→Option ρ)(B:(α→β→dO→hK→sJ→Option ρ)→α→β→dO→hK→sJ→Option ρ){n:Nat}{a0 bc a2 a3 a4:_}(h:F n a0 bc a2 a3 a4=some r)(body:∀k a0 bc a2 a3 a4,B k a0 bc a2 a3 a4=some r→ba Tryz.prog N E x (cr.then (λbY=>∃a0 bc a2 a3 a4,hB (cB a0 bc a2 a3 a4) bY=some (cB a0 bc a2 a3 a4)∧k a0 bc a2 a3 a4=some r) Q) (cB a0 bc a2 a3 a4))(hi:hB (cB a0 bc a2 a3 a4) st=some (cB a0 bc a2 a3 a4):=by kernel_rfl)(b2:∀a0 bc a2 a3 a4,Nat.ble E (cB a0 bc a2 a3 a4).aX=true:=by intros;kernel_rfl)(h0:∀a0 bc a2 a3 a4,F 0 a0 bc a2 a3 a4=none:=by intros;rfl)(hs:∀m a0 bc a2 a3 a4,F (m+1) a0 bc a2 a3 a4=B (F m) a0 bc a2 a3 a4:=by intros;rfl):ba Tryz.prog N E (.loop x) Q st:=by
 refine ba.loop (σ:=α×β×dO×hK×sJ) (λm (s:α×β×dO×hK×sJ) st=>hB (cB s.1 s.2.1 s.2.2.1 s.2.2.2.1 s.2.2.2.2) st=some (cB s.1 s.2.1 s.2.2.1 s.2.2.2.1 s.2.2.2.2)∧F m s.1 s.2.1 s.2.2.1 s.2.2.2.1 s.2.2.2.2=some r) ?_ (n:=n) (s:=(a0,bc,a2,a3,a4)) ⟨hi,h⟩
 rintro m ⟨a0,bc,a2,a3,a4⟩ bY ⟨ai,h⟩
 cases m with
 |zero=>have aa:=(h0 a0 bc a2 a3 a4).symm.trans h;cases aa
 |succ m=>
  refine⟨m,rfl,ba.rr _ _ _ _ ai (b2 a0 bc a2 a3 a4) ((body (F m) a0 bc a2 a3 a4 ((hs m a0 bc a2 a3 a4).symm.trans h)).mono ?_)⟩
  intro fr Hz ao;cases fr with
  |normal=>obtain⟨a0,bc,a2,a3,a4,g1,g2⟩:=ao;exact⟨(a0,bc,a2,a3,a4),g1,g2⟩
  |exit i=>exact ao
  |ret=>exact ao
  |aJ x=>exact ao
end
section
variable {α β dO hK sJ at3:Type} {ρ:Type} {r:ρ} {N E:Nat} {st:aH} {Q:cr→aH→Prop} {x y:Code}
end
section
variable {aiW aiX aiY aiZ ai0 ai1 ai2 ai3 ai4 ai5 ai6 ai7 ai8 ai9 ai' ai_:Type} {ρ:Type} {r:ρ} {N E:Nat} {st:aH} {Q:cr→aH→Prop} {x y:Code}
end
section
variable {aiW aiX aiY aiZ ai0 ai1 ai2 ai3 ai4 ai5 ai6 ai7 ai8 ai9 ai' ai_ at4:Type} {ρ:Type} {r:ρ} {N E:Nat} {st:aH} {Q:cr→aH→Prop} {x y:Code}
end
end Go.Ab.Y.T
namespace Go.Ab.Y
open Go Go.Ab Go.Proofs
def HA(n:Nat)(s:au'):Option au':=av (decide (s.length≤281474976710656))<|some s
def HB(n:Nat)(s:au')(c:Int):Option Int:=some (Lib.indexByte s c.toNat.toUInt8)
def y7(n:Nat)(s:au'):Option Int:=av (decide (s.length≤140737488351232))<|some (gI s)
def CF(s:au'):Int ⊕ Int:=
 match Lib.parseIntB 64 s with
 |.ok v=>.inl v
 |.range=>.inr (Lib.intSat 64 s)
 |_=>.inr 0
def y8(n:Nat)(s:au')(base:Int)(HC:Int):Option (Int ⊕ Int):=
 av (decide (base=10∧HC=64∧s.length≤281474976710656))<|some (CF s)
def HD(n:Nat)(i:Int)(base:Int):Option au':=av (decide (base=10 ∧ -9223372036854775808≤i∧i≤9223372036854775807))<|some (Lib.itoa i)
def HE(n:Nat)(elems:List au')(sep:au'):Option au':=av (decide (elems.length≤140737488355328∧(Lib.join elems sep).length≤140737488355328))<|some (Lib.join elems sep)
open Go Go.Ab Go.Proofs
def aja{n:Nat}{s:au'}{r:au'}(h:HA n s=some r):gL Tryz.prog 369 [.v (.str s)] [] [] (.ret (.v (.str r)) none) []:=by
 unfold HA at h;obtain⟨g,h⟩:=sC h;obtain rfl:=Option.some.inj h;refine wB (fd:=Tryz.f369) Tryz.func369 rfl rfl (vsOf:=λvs=>vs=[.string ⟨⟨s⟩⟩]) (λM β vs ab ai=>?_) (λvs w au hg=>?_)
 ·match vs,ab with
  |[v],_=>
   have:=m6 (ai 0 v _ rfl rfl)
   rw [this]
 ·subst au;refine(Tryz.stringslite_Clone ⟨⟨s⟩⟩ w (show s.length≤281474976710656 from of_decide_eq_true g)).mono ?_
  rintro e w' ⟨rfl,hb⟩
  refine⟨_,rfl,λM β=>.v _ _ (.str _),λb a8 h=>?_,by rw [hb.os,hb.output]⟩
  rw [hb.block b (Array.getElem?_eq_some_iff.1 h).1];exact h
def ajb{n:Nat}{s:au'}{c:Int}{r:Int}(h:HB n s c=some r):gL Tryz.prog 395 [.v (.str s),.v (.int .u8 c)] [] [] (.ret (.v (.int .i64 r)) none) []:=by
 unfold HB at h;obtain rfl:=Option.some.inj h;refine wB (fd:=Tryz.f395) Tryz.func395 rfl rfl (vsOf:=λvs=>vs=[.string ⟨⟨s⟩⟩,.int .u8 c]) (λM β vs ab ai=>?_) (λvs w au hg=>?_)
 ·match vs,ab with
  |[v,u],_=>
   have Z:=m6 (ai 0 v _ rfl rfl);have aa:=mx (ai 1 u _ rfl rfl);rw [Z,aa]
 ·subst au;refine(Tryz.stringslite_IndexByte ⟨⟨s⟩⟩ c w).mono ?_
  rintro e w' ⟨rfl,rfl⟩
  exact⟨_,rfl,λM β=>.v _ _ (.int _ _),λb a8 h=>h,rfl⟩
def XZ{n:Nat}{s:au'}{r:Int}(h:y7 n s=some r):gL Tryz.prog 244 [.v (.str s)] [] [] (.ret (.v (.int .i64 r)) none) []:=by
 unfold y7 at h;obtain⟨g,h⟩:=sC h;obtain rfl:=Option.some.inj h;refine wB (fd:=Tryz.f244) Tryz.func244 rfl rfl (vsOf:=λvs=>vs=[.string ⟨⟨s⟩⟩]) (λM β vs ab ai=>?_) (λvs w au hg=>?_)
 ·match vs,ab with
  |[v],_=>
   have:=m6 (ai 0 v _ rfl rfl)
   rw [this]
 ·subst au;refine(aiG ⟨⟨s⟩⟩ w (show s.length≤140737488351232 from of_decide_eq_true g)).mono ?_
  rintro e w' ⟨rfl,pos,rfl⟩
  refine⟨_,rfl,λM β=>.v _ _ (.int _ _),λb a8 h=>?_,rfl⟩
  rw [World.iter,Go.RowKit.Below.heap_alloc w _ b (Array.getElem?_eq_some_iff.1 h).1];exact h
def ajc(w:World)(e:TypeId)(t:ByteArray):((Lib.bytesWorld w e t).os,(Lib.bytesWorld w e t).output)=(w.os,w.output):=by
 rw [(Lib.bytesWorld_below w e t).os,(Lib.bytesWorld_below w e t).output]
def Oy:Mq Tryz.prog=[4,5]:=by kernel_rfl
def X0{n:Nat}{s:au'}{base:Int}{HC:Int}{r:(Int ⊕ Int)}(h:y8 n s base HC=some r):gL Tryz.prog 394 [.v (.str s),.v (.int .i64 base),.v (.int .i64 HC)] [] [] (iA.on r (λX1=>.ret (.cn [.v (.int .i64 X1),.v (.jL)]) none) (λX2=>.ret (.cn [.v (.int .i64 X2),.v ((.iface 436 .any))]) none)) []:=by
 unfold y8 at h;obtain⟨g,h⟩:=sC h;obtain rfl:=Option.some.inj h;obtain⟨rfl,rfl,ab⟩:=of_decide_eq_true g
 have e5:∀(M:Mem) (β:Nat→Option Nat) (vs:List Value),vs.length=3→(∀(i:Nat) v a,vs[i]? = some v→[D.v (.str s),.v (.int .i64 10),.v (.int .i64 64)][i]? = some a→cv M β v a)→vs=[.string ⟨⟨s⟩⟩,.int .i64 10,.int .i64 64]:=by
  intro M β vs ab ai
  match vs,ab with
  |[v,u,t],_=>
   have Z:=m6 (ai 0 v _ rfl rfl);have aa:=mx (ai 1 u _ rfl rfl);have am:=mx (ai 2 t _ rfl rfl);rw [Z,aa,am]
 unfold CF;rcases hp:Lib.parseIntB 64 s with v|_|_
 ·
   refine wB (fd:=Tryz.f394) Tryz.func394 rfl rfl (vsOf:=λvs=>vs=[.string ⟨⟨s⟩⟩,.int .i64 10,.int .i64 64]) (λM β vs ab ai=>e5 M β vs ab ai) (λvs w au hg=>?_)
   subst au;refine(Tryz.strconv_ParseInt_10_at64_ok ⟨⟨s⟩⟩ (show s.length≤9223372036854775806 by omega) v hp w).mono ?_
   rintro e w' ⟨rfl,hw⟩
   refine⟨_,rfl,λM β=>.cn [_,_] _ rfl λi v c hi hc=>?_,λb a8 h=>?_,by rcases hw with rfl|⟨t,rfl⟩;rfl;exact ajc _ _ _⟩
   ·match i with
    | 0=>cases hi;cases hc;exact .v _ _ (.int _ _)
    | 1=>cases hi;cases hc;exact .v _ _ .jL
    |i+2=>simp at hi
   ·rcases hw with rfl|⟨t,rfl⟩
    ·exact h
    ·rw [Lib.bytesWorld_at_old _ _ _ _ (Array.getElem?_eq_some_iff.1 h).1];exact h
 ·
   refine wB (fd:=Tryz.f394) Tryz.func394 rfl rfl (vsOf:=λvs=>vs=[.string ⟨⟨s⟩⟩,.int .i64 10,.int .i64 64]) (λM β vs ab ai=>e5 M β vs ab ai) (λvs w au hg=>?_)
   subst au;obtain⟨fQ,Z,aa⟩:=hg.1 4 (by rw [Oy];simp)
   refine(Tryz.strconv_ParseInt_10_at64_syntax ⟨⟨s⟩⟩ ab (by constructor;intro v;rw [show Lib.parseIntB 64 (⟨⟨s⟩⟩:ByteArray).data.toList=_ from hp];intro e;cases e;rw [show Lib.parseIntB 64 (⟨⟨s⟩⟩:ByteArray).data.toList=_ from hp];intro e;cases e) fQ w Z aa).mono ?_
   rintro e w' ⟨N,rfl,aZ,iz,hb⟩
   refine⟨_,rfl,λM β=>.cn [_,_] _ rfl λi v c hi hc=>?_,λb a8 h=>?_,by rw [hb.os,hb.output]⟩
   ·match i with
    | 0=>cases hi;cases hc;exact .v _ _ (.int _ _)
    | 1=>cases hi;cases hc;exact .v _ _ (.iface _ _ _ (.any _ rfl))
    |i+2=>simp at hi
   ·rw [hb.block b (Array.getElem?_eq_some_iff.1 h).1];exact h
 ·
   refine wB (fd:=Tryz.f394) Tryz.func394 rfl rfl (vsOf:=λvs=>vs=[.string ⟨⟨s⟩⟩,.int .i64 10,.int .i64 64]) (λM β vs ab ai=>e5 M β vs ab ai) (λvs w au hg=>?_)
   subst au;obtain⟨fQ,Z,aa⟩:=hg.1 5 (by rw [Oy];simp)
   refine(Tryz.strconv_ParseInt_10_at64_range ⟨⟨s⟩⟩ ab hp fQ w Z aa).mono ?_
   rintro e w' ⟨N,rfl,aZ,iz,hb⟩
   refine⟨_,rfl,λM β=>.cn [_,_] _ rfl λi v c hi hc=>?_,λb a8 h=>?_,by rw [hb.os,hb.output]⟩
   ·match i with
    | 0=>cases hi;cases hc;exact .v _ _ (.int _ _)
    | 1=>cases hi;cases hc;exact .v _ _ (.iface _ _ _ (.any _ rfl))
    |i+2=>simp at hi
   ·rw [hb.block b (Array.getElem?_eq_some_iff.1 h).1];exact h
def HF : Tryz.prog.globalNamed "internal/strconv.uint64pow10" = some 1 := by kernel_rfl
def X3:(Lib.pow10Tab.map λz=>Value.int .u64 z).toArray=Mr:=by kernel_rfl
def ajd {w : World} (h : He Tryz.prog w) : Lib.TabIs Tryz.prog w "internal/strconv.uint64pow10" .u64 Lib.pow10Tab := by
 obtain⟨t,ld,Z⟩:=h.2 1 HF;unfold Lib.TabIs World.var?;rw [HF,Option.bind_some,Z,X3]
def aje{n:Nat}{i:Int}{base:Int}{r:au'}(h:HD n i base=some r):gL Tryz.prog 365 [.v (.int .i64 i),.v (.int .i64 base)] [] [] (.ret (.v (.str r)) none) []:=by
 unfold HD at h;obtain⟨g,h⟩:=sC h;obtain rfl:=Option.some.inj h;obtain⟨rfl,h0,Z⟩:=of_decide_eq_true g;refine wB (fd:=Tryz.f365) Tryz.func365 rfl rfl (vsOf:=λvs=>vs=[.int .i64 i,.int .i64 10]) (λM β vs ab ai=>?_) (λvs w au hg=>?_)
 ·match vs,ab with
  |[v,u],_=>
   have g1:=mx (ai 0 v _ rfl rfl);have g2:=mx (ai 1 u _ rfl rfl);rw [g1,g2]
 ·subst au;refine(Tryz.strconv_FormatInt_10 i h0 Z w (ajd hg)).mono ?_
  rintro e w' ⟨rfl,k,os,rfl⟩
  exact⟨_,rfl,λM β=>.v _ _ (.str _),λb a8 h=>(Lib.heap_grow_old w k os b (Array.getElem?_eq_some_iff.1 h).1).trans h,rfl⟩
def X4{b:List Int}(g:(nC b&&decide (b.length≤9223372036854775807))=true):b.length=(kg b).length∧∀i,i<(kg b).length→(λi=>cV (b.getD i default)) i = .int .u8 (((kg b).getD i 0).toNat:Int):=by
 simp only [Bool.and_eq_true]at g;obtain⟨Z,aa⟩:=Co g.1;exact⟨Z.symm,λi hi=>aa i (by omega)⟩
def X5{b:List Int}(g:(nC b&&decide (b.length≤9223372036854775807))=true):(kg b).length≤9223372036854775807:=by
 simp only [Bool.and_eq_true,decide_eq_true_eq]at g;rw [(Co g.1).1];exact g.2
def Oz:Go.Proofs.Builder.Extra Tryz.prog Tryz.XF where
 sizeBuilder:=by kernel_rfl
 liesBuilder:=by kernel_rfl
 t5:=Tryz.underlying5
 a5:=Tryz.isAgg5
 z5:=Tryz.sizeOf5
 v5:=Tryz.zeroValue5
 infoByte:=by kernel_rfl
 cellsByte:=by kernel_rfl
 sizeByte:=by kernel_rfl
 neB5:=by decide
def X6{n:Nat}{elems:List au'}{sep:au'}{r:au'}(h:HE n elems sep=some r):gL Tryz.prog 196 [.v (ag 1 bh elems),.v (.str sep)] [] [] (.ret (.v (.str r)) none) []:=by
 unfold HE at h;obtain⟨g,h⟩:=sC h;obtain rfl:=Option.some.inj h;obtain⟨aZ,dm⟩:=of_decide_eq_true g
 have X7:(elems.map λs=>(⟨⟨s⟩⟩:ByteArray)).map (·.data.toList)=elems:=by
  rw [List.map_map];conv=>rhs;rw [←List.map_id elems]
  rfl
 refine Xc (fd:=Tryz.f196) Tryz.func196 rfl rfl (vsOf:=λw vs=>(∃a,vs=[.slice a 0 0,.string ⟨⟨sep⟩⟩]∧elems=[])∨∃y9 o c,vs=[.slice (some ⟨y9,o,none⟩) elems.length c,.string ⟨⟨sep⟩⟩]∧elems.length≤c∧∀(j:Nat) x,elems[j]? = some x→w.cell? ⟨y9,o+j,none⟩=some (.string ⟨⟨x⟩⟩)) (λw M β vs hm ab ai=>?_) (λvs w au hg=>?_)
 ·match vs,ab with
  |[v,u],_=>
   have g2:=m6 (ai 1 u _ rfl rfl);have g1:=ai 0 v _ rfl rfl;rw [g2];rcases tX (k:=1) (n:=elems.length) (get:=λi=>bh (elems.getD i default)) g1 with⟨Z,aa⟩|⟨b,off,cap,val,Z,hc,hk,c7,gH,fX⟩
   ·rcases Z with Z|⟨a,Z⟩
    ·exact .inl ⟨none,by rw [Z],List.eq_nil_of_length_eq_zero aa⟩
    ·exact .inl ⟨some a,by rw [Z],List.eq_nil_of_length_eq_zero aa⟩
   ·refine .inr ⟨b,off,cap,by rw [Z],hc,λj x hx=>?_⟩
    have hj:j<elems.length:=(List.getElem?_eq_some_iff.1 hx).1;have e1:=hm _ _ _ (c7 j 0 hj (by omega))
    have e2:=fX j 0 (.str x) hj (by
     have:elems.getD j default=x:=by simp [List.getD,hx]
     rw [this];rfl)
    rw [show off+j*1+0=off+j by omega]at e1
    rw [e1];generalize val j 0=y at e2 ⊢
    cases e2;rfl
 ·rcases au with⟨a,rfl,rfl⟩|⟨y9,o,c,rfl,hc,sm⟩
  ·refine(Any.strings_Join_none Tryz.Oq Oz a 0 ⟨⟨sep⟩⟩ w).mono ?_
   rintro e w' ⟨rfl,rfl⟩
   exact⟨_,rfl,λM β=>.v _ _ (.str _),λb a8 h=>h,rfl⟩
  ·cases elems with
   |nil=>
    refine(Any.strings_Join_none Tryz.Oq Oz (some ⟨y9,o,none⟩) c ⟨⟨sep⟩⟩ w).mono ?_
    rintro e w' ⟨rfl,rfl⟩
    exact⟨_,rfl,λM β=>.v _ _ (.str _),λb a8 h=>h,rfl⟩
   |cons sn ajf=>
    have ajg:y9<w.heap.size:=lt_of_cell (sm 0 sn rfl)
    have hj:=Any.strings_Join Tryz.Oq Oz y9 o c ((sn::ajf).map λs=>(⟨⟨s⟩⟩:ByteArray)) ⟨⟨sep⟩⟩ w (λj x hx=>by
     rw [List.getElem?_map,Option.map_eq_some_iff]at hx;obtain⟨y,b1,rfl⟩:=hx;exact sm j y b1) ajg (by simpa using aZ) (by simpa using hc) (by rw [X7];exact dm)
    rw [List.length_map]at hj;refine hj.mono ?_
    rintro e w' ⟨rfl,hb⟩
    refine⟨_,rfl,λM β=>?_,λb a8 h=>?_,by rw [hb.os,hb.output]⟩
    ·rw [X7];exact .v _ _ (.str _)
    ·rw [hb.block b (Array.getElem?_eq_some_iff.1 h).1];exact h
end Go.Ab.Y
namespace Go.Ab.Y
open Go Go.Ab Go.Proofs T
abbrev avf{ρ:Type}(i:FuncId)(a:List D)(F:Option ρ)(o:ρ→Out):Prop:=aN i a [] [] F o λ_=>[]
abbrev avg(i:FuncId)(a:List D)(F:Option Bool):Prop:=avf i a F λr=>aO (b7 r)
abbrev avh(i:FuncId)(a:List D)(F:Option Int):Prop:=avf i a F λr=>aO (bi r)
end Go.Ab.Y

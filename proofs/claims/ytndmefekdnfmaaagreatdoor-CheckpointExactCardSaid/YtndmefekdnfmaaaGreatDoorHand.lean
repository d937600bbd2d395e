/- The types of this claim, and the contracts that were written by hand. -/
import Derived.Lib.AppendIntMem
import Derived.Test.YtndmefekdnfmaaaGreatDoorShelf
set_option linter.all false
namespace Go.Ab
abbrev YV(x:Int):Int:=IntKind.i64.wrap x
abbrev yP{α:Type}[Inhabited α](l:List α)(i:Int):α:=l.getD i.toNat default
abbrev UM:=Option Bool
abbrev YX:=Option Int
abbrev V.UQ(x:Int):V:=.int .i64 x
end Go.Ab
namespace Go.Ab.Y
open Go Go.Proofs Tryz
def h7(c:UInt8):Bool:=decide ((97<=c.toNat/\c.toNat<=122)\/(48<=c.toNat/\c.toNat<=57)\/c.toNat=95)
def jj(s:UB):Nat:=(s.takeWhile h7).length
def Uw{s:UB}{k:Nat}(b:k<=s.length)(h:∀(j:Nat) c,j<k->s[j]? = some c->h7 c=true)(d:∀c,s[k]? = some c->h7 c=false):jj s=k:=by
 unfold jj;induction s generalizing k with
 |nil=>simp at b ⊢;omega
 |cons c s f=>
  cases k with
  |zero=>
   have:=d c rfl
   simp[List.takeWhile,this]
  |succ k=>
   have e:=h 0 c (by omega) rfl
   simp only[List.takeWhile,e,mX];rw[f (by simpa using b) (λj c g a=>h (j+1) c (by omega)<|by simpa using a)<|λc a=>d c<|by simpa using a]
def Ux(s:ByteArray)(k:Nat)(h:k<s.size):s.data.toList[k]? = some (s[k]'h):=by
 have:k<s.data.toList.length:=by simpa using h
 rw[ed this];rfl
def Mt(s:ByteArray)(k:Nat):Prop:=∀(j:Nat) c,j<k->s.data.toList[j]? = some c->h7 c=true
def Mt.succ{s:ByteArray}{k:Nat}(h:Mt s k)(hk:k<s.size)(b:h7 (s[k]'hk)=true):Mt s (k+1):=by
 intro j c d a;by_cases e:j=k
 ·subst e;rw[Ux s j hk]at a;cases a;exact b
 ·exact h j c (by omega) a
set_option maxRecDepth 100000 in
def apW(s:ByteArray)(w:World)(p:s.size<=2^47-4096):
 Calls prog 193 #[.string s] w λe h=>e = .returned (.int .i64<|jj s.data.toList)/\∃l,h=w.iter s l:=by
 go_enter func193,Tryz.ntmps193
 go_wp2
 go_loopw [] (λh=>∃k:Nat,h=w.iter s k/\k<=s.size/\Mt s k) (λh=>s.size-h.iterPos w.heap.size)
 case atStart=>exact⟨0,rfl,by omega,λj c q=>by omega⟩
 case round=>
  obtain⟨k,rfl,n,b⟩:=hrel;by_cases hp:k<s.size
  ·by_cases o:(s[k]'hp).toNat<128
   ·have g:∀a,(Instr.next (.pointer<|some ⟨w.heap.size,0,none⟩) true a).run prog (w.iter s k)=_:=λa=>run_next_ascii w s k a hp o
    cases hw:h7 (s[k]'hp)
    ·have hlen:=Uw (s:=s.data.toList) (k:=k) (by simpa using n) b (λc f=>by rw[Ux s k hp]at f;cases f;exact hw)
     have f:=oU hw;clear hw
     go_wp2
     all_goals first
      |(exfalso;simp at *;omega)
      |(go_ret;exact⟨by first |rfl |(rw[hlen];rfl),_,rfl⟩)
    ·have f:=ky hw;have i:=b.succ hp hw;clear hw b
     go_wp2
     all_goals first
      |(exfalso;simp at *;omega)
      |(
       go_roundw
       case rel=>exact⟨k+1,rfl,hp,i⟩
       case measure=>simp;omega)
   ·have g:∀a,(Instr.next (.pointer<|some ⟨w.heap.size,0,none⟩) true a).run prog (w.iter s k)=_:=λa=>run_next_any w s k a hp
    have hd:=(decode_high s k hp<|by omega).1
    have m:=decode_le s k
    have hlen:=Uw (s:=s.data.toList) (k:=k) (by simpa using n) b (λc f=>by
     rw[Ux s k hp]at f;cases f;exact en<|by omega)
    generalize Utf8.decode s k=d at g hd m
    go_wp2
    all_goals first
     |(exfalso;simp at *;omega)
     |(go_ret;exact⟨by first |rfl |(rw[hlen];rfl),_,rfl⟩)
  ·have g:∀a,(Instr.next (.pointer<|some ⟨w.heap.size,0,none⟩) true a).run prog (w.iter s k)=_:=λa=>run_next_end w s k a hp
   have hlen:=Uw (s:=s.data.toList) (k:=k) (by simpa using n) b (λc f=>by
    have:=(eR.1 f).1
    simp at this;omega)
   obtain rfl:k=s.size:=by omega
   go_wp2
   go_ret
   exact⟨by first|rfl|(rw[hlen];rfl),_,rfl⟩
open Go Go.Proofs Go.RowKit Tryz
def ae4:(prog.info? 109).map (·.size)=some 2:=by kernel_rfl
set_option maxHeartbeats 1000000 in
set_option maxRecDepth 100000 in
def ae5(b:Nat)(w:World)(d:w.cell? ⟨b,0,none⟩=some (.pointer<|some ⟨b,0,none⟩)):
 Calls prog 90 #[.pointer<|some ⟨b,0,none⟩] w λe a=>e = .returned (.tuple #[])/\a=w:=by
 let⟨j,c,_⟩:=dC.1 ae4
 go_enter func90,Tryz.ntmps90
 go_wp2
 rw[Lib.run_neq_ptr_same w _ underlying106 c]
 go_wp2
 go_end0
 exact⟨rfl,rfl⟩
set_option maxHeartbeats 1000000 in
set_option maxRecDepth 100000 in
def ae6(b:Nat)(w:World)(T:TypeId)(k:Nat)(l:w.cell? ⟨b,0,none⟩=some (.pointer none))(c:w.shape? b=some (T,k))(h:0<k)(a:liesAt prog prog.depth T (k / prog.cellsOf T) 0 109 1=true)(i:w.frozen? ⟨b,0,none⟩=false):
 Calls prog 90 #[.pointer<|some ⟨b,0,none⟩] w λe g=>e = .returned (.tuple #[])/\g=w.setCell ⟨b,0,none⟩ (.pointer<|some ⟨b,0,none⟩):=by
 let⟨j,f,d⟩:=dC.1 ae4
 go_enter func90,Tryz.ntmps90
 go_wp2
 rw[Lib.run_to_unsafe w ⟨b,0,none⟩ underlying106 underlying198 f (by rw[d];decide) c h]
 simp only[Result.andThen];rw[Oper.upon_value]
 go_wp2
 rw[run_callFunc_extern func133 (by kernel_rfl) (by kernel_rfl) (by kernel_rfl) (e:=Extern.AbiNoEscape.same)<|by kernel_rfl]
 rw[Lib.run_noEscape];simp only[Result.andThen];rw[Oper.upon_value]
 go_wp2
 rw[Lib.run_from_unsafe w ⟨b,0,none⟩ underlying198 underlying106 f c a];simp only[Result.andThen];rw[Oper.upon_value]
 go_wp2
 go_end0
 exact⟨rfl,rfl⟩
def cellsByte:prog.cellsOf 5=1:=by kernel_rfl
set_option maxHeartbeats 2000000 in
set_option maxRecDepth 100000 in
def ae7(b:Nat)(w:World)(h:w.cell? ⟨b,1,none⟩=some (.slice none 0 0)):
 Calls prog 47 #[.pointer<|some ⟨b,0,none⟩] w λe a=>e = .returned (.string ⟨#[]⟩)/\a=w.drew:=by
 have c:(Builtin.unsafeString_ #[155,3] 9 #[.pointer none,.int .i64 0]).run prog w.drew = .ok (.string .empty) w.drew:=Lib.run_unsafeString_none w.drew _ _ _ none;have f:w.drew.cell? ⟨b,1,none⟩=some (.slice none 0 0):=h;have d:(Builtin.unsafeSliceData_ #[107] 155 #[.slice none 0 0]).run prog w.drew = .ok (.pointer none) w.drew:=rfl;have mixed:prog.follows .mixedOrders=true:=by kernel_rfl
 go_enter func47,Tryz.ntmps47
 go_wp2
 go_region_o
 all_goals (go_wp2;go_ret;exact⟨rfl,rfl⟩)
set_option maxHeartbeats 2000000 in
set_option maxRecDepth 100000 in
def ae8(b g cap:Nat)(w:World)(a:cap≠0)(h:w.cell? ⟨b,1,none⟩=some (.slice (some ⟨g,0,none⟩) 0 cap)):
 Calls prog 47 #[.pointer<|some ⟨b,0,none⟩] w λe c=>e = .returned (.string ⟨#[]⟩)/\c=w.drew:=by
 have d:(Builtin.unsafeString_ #[155,3] 9 #[.pointer<|some ⟨g,0,none⟩,.int .i64 0]).run prog w.drew = .ok (.string .empty) w.drew:=Lib.run_unsafeString_none w.drew _ _ _ _;have i:w.drew.cell? ⟨b,1,none⟩=some (.slice (some ⟨g,0,none⟩) 0 cap):=h;have f:(Builtin.unsafeSliceData_ #[107] 155 #[.slice (some ⟨g,0,none⟩) 0 cap]).run prog w.drew = .ok (.pointer<|some ⟨g,0,none⟩) w.drew:=Lib.run_unsafeSliceData_row _ _ _ _ _ _ a;clear a;have mixed:prog.follows .mixedOrders=true:=by kernel_rfl
 go_enter func47,Tryz.ntmps47
 go_wp2
 go_region_o
 all_goals (go_wp2;go_ret;exact⟨rfl,rfl⟩)
set_option maxHeartbeats 2000000 in
set_option maxRecDepth 100000 in
def ae9(b g:Nat)(w:World)(vs:List Value)(h:w.cell? ⟨b,1,none⟩=some (.slice (some ⟨g,0,none⟩) 0 0))(f:b<w.heap.size)(d:w.heap[g]? = some (.cells ⟨vs⟩ 5 (0,0))):
 Calls prog 47 #[.pointer<|some ⟨b,0,none⟩] w λe c=>e = .returned (.string ⟨#[]⟩)/\c=(w.drew.alloc<|.view ⟨g,0,none⟩ 5):=by
 have i:∀(q:Option Addr) (W:World),(Builtin.unsafeString_ #[155,3] 9 #[.pointer q,.int .i64 0]).run prog W = .ok (.string .empty) W:=λq W=>Lib.run_unsafeString_none W _ _ _ q
 have m:w.drew.cell? ⟨b,1,none⟩=some (.slice (some ⟨g,0,none⟩) 0 0):=h
 have j:(Builtin.unsafeSliceData_ #[107] 155 #[.slice (some ⟨g,0,none⟩) 0 0]).run prog w.drew = .ok (.pointer<|some ⟨w.drew.heap.size,0,none⟩) (w.drew.alloc<|.view ⟨g,0,none⟩ 5):=
  Lib.run_unsafeSliceData_zero w.drew _ _ 5 underlying155 ⟨g,0,none⟩ 0 (5,vs.length) (by have a:w.drew.heap[g]? = some (.cells ⟨vs⟩ 5 (0,0)):=d;simp[World.shape?,a])
 have k:(w.drew.alloc<|.view ⟨g,0,none⟩ 5).cell? ⟨b,1,none⟩=some (.slice (some ⟨g,0,none⟩) 0 0):=by
  unfold World.cell? at h ⊢;rw[show(w.drew.alloc<|.view ⟨g,0,none⟩ 5).heap[b]? = w.heap[b]? from Lib.alloc_old w.drew _ b f];exact h
 have l:(w.alloc<|.view ⟨g,0,none⟩ 5).drew.cell? ⟨b,1,none⟩=some (.slice (some ⟨g,0,none⟩) 0 0):=k;have mixed:prog.follows .mixedOrders=true:=by kernel_rfl
 go_enter func47,Tryz.ntmps47
 go_wp2
 go_region_o
 all_goals (go_wp2;go_ret;exact⟨rfl,rfl⟩)
set_option maxHeartbeats 2000000 in
set_option maxRecDepth 100000 in
def ae'(b g cap:Nat)(w:World)(vs:List Value)(l:UB)(f:l≠[])(h:w.cell? ⟨b,1,none⟩=some (.slice (some ⟨g,0,none⟩) l.length cap))(n:w.heap[g]? = some (.cells ⟨vs⟩ 5 (0,0)))
 (r:l.length<=cap) (d:cap<=vs.length) (c:l.length<=2^63-1) (o:∀(j:Nat) (x:UInt8),l[j]? = some x->vs[j]? = some (Value.int .u8 x.toNat)):
 Calls prog 47 #[.pointer<|some ⟨b,0,none⟩] w λe i=>e = .returned (.string ⟨l.toArray⟩)/\i=w.drew.freeze ⟨g,0,none⟩ l.length:=by
 have m:l.length≠0:=by simpa using f
 have s:w.drew.cell? ⟨b,1,none⟩=some (.slice (some ⟨g,0,none⟩) l.length cap):=h;have a:w.drew.heap[g]? = some (.cells ⟨vs⟩ 5 (0,0)):=n;have q:(Builtin.unsafeSliceData_ #[107] 155 #[.slice (some ⟨g,0,none⟩) l.length cap]).run prog w.drew = .ok (.pointer<|some ⟨g,0,none⟩) w.drew:=Lib.run_unsafeSliceData_row _ _ _ _ _ _ (by omega)
 have p:(Builtin.unsafeString_ #[155,3] 9 #[.pointer<|some ⟨g,0,none⟩,.int .i64 l.length]).run prog w.drew = .ok (.string ⟨l.toArray⟩) (w.drew.freeze ⟨g,0,none⟩ l.length):=
  Lib.run_unsafeString_row w.drew 155 3 9 5 underlying155 cellsByte g vs.length (by simp[World.shape?,a]) l f (by omega) c (λj x k=>by
   have:=o j x k
   rw[show(⟨g,0,none⟩:Addr).add j=⟨g,j,none⟩by unfold Addr.add;split<;>simp_all,Go.Ab.cell_of_heap a,this])
 have mixed:prog.follows .mixedOrders=true:=by kernel_rfl
 go_enter func47,Tryz.ntmps47
 go_wp2
 go_region_o
 all_goals (go_wp2;go_ret;exact⟨rfl,rfl⟩)
open Go Go.Ab Go.Proofs Tryz
abbrev aCG(x:Int):V:=.int .i32 x
abbrev aCH(x:Int):V:=.int .i64 x
abbrev aCI(x:Int):V:=.int .u32 x
abbrev aCJ(x:Int):V:=.int .u64 x
abbrev c_(x:Int):V:=.int .u8 x
def aCK{α β b:Type}{a:α}{f:α->b}{g:β->b}{r:b}(h:jt.on (.inl a) f g=r):f a=r:=h
def aCL{α β a:Type}{b:β}{f:α->a}{g:β->a}{r:a}(h:jt.on (.inr b) f g=r):g b=r:=h
abbrev aCM(x:Bool):V:=.bool x
abbrev ba(x:UB):V:=.str x
structure bJ where
 Cc:Int
 N:Int
 S:UB
instance:Inhabited bJ:=⟨⟨0,0,[]⟩⟩
def eC(x:bJ):V:=.agg [.int .i64 x.Cc,.int .i64 x.N,.str x.S]
structure Br where
 br:Int
 aY:bJ
instance:Inhabited Br:=⟨⟨0,default⟩⟩
def eu(x:Br):V:=.agg [.int .i64 x.br,.int .i64 x.aY.Cc,.int .i64 x.aY.N,.str x.aY.S]
structure Row where
 Key:UB
 aR:List Br
instance:Inhabited Row:=⟨⟨[],[]⟩⟩
def bm(x:Row):V:=.agg [.str x.Key,ai 4 eu x.aR]
structure aq where
 bu:Int
 bi:Int
 Rows:List Row
instance:Inhabited aq:=⟨⟨0,0,[]⟩⟩
def Uy(x:aq):V:=.agg [.int .i64 x.bu,.int .i64 x.bi,ai 2 bm x.Rows]
structure BM where
 BY:UB
 fT:Int
instance:Inhabited BM:=⟨⟨[],0⟩⟩
def eE(x:BM):V:=.agg [.str x.BY,.int .i64 x.fT]
structure Bi where
 Op:Int
 N:Int
 S:UB
 ax:List Bi
instance:Inhabited Bi:=⟨⟨0,0,[],[]⟩⟩
mutual
def ct:Bi->V
 |⟨Op,N,S,a⟩=>.agg [.int .i64 Op,.int .i64 N,.str S,.bP 4 a.length λi=>(GO a).getD i .hO]
def GO:List Bi->List V
 |[]=>[]
 |x::l=>ct x::GO l
end
def ae_:∀l:List Bi,GO l=l.map ct
 |[]=>rfl
 |x::l=>by rw[GO,ae_ l];rfl
def afa(l:List Bi)(i:Nat)(h:i<l.length):(GO l).getD i .hO=ct (l.getD i default):=by
 rw[ae_];simp[List.getD,ed h]
def Uz(x:Bi):lX (ct x).cells [.int .i64 x.Op,.int .i64 x.N,.str x.S,ai 4 ct x.ax]:=by
 cases x;exact .cons (jg _) (.cons (jg _)<|.cons (jg _)<|.cons (r5 λi a=>afa _ i a)<|lX.nil)
def GP(x:Bi):lX [.int .i64 x.Op,.int .i64 x.N,.str x.S,ai 4 ct x.ax] (ct x).cells:=by
 cases x;exact .cons (jg _) (.cons (jg _)<|.cons (jg _)<|.cons (r5 λi a=>(afa _ i a).symm)<|lX.nil)
def gq(x:Bi):ij (ct x) (.agg [.int .i64 x.Op,.int .i64 x.N,.str x.S,ai 4 ct x.ax]):=by
 have h:=Uz x;cases x;exact ad5 h
structure Bj where
 Op:Int
 BY:UB
 Max:Int
 A:Bi
 B:Bi
 BZ:List Bj
 b0:List Bj
instance:Inhabited Bj:=⟨⟨0,[],0,default,default,[],[]⟩⟩
mutual
def cd:Bj->V
 |⟨Op,BY,Max,A,B,BZ,a⟩=>.agg [.int .i64 Op,.str BY,.int .i64 Max,.int .i64 A.Op,.int .i64 A.N,.str A.S,ai 4 ct A.ax,.int .i64 B.Op,.int .i64 B.N,.str B.S,ai 4 ct B.ax,.bP 13 BZ.length λi=>(Cl BZ).getD i .hO,.bP 13 a.length λi=>(Cl a).getD i .hO]
def Cl:List Bj->List V
 |[]=>[]
 |x::l=>cd x::Cl l
end
def afb:∀l:List Bj,Cl l=l.map cd
 |[]=>rfl
 |x::l=>by rw[Cl,afb l];rfl
def Mu(l:List Bj)(i:Nat)(h:i<l.length):(Cl l).getD i .hO=cd (l.getD i default):=by
 rw[afb];simp[List.getD,ed h]
def apX(x:Bj):lX (cd x).cells [.int .i64 x.Op,.str x.BY,.int .i64 x.Max,.int .i64 x.A.Op,.int .i64 x.A.N,.str x.A.S,ai 4 ct x.A.ax,.int .i64 x.B.Op,.int .i64 x.B.N,.str x.B.S,ai 4 ct x.B.ax,ai 13 cd x.BZ,ai 13 cd x.b0]:=by
 cases x;exact .cons (jg _) (.cons (jg _)<|.cons (jg _)<|.cons (jg _)<|.cons (jg _)<|.cons (jg _)<|.cons (jg _)<|.cons (jg _)<|.cons (jg _)<|.cons (jg _)<|.cons (jg _)<|.cons (r5 λi a=>Mu _ i a)<|.cons (r5 λi a=>Mu _ i a)<|lX.nil)
def afc(x:Bj):lX [.int .i64 x.Op,.str x.BY,.int .i64 x.Max,.int .i64 x.A.Op,.int .i64 x.A.N,.str x.A.S,ai 4 ct x.A.ax,.int .i64 x.B.Op,.int .i64 x.B.N,.str x.B.S,ai 4 ct x.B.ax,ai 13 cd x.BZ,ai 13 cd x.b0] (cd x).cells:=by
 cases x;exact .cons (jg _) (.cons (jg _)<|.cons (jg _)<|.cons (jg _)<|.cons (jg _)<|.cons (jg _)<|.cons (jg _)<|.cons (jg _)<|.cons (jg _)<|.cons (jg _)<|.cons (jg _)<|.cons (r5 λi a=>(Mu _ i a).symm)<|.cons (r5 λi a=>(Mu _ i a).symm)<|lX.nil)
def h8(x:Bj):ij (cd x) (.agg [.int .i64 x.Op,.str x.BY,.int .i64 x.Max,.int .i64 x.A.Op,.int .i64 x.A.N,.str x.A.S,ai 4 ct x.A.ax,.int .i64 x.B.Op,.int .i64 x.B.N,.str x.B.S,ai 4 ct x.B.ax,ai 13 cd x.BZ,ai 13 cd x.b0]):=by
 have h:=apX x;cases x;exact ad5 h
structure bk where
 BY:UB
 Cq:List BM
 BZ:List Bj
instance:Inhabited bk:=⟨⟨[],[],[]⟩⟩
def cV(x:bk):V:=.agg [.str x.BY,ai 2 eE x.Cq,ai 13 cd x.BZ]
structure Bt where
 Status:Int
 Code:Int
 Out:List bJ
instance:Inhabited Bt:=⟨⟨0,0,[]⟩⟩
def YZ(x:Bt):V:=.agg [.int .i64 x.Status,.int .i64 x.Code,ai 3 eC x.Out]
structure fk where
 Et:Int
 Seq:Int
 Bt:Bt
instance:Inhabited fk:=⟨⟨0,0,default⟩⟩
def j_(x:fk):V:=.agg [.int .i64 x.Et,.int .i64 x.Seq,.int .i64 x.Bt.Status,.int .i64 x.Bt.Code,ai 3 eC x.Bt.Out]
structure b3 where
 Et:Int
 Next:Int
 ce:List fk
instance:Inhabited b3:=⟨⟨0,0,[]⟩⟩
def cJ(x:b3):V:=.agg [.int .i64 x.Et,.int .i64 x.Next,ai 5 j_ x.ce]
structure BX where
 Id:Int
 ee:UB
 Node:Int
 f0:Int
 dO:UB
instance:Inhabited BX:=⟨⟨0,[],0,0,[]⟩⟩
def cm(x:BX):V:=.agg [.int .i64 x.Id,.str x.ee,.int .i64 x.Node,.int .i64 x.f0,.str x.dO]
structure dv where
 Br:Int
 aI:List BX
instance:Inhabited dv:=⟨⟨0,[]⟩⟩
def U6(x:dv):V:=.agg [.int .i64 x.Br,ai 5 cm x.aI]
structure be where
 Key:UB
 Count:Int
instance:Inhabited be:=⟨⟨[],0⟩⟩
def c6(x:be):V:=.agg [.str x.Key,.int .i64 x.Count]
structure hQ where
 fl:Bool
 Reads:List UB
 cp:List UB
instance:Inhabited hQ:=⟨⟨false,[],[]⟩⟩
def U_(x:hQ):V:=.agg [.bool x.fl,ai 1 ba x.Reads,ai 1 ba x.cp]
structure BE where
 Et:Int
 Seq:Int
 bk:UB
 ax:List bJ
 eV:Bool
 bM:hQ
instance:Inhabited BE:=⟨⟨0,0,[],[],false,default⟩⟩
def c7(x:BE):V:=.agg [.int .i64 x.Et,.int .i64 x.Seq,.str x.bk,ai 3 eC x.ax,.bool x.eV,.bool x.bM.fl,ai 1 ba x.bM.Reads,ai 1 ba x.bM.cp]
structure bK where
 Pos:Int
 aq:aq
 bY:List bk
 b7:List b3
 EG:dv
 be:List be
 EK:List BE
 cN:Int
instance:Inhabited bK:=⟨⟨0,default,[],[],default,[],[],0⟩⟩
def afd(x:bK):V:=.agg [.int .i64 x.Pos,.int .i64 x.aq.bu,.int .i64 x.aq.bi,ai 2 bm x.aq.Rows,ai 3 cV x.bY,ai 3 cJ x.b7,.int .i64 x.EG.Br,ai 5 cm x.EG.aI,ai 2 c6 x.be,ai 8 c7 x.EK,.int .u64 x.cN]
structure aQ where
 Key:UB
 aY:bJ
instance:Inhabited aQ:=⟨⟨[],default⟩⟩
def cc(x:aQ):V:=.agg [.str x.Key,.int .i64 x.aY.Cc,.int .i64 x.aY.N,.str x.aY.S]
structure qY where
 UA:Bool
 cp:List aQ
 N:Int
instance:Inhabited qY:=⟨⟨false,[],0⟩⟩
def zh(x:qY):V:=.agg [.bool x.UA,ai 4 cc x.cp,.int .i64 x.N]
structure ej where
 br:Int
 Fa:bK
 Next:UB
 dO:Bool
 fg:List aQ
 dg:List UB
instance:Inhabited ej:=⟨⟨0,default,[],false,[],[]⟩⟩
def U7(x:ej):V:=.agg [.int .i64 x.br,.int .i64 x.Fa.Pos,.int .i64 x.Fa.aq.bu,.int .i64 x.Fa.aq.bi,ai 2 bm x.Fa.aq.Rows,ai 3 cV x.Fa.bY,ai 3 cJ x.Fa.b7,.int .i64 x.Fa.EG.Br,ai 5 cm x.Fa.EG.aI,ai 2 c6 x.Fa.be,ai 8 c7 x.Fa.EK,.int .u64 x.Fa.cN,.str x.Next,.bool x.dO,ai 4 cc x.fg,ai 1 ba x.dg]
structure Range where
 ee:UB
 qZ:UB
instance:Inhabited Range:=⟨⟨[],[]⟩⟩
def aCO(x:Range):V:=.agg [.str x.ee,.str x.qZ]
structure fQ where
 s:UB
 at_:Int
 e:Int
instance:Inhabited fQ:=⟨⟨[],0,0⟩⟩
def aCP(x:fQ):V:=.agg [.str x.s,.int .i64 x.at_,.int .i64 x.e]
structure q0 where
 g_:bK
 aEo:List aQ
 sources:List UB
instance:Inhabited q0:=⟨⟨default,[],[]⟩⟩
def aCQ(x:q0):V:=.agg [.int .i64 x.g_.Pos,.int .i64 x.g_.aq.bu,.int .i64 x.g_.aq.bi,ai 2 bm x.g_.aq.Rows,ai 3 cV x.g_.bY,ai 3 cJ x.g_.b7,.int .i64 x.g_.EG.Br,ai 5 cm x.g_.EG.aI,ai 2 c6 x.g_.be,ai 8 c7 x.g_.EK,.int .u64 x.g_.cN,ai 4 cc x.aEo,ai 1 ba x.sources]
structure cS where
 se:Bool
 Bj:Bj
 GQ:Int
 Bi:Bi
 ap1:Bool
instance:Inhabited cS:=⟨⟨false,default,0,default,false⟩⟩
def kw(x:cS):V:=.agg [.bool x.se,.int .i64 x.Bj.Op,.str x.Bj.BY,.int .i64 x.Bj.Max,.int .i64 x.Bj.A.Op,.int .i64 x.Bj.A.N,.str x.Bj.A.S,ai 4 ct x.Bj.A.ax,.int .i64 x.Bj.B.Op,.int .i64 x.Bj.B.N,.str x.Bj.B.S,ai 4 ct x.Bj.B.ax,ai 13 cd x.Bj.BZ,ai 13 cd x.Bj.b0,.int .i64 x.GQ,.int .i64 x.Bi.Op,.int .i64 x.Bi.N,.str x.Bi.S,ai 4 ct x.Bi.ax,.bool x.ap1]
structure afe where
 ap2:Int
 seq:Int
instance:Inhabited afe:=⟨⟨0,0⟩⟩
def aCR(x:afe):V:=.agg [.int .i64 x.ap2,.int .i64 x.seq]
structure Bm where
 Cc:Int
 Text:UB
 N:Int
 m5:Int
instance:Inhabited Bm:=⟨⟨0,[],0,0⟩⟩
def dn(x:Bm):V:=.agg [.int .i64 x.Cc,.str x.Text,.int .i64 x.N,.int .i64 x.m5]
structure a_ where
 Fw:List Bm
 at_:Int
instance:Inhabited a_:=⟨⟨[],0⟩⟩
def aCS(x:a_):V:=.agg [ai 4 dn x.Fw,.int .i64 x.at_]
structure aff where
 line:Int
 code:Int
instance:Inhabited aff:=⟨⟨0,0⟩⟩
def aCT(x:aff):V:=.agg [.int .i64 x.line,.int .i64 x.code]
structure mz where
 name:Bool
 a:Bool
 b:Bool
 max:Bool
 body:Bool
 other:Bool
instance:Inhabited mz:=⟨⟨false,false,false,false,false,false⟩⟩
def aCU(x:mz):V:=.agg [.bool x.name,.bool x.a,.bool x.b,.bool x.max,.bool x.body,.bool x.other]
structure mA where
 s:UB
 at_:Int
 e:Int
instance:Inhabited mA:=⟨⟨[],0,0⟩⟩
def aCV(x:mA):V:=.agg [.str x.s,.int .i64 x.at_,.int .i64 x.e]
structure q1 where
 s:UB
 at_:Int
 e:Int
instance:Inhabited q1:=⟨⟨[],0,0⟩⟩
def aCW(x:q1):V:=.agg [.str x.s,.int .i64 x.at_,.int .i64 x.e]
structure iY where
 s:UB
 at_:Int
 e:Int
instance:Inhabited iY:=⟨⟨[],0,0⟩⟩
def aCX(x:iY):V:=.agg [.str x.s,.int .i64 x.at_,.int .i64 x.e]
abbrev ka:ep:=⟨.Bv,1,8,[.kE],[]⟩
abbrev UC:ep:=⟨.int .i64,1,8,[.int .i64 0],[]⟩
abbrev afg:ep:=⟨.eh [(0,2,1),(1,3,1),(2,4,1),(3,6,1)],4,24,[.int .i64 0,.int .i64 0,.bool false,.int .u8 0],[]⟩
abbrev UD:ep:=⟨.str,1,16,[.str []],[]⟩
abbrev UE:ep:=⟨.int .u64,1,8,[.int .u64 0],[]⟩
abbrev afh:ep:=⟨.eh [(0,9,1),(1,12,1)],2,24,[.str [],.int .u64 0],[]⟩
abbrev q2:ep:=⟨.ptr,1,8,[.hO],[]⟩
abbrev afi:ep:=⟨.eh [(0,2,1),(1,2,1),(2,22,1)],3,40,[.int .i64 0,.int .i64 0,ai 2 bm []],[]⟩
abbrev Mv:ep:=⟨.eh [(0,9,1),(1,3,1),(2,42,1)],3,32,[.str [],.int .i64 0,.int .i64 0],[]⟩
def tt:dI:=[
 (1,ka),
 (2,UC),
 (3,UC),
 (4,⟨.bool,1,1,[.bool false],[]⟩),
 (5,⟨.int .u8,1,1,[.int .u8 0],[]⟩),
 (6,⟨.int .u8,1,1,[.int .u8 0],[]⟩),
 (7,afg),
 (8,afg),
 (9,UD),
 (10,UD),
 (11,UD),
 (12,UE),
 (13,afh),
 (14,afh),
 (15,q2),
 (16,q2),
 (17,q2),
 (18,⟨.eh [(0,17,1)],1,8,[.hO],[]⟩),
 (19,⟨.eh [(0,17,1)],1,8,[.hO],[]⟩),
 (20,⟨.rI,1,16,[.kj],[]⟩),
 (21,⟨.int .i32,1,4,[.int .i32 0],[]⟩),
 (22,⟨.bP 95,1,24,[ai 2 bm []],[]⟩),
 (23,afi),
 (24,afi),
 (25,⟨.bP 64,1,24,[ai 3 cV []],[]⟩),
 (26,⟨.bP 67,1,24,[ai 3 cJ []],[]⟩),
 (27,⟨.bP 133,1,24,[ai 5 cm []],[]⟩),
 (29,⟨.eh [(0,2,1),(1,27,1)],2,32,[.int .i64 0,ai 5 cm []],[]⟩),
 (30,⟨.bP 137,1,24,[ai 2 c6 []],[]⟩),
 (31,⟨.bP 73,1,24,[ai 8 c7 []],[]⟩),
 (32,UE),
 (34,⟨.eh [(0,2,1),(1,24,3),(4,25,1),(5,26,1),(6,29,2),(8,30,1),(9,31,1),(10,32,1)],11,184,[.int .i64 0,.int .i64 0,.int .i64 0,ai 2 bm [],ai 3 cV [],ai 3 cJ [],.int .i64 0,ai 5 cm [],ai 2 c6 [],ai 8 c7 [],.int .u64 0],[]⟩),
 (35,⟨.bP 46,1,24,[ai 3 zh []],[]⟩),
 (38,⟨.bP 83,1,24,[ai 4 cc []],[]⟩),
 (39,⟨.bP 9,1,24,[ai 1 ba []],[]⟩),
 (41,⟨.eh [(0,2,1),(1,34,11),(12,9,1),(13,4,1),(14,38,1),(15,39,1)],16,264,[.int .i64 0,.int .i64 0,.int .i64 0,.int .i64 0,ai 2 bm [],ai 3 cV [],ai 3 cJ [],.int .i64 0,ai 5 cm [],ai 2 c6 [],ai 8 c7 [],.int .u64 0,.str [],.bool false,ai 4 cc [],ai 1 ba []],[]⟩),
 (42,UC),
 (46,⟨.eh [(0,4,1),(1,38,1),(2,3,1)],3,40,[.bool false,ai 4 cc [],.int .i64 0],[]⟩),
 (61,⟨.bP 126,1,24,[ai 2 eE []],[]⟩),
 (62,⟨.bP 173,1,24,[ai 13 cd []],[]⟩),
 (64,⟨.eh [(0,9,1),(1,61,1),(2,62,1)],3,64,[.str [],ai 2 eE [],ai 13 cd []],[]⟩),
 (65,⟨.bP 182,1,24,[ai 5 j_ []],[]⟩),
 (67,⟨.eh [(0,3,1),(1,2,1),(2,65,1)],3,40,[.int .i64 0,.int .i64 0,ai 5 j_ []],[]⟩),
 (69,⟨.bP 81,1,24,[ai 3 eC []],[]⟩),
 (71,⟨.eh [(0,4,1),(1,39,1),(2,39,1)],3,56,[.bool false,ai 1 ba [],ai 1 ba []],[]⟩),
 (73,⟨.eh [(0,3,1),(1,2,1),(2,9,1),(3,69,1),(4,4,1),(5,71,3)],8,120,[.int .i64 0,.int .i64 0,.str [],ai 3 eC [],.bool false,.bool false,ai 1 ba [],ai 1 ba []],[]⟩),
 (81,⟨.eh [(0,3,1),(1,2,1),(2,9,1)],3,32,[.int .i64 0,.int .i64 0,.str []],[]⟩),
 (83,⟨.eh [(0,9,1),(1,81,3)],4,48,[.str [],.int .i64 0,.int .i64 0,.str []],[]⟩),
 (86,ka),
 (91,⟨.eh [(0,2,1),(1,81,3)],4,40,[.int .i64 0,.int .i64 0,.int .i64 0,.str []],[]⟩),
 (93,⟨.bP 91,1,24,[ai 4 eu []],[]⟩),
 (95,⟨.eh [(0,9,1),(1,93,1)],2,40,[.str [],ai 4 eu []],[]⟩),
 (99,⟨.eh [(0,9,1),(1,9,1)],2,32,[.str [],.str []],[]⟩),
 (106,q2),
 (107,⟨.bP 5,1,24,[ai 1 c_ []],[]⟩),
 (109,⟨.eh [(0,106,1),(1,107,1)],2,32,[.hO,ai 1 c_ []],[(0,109)]⟩),
 (111,⟨.rI,1,16,[.kj],[]⟩),
 (120,ka),
 (126,⟨.eh [(0,9,1),(1,3,1)],2,24,[.str [],.int .i64 0],[]⟩),
 (133,⟨.eh [(0,3,1),(1,9,1),(2,3,1),(3,3,1),(4,9,1)],5,56,[.int .i64 0,.str [],.int .i64 0,.int .i64 0,.str []],[]⟩),
 (137,⟨.eh [(0,9,1),(1,2,1)],2,24,[.str [],.int .i64 0],[]⟩),
 (144,ka),
 (154,UE),
 (155,q2),
 (157,ka),
 (169,⟨.bP 171,1,24,[ai 4 ct []],[]⟩),
 (171,⟨.eh [(0,3,1),(1,2,1),(2,9,1),(3,169,1)],4,56,[.int .i64 0,.int .i64 0,.str [],ai 4 ct []],[]⟩),
 (173,⟨.eh [(0,3,1),(1,9,1),(2,3,1),(3,171,4),(7,171,4),(11,62,1),(12,62,1)],13,192,[.int .i64 0,.str [],.int .i64 0,.int .i64 0,.int .i64 0,.str [],ai 4 ct [],.int .i64 0,.int .i64 0,.str [],ai 4 ct [],ai 13 cd [],ai 13 cd []],[]⟩),
 (180,⟨.eh [(0,3,1),(1,3,1),(2,69,1)],3,40,[.int .i64 0,.int .i64 0,ai 3 eC []],[]⟩),
 (182,⟨.eh [(0,3,1),(1,2,1),(2,180,3)],5,56,[.int .i64 0,.int .i64 0,.int .i64 0,.int .i64 0,ai 3 eC []],[]⟩),
 (185,q2),
 (187,Mv),
 (189,⟨.eh [(0,34,11),(11,38,1),(12,39,1)],13,232,[.int .i64 0,.int .i64 0,.int .i64 0,ai 2 bm [],ai 3 cV [],ai 3 cJ [],.int .i64 0,ai 5 cm [],ai 2 c6 [],ai 8 c7 [],.int .u64 0,ai 4 cc [],ai 1 ba []],[]⟩),
 (194,ka),
 (197,ka),
 (200,ka),
 (203,ka),
 (206,q2),
 (208,⟨.eh [(0,109,2),(2,3,1)],3,40,[.hO,ai 1 c_ [],.int .i64 0],[(0,109)]⟩),
 (218,⟨.bP 221,1,24,[ai 20 kw []],[]⟩),
 (221,⟨.eh [(0,4,1),(1,173,13),(14,3,1),(15,171,4),(19,4,1)],20,272,[.bool false,.int .i64 0,.str [],.int .i64 0,.int .i64 0,.int .i64 0,.str [],ai 4 ct [],.int .i64 0,.int .i64 0,.str [],ai 4 ct [],ai 13 cd [],ai 13 cd [],.int .i64 0,.int .i64 0,.int .i64 0,.str [],ai 4 ct [],.bool false],[]⟩),
 (224,ka),
 (225,ka),
 (227,ka),
 (229,⟨.eh [(0,227,1)],1,8,[.kE],[]⟩),
 (231,ka),
 (233,⟨.eh [(0,231,1)],1,8,[.kE],[]⟩),
 (235,ka),
 (236,⟨.eh [(0,235,1)],1,8,[.kE],[]⟩),
 (237,⟨.eh [(0,235,1)],1,8,[.kE],[]⟩),
 (240,ka),
 (242,⟨.eh [(0,240,1)],1,8,[.kE],[]⟩),
 (245,ka),
 (247,⟨.eh [(0,245,1)],1,8,[.kE],[]⟩),
 (249,ka),
 (251,⟨.eh [(0,249,1)],1,8,[.kE],[]⟩),
 (253,ka),
 (255,⟨.eh [(0,253,1)],1,8,[.kE],[]⟩),
 (258,⟨.eh [(0,157,1)],1,8,[.kE],[]⟩),
 (270,⟨.eh [(0,3,1),(1,2,1)],2,16,[.int .i64 0,.int .i64 0],[]⟩),
 (271,ka),
 (272,ka),
 (274,ka),
 (275,ka),
 (278,ka),
 (296,q2),
 (298,Mv),
 (301,q2),
 (303,Mv),
 (311,q2),
 (313,ka),
 (315,ka),
 (316,q2),
 (318,⟨.eh [(0,3,1),(1,274,1),(2,275,1)],3,24,[.int .i64 0,.kE,.kE],[]⟩),
 (321,⟨.eh [(0,4,1),(1,4,1),(2,4,1),(3,4,1),(4,4,1),(5,4,1)],6,6,[.bool false,.bool false,.bool false,.bool false,.bool false,.bool false],[]⟩),
 (336,q2),
 (338,Mv),
 (341,⟨.bP 352,1,24,[ai 4 dn []],[]⟩),
 (345,⟨.eh [(0,3,1),(1,42,1)],2,16,[.int .i64 0,.int .i64 0],[]⟩),
 (348,⟨.eh [(0,341,1),(1,3,1)],2,32,[ai 4 dn [],.int .i64 0],[]⟩),
 (352,⟨.eh [(0,3,1),(1,9,1),(2,2,1),(3,3,1)],4,40,[.int .i64 0,.str [],.int .i64 0,.int .i64 0],[]⟩)]
def eL:eP prog tt=true:=by kernel_rfl
def w4:prog.follows .mixedOrders=true:=by kernel_rfl
end Go.Ab.Y
namespace Go.Ab.Y.T
open Go Go.Ab Go.Proofs Tryz
structure aL(f:FuncId)(args:List D)(ec:List<|Nat×TypeId)(H:List<|List aS){ρ:Type}(F:Option ρ)(out:ρ->Out)(H2:ρ->List (List aS)):Prop where
 of:∀{r:ρ},F=some r->gn prog f args ec H (out r) (H2 r)
def tE(E:Nat)(a:List ResultVar){ρ:Type}(out:ρ->Out)(H2:ρ->List (List aS))(r:ρ):cA->aA->Prop:=vh tt E a λo b=>o=out r/\b=H2 r
def ig(s st:aA):Option aA:=(uX (s.env.map (·.1)) (s.H.map (·.1)) s.aD st.env st.H st.aD).map (fit s)
noncomputable abbrev fU(N:Nat)(ops:Array Oper)(a:List eT)(st:aA):=nZ (e0 prog) tt N ops.toList a st
noncomputable abbrev Mw(N:Nat)(ops:Array Oper)(a:List<|Nat×List eT)(st:aA):=qU (e0 prog) tt N ops.toList (spread ops.toList.length 0 a) st
noncomputable abbrev afj(N:Nat)(ops:Array Oper)(b:Nat)(a:List<|Nat×List eT)(st:aA):=GD (e0 prog) tt N ops.toList b (st.aD+ops.toList.length) (spread ops.toList.length 0 a) st
abbrev bo(l:List<|Nat×aS):aA:=⟨l,[],0⟩
abbrev ab(x:Int):aS:=⟨.v<|.int .i64 x,none⟩
abbrev dh(x:Bool):aS:=⟨.v<|.bool x,none⟩
abbrev aU(x:UB):aS:=⟨.v<|.str x,none⟩
abbrev al{α:Type}[Inhabited α](k:Nat)(e:α->V)(l:List α):aS:=⟨.v<|ai k e l,none⟩
abbrev aX{α:Type}[Inhabited α](k:Nat)(e:α->V)(l:List α)(t:TypeId):aS:=⟨.v<|ai k e l,some t⟩
abbrev aJ(r o:Nat):aS:=⟨.ptr r o,none⟩
abbrev eX(x:V):aS:=⟨.v x,none⟩
abbrev bg(x:Int):D:=.v (.int .i64 x)
abbrev bX(x:Bool):D:=.v (.bool x)
abbrev ci(x:UB):D:=.v (.str x)
abbrev cZ{α:Type}[Inhabited α](k:Nat)(e:α->V)(l:List α):D:=.v (ai k e l)
abbrev aM(d:D):Out:=.ret d none
def afk(n:Nat):hB (n:Int) n=true:=anA ⟨Int.natCast_nonneg n,wV _⟩
abbrev ar:=all_nil
def ad{p:Prop}{l:List Prop}(h:p)(a:iX l):iX (p::l):=⟨h,a⟩
def b4(q p:Prop):Prop:=p->q
def zi{p q:Prop}(h:b4 q p)(z:p):q:=h z
def GR{p q:Prop}(h:p->q):b4 q p:=h
section
variable {p:Prop} {N E:Nat} {st:aA} {Q:cA->aA->Prop} {next:aA->Prop} {x y:Code} {id i j:Nat} {ops:Array Oper}
def bQ(h:b4 (Q .normal st) p):b4 (cA.inBlock i Q (.exit i) st) p:=λz=>cA.aoG (h z)
def Cm(h:b4 (Q (.exit j) st) p)(a:Nat.beq j i=false:=by kernel_rfl):b4 (cA.inBlock i Q (.exit j) st) p:=λz=>cA.aoH a (h z)
def afl{r:Nat}(h:b4 (Q .ret<|GK r st) p):b4 (Uf r Q .ret st) p:=h
def bw(h:b4 (a8 prog N E x (cA.then (a8 prog N E y Q) Q) st) p):b4 (a8 prog N E (.seq x y) Q st) p:=λz=>a8.seq (h z)
def cq(h:b4 (Q .normal st) p):b4 (a8 prog N E .skip Q st) p:=λz=>a8.skip (h z)
def afm(r:Nat)(h:b4 (a8 prog N E x (Uf r Q) st) p):b4 (a8 prog N E x Q st) p:=λz=>a8.qD r (h z)
def zj(a:List Nat)(h:b4 (a8 prog N E x Q {env:=forget a st.env,H:=st.H,aD:=st.aD}) p):b4 (a8 prog N E x Q st) p:=λz=>a8.forget a (h z)
def ap3{l:Nat}(h:b4 (Q .normal st) p):b4 (a8 prog N E (.label l) Q st) p:=λz=>a8.label (h z)
def bR(h:b4 (Q (.exit i) st) p):b4 (a8 prog N E (.exit i) Q st) p:=λz=>a8.exit (h z)
def My(h:b4 (Q .ret st) p):b4 (a8 prog N E .ret Q st) p:=λz=>a8.ret (h z)
def ap4(h:b4 (a8 prog N E x Q st) p):b4 (a8 prog N E (.scope x) Q st) p:=λz=>a8.scope (h z)
def fb(h:b4 (a8 prog N E x (cA.inBlock i Q) st) p):b4 (a8 prog N E (.block i x) Q st) p:=λz=>a8.block (h z)
def e7(a:List eT){ps:List Prop}(b:iX ps)(c:b4 (Q .normal<|gc<|fU N ops a st) p)(d:ir (fU N ops a st)=some ps:=by kernel_rfl):b4 (a8 prog N E (.region id ops false) Q st) p:=λz=>a8.rg eL a d b (c z)
def bA(a:b4 (Q .normal<|gc<|fU N ops [] st) p)(b:ir (fU N ops [] st)=some []:=by kernel_rfl):b4 (a8 prog N E (.region id ops false) Q st) p:=e7 [] ar a b
def bb(a:List eT){ps:List Prop}(b:iX ps)(c:b4 (a8 prog N E y Q<|gc<|fU N ops a st) p)(d:ir (fU N ops a st)=some ps:=by kernel_rfl):b4 (a8 prog N E (.seq (.region id ops false) y) Q st) p:=bw (e7 (Q:=cA.then (a8 prog N E y Q) Q) a b c d)
def G(a:b4 (a8 prog N E y Q<|gc<|fU N ops [] st) p)(b:ir (fU N ops [] st)=some []:=by kernel_rfl):b4 (a8 prog N E (.seq (.region id ops false) y) Q st) p:=bb [] ar a b
section
variable {f:FuncId} {args:List D} {a:List (Nat×TypeId)} {H H2:List (List aS)} {out:Out}
def mB(q:gn prog f args a H out H2)(b:b4 (Q .normal<|gc<|fU N ops [aW q []] st) p)(c:ir (fU N ops [aW q []] st)=some [gn prog f args a H out H2]:=by kernel_rfl):b4 (a8 prog N E (.region id ops false) Q st) p:=e7 [aW q []] (ad q ar) b c
def l3(q:gn prog f args a H out H2)(b:b4 (Q .normal<|gc<|fU N ops [bS q []] st) p)(c:ir (fU N ops [bS q []] st)=some [gn prog f args a H out H2]:=by kernel_rfl):b4 (a8 prog N E (.region id ops false) Q st) p:=e7 [bS q []] (ad q ar) b c
def q3(q:gn prog f args a H out H2)(b:b4 (a8 prog N E y Q<|gc<|fU N ops [aW q []] st) p)(c:ir (fU N ops [aW q []] st)=some [gn prog f args a H out H2]:=by kernel_rfl):b4 (a8 prog N E (.seq (.region id ops false) y) Q st) p:=bb [aW q []] (ad q ar) b c
def gP(q:gn prog f args a H out H2)(b:b4 (a8 prog N E y Q<|gc<|fU N ops [bS q []] st) p)(c:ir (fU N ops [bS q []] st)=some [gn prog f args a H out H2]:=by kernel_rfl):b4 (a8 prog N E (.seq (.region id ops false) y) Q st) p:=bb [bS q []] (ad q ar) b c
end
def fV(a:List<|Nat×List eT){ps:List Prop}(b:iX ps)(c:b4 (Q .normal<|gc<|Mw N ops a st) p)(d:ir (Mw N ops a st)=some ps:=by kernel_rfl):b4 (a8 prog N E (.region id ops true) Q st) p:=λz=>a8.Gz eL w4 a d b (c z)
def cr(a:List<|Nat×List eT){ps:List Prop}(b:iX ps)(c:b4 (a8 prog N E y Q<|gc<|Mw N ops a st) p)(d:ir (Mw N ops a st)=some ps:=by kernel_rfl):b4 (a8 prog N E (.seq (.region id ops true) y) Q st) p:=bw (fV (Q:=cA.then (a8 prog N E y Q) Q) a b c d)
def eD(x:V)(a:List eT){ps:List Prop}(b:iX ps)(c:b4 (Q (.bv x)<|gc<|fU N ops a st) p)(d:TV (fU N ops a st)=some (x,ps):=by kernel_rfl):b4 (a8 prog N E (.region id ops false) Q st) p:=λz=>a8.TW eL a d b (c z)
def vm(b:Nat)(x:V)(a:List<|Nat×List eT){ps:List Prop}(c:iX ps)(d:∀n,b4 (Q (.bv x) {env:=[],H:=T9<|afj N ops b a st,aD:=n}) p)(e:T8 (afj N ops b a st)=some (x,ps):=by kernel_rfl):b4 (a8 prog N E (.region id ops true) Q st) p:=λz=>a8.apg eL w4 b a e c λn=>d n z
def C{α:Type}{b:Bool}{a q:Option α}{r:α}{c:Nat}(f:b4 (a8 prog N E x Q st)<|a=some r)(g:b4 (a8 prog N E y Q st)<|q=some r)(e:(look st.env c).map (·.d)=some (.v<|.bool b):=by kernel_rfl):b4 (a8 prog N E (.cond (.tmp c) x y) Q st) ((bif b then a else q)=some r):=λh=>a8.TY h e f g
def a'{z:Code}(a:b4 (a8 prog N E y (cA.then (a8 prog N E z Q) Q)<|gc<|fU N ops [] st) p)(b:ir (fU N ops [] st)=some []:=by kernel_rfl):b4 (a8 prog N E (.seq (.seq (.region id ops false) y) z) Q st) p:=bw (G a b)
def cj(h:b4 (a8 prog N E x (cA.inBlock i<|cA.then (a8 prog N E y Q) Q) st) p):b4 (a8 prog N E (.seq (.block i x) y) Q st) p:=bw (fb h)
def bO(a:b4 (a8 prog N E x (cA.inBlock i Q)<|gc<|fU N ops [] st) p)(b:ir (fU N ops [] st)=some []:=by kernel_rfl):b4 (a8 prog N E (.seq (.region id ops false)<|.block i x) Q st) p:=G (fb a) b
def bl{α:Type}{b:Bool}{a q:Option α}{r:α}{c:Nat}(f:b4 (Q .normal st)<|a=some r)(g:b4 (a8 prog N E y Q st)<|q=some r)(e:(look st.env c).map (·.d)=some (.v<|.bool b):=by kernel_rfl):b4 (a8 prog N E (.cond (.tmp c) .skip y) Q st) ((bif b then a else q)=some r):=C (cq f) g e
def UF{c:Nat}(b:b4 (a8 prog N E x Q st) p)(a:(look st.env c).map (·.d)=some (.v<|.bool true):=by kernel_rfl):b4 (a8 prog N E (.cond (.tmp c) x y) Q st) p:=λz=>a8.aeo a (b z)
def UG{c:Nat}(b:b4 (a8 prog N E y Q st) p)(a:(look st.env c).map (·.d)=some (.v<|.bool false):=by kernel_rfl):b4 (a8 prog N E (.cond (.tmp c) x y) Q st) p:=λz=>a8.TZ a (b z)
section
variable {ρ:Type} {a r:ρ} {out:ρ->Out} {H2:ρ->List (List aS)} {e:List ResultVar}
def L6(b:leave tt E e st=some (out a,H2 a):=by kernel_rfl):b4 (tE E e out H2 r .ret st) (some a=some r):=λh=>by
 obtain rfl:=ju h;exact ad3 b
def ap5(c:Nat)(b:vg tt E c e st=some (out a,H2 a):=by kernel_rfl):b4 (tE E e out H2 r .ret st) (some a=some r):=λh=>by
 obtain rfl:=ju h;exact aoJ b
def bC{Q:cA->aA->Prop}(b:tE E e out H2 r .ret st=Q .ret st:=by rfl)(c:leave tt E e st=some (out a,H2 a):=by kernel_rfl):b4 (a8 prog N E .ret Q st) (some a=some r):=My λh=>b ▸ L6 c h
def ap6(b:Nat){Q:cA->aA->Prop}(c:tE E e out H2 r .ret st=Q .ret st:=by rfl)(d:vg tt E b e st=some (out a,H2 a):=by kernel_rfl):b4 (a8 prog N E .ret Q st) (some a=some r):=My λh=>c ▸ ap5 b d h
def bp{Q:cA->aA->Prop}{id:Nat}{ops:Array Oper}(b:tE E e out H2 r .ret (gc<|fU N ops [] st)=Q .ret (gc<|fU N ops [] st):=by rfl)(d:leave tt E e (gc<|fU N ops [] st)=some (out a,H2 a):=by kernel_rfl)(c:ir (fU N ops [] st)=some []:=by kernel_rfl):b4 (a8 prog N E (.seq (.region id ops false) .ret) Q st) (some a=some r):=G (bC b d) c
def cK{Q:cA->aA->Prop}{id:Nat}{ops:Array Oper}{b:Bool}{q:Option ρ}{c:Nat}{y:Code}(l:b4 (a8 prog N E y Q st)<|q=some r)(g:tE E e out H2 r .ret (gc<|fU N ops [] st)=Q .ret (gc<|fU N ops [] st):=by rfl)(k:leave tt E e (gc<|fU N ops [] st)=some (out a,H2 a):=by kernel_rfl)(h:ir (fU N ops [] st)=some []:=by kernel_rfl)(f:(look st.env c).map (·.d)=some (.v<|.bool b):=by kernel_rfl):b4 (a8 prog N E (.cond (.tmp c) (.seq (.region id ops false) .ret) y) Q st) ((bif b then some a else q)=some r):=C (bp g k h) l f
def aV{Q:cA->aA->Prop}{id:Nat}{ops:Array Oper}{b:Bool}{q:Option ρ}{c:Nat}(l:b4 (Q .normal st)<|q=some r)(g:tE E e out H2 r .ret (gc<|fU N ops [] st)=Q .ret (gc<|fU N ops [] st):=by rfl)(k:leave tt E e (gc<|fU N ops [] st)=some (out a,H2 a):=by kernel_rfl)(h:ir (fU N ops [] st)=some []:=by kernel_rfl)(f:(look st.env c).map (·.d)=some (.v<|.bool b):=by kernel_rfl):b4 (a8 prog N E (.cond (.tmp c) (.seq (.region id ops false) .ret) .skip) Q st) ((bif b then some a else q)=some r):=cK (cq l) g k h f
def l4(b:leave tt E e st=some (out a,H2 a):=by kernel_rfl):b4 (tE E e out H2 r .normal st) (some a=some r):=λh=>by
 obtain rfl:=ju h;exact TG b
def d9{x:V}(c:(LM E st.H).map pX=some (H2 a):=by kernel_rfl)(b:out a = .bv x:=by kernel_rfl):b4 (tE E e out H2 r (.bv x) st) (some a=some r):=λh=>by
 obtain rfl:=ju h;show vh tt E e _ _ _
 rw[b];exact aoK c
end
def aN{f:FuncId}{fn:Func}{c:Code}{args:List D}{a:List (Nat×TypeId)}{H:List (List aS)}{ρ:Type}{F:Option ρ}{out:ρ->Out}{H2:ρ->List (List aS)}(k:prog.funcs[f]? = some fn)(d:fn.body=some c)
 (h : ∀ {r : ρ}, b4 (a8 prog fn.ntmps H.length c (tE H.length fn.results.toList out H2 r) { env := iW args a, H := dm 0 H, aD := H.length })<|F = some r) (b : decide (fn.name = "runtime.NumGoroutine") = false := by rfl) (e : Nat.ble args.length fn.ntmps = true := by rfl) : aL f args a H F out H2 :=
 ⟨λg=>aoI eL k d b e<|h g⟩
section
variable {α β:Type} {F:Option α} {g:α->Option β} {r:β} {f:FuncId} {args:List D} {e:List (Nat×TypeId)} {H:List (List aS)} {out:α->Out} {H2:α->List (List aS)}
def cE(c:aL f args e H F out H2)(k:∀a,b4 (a8 prog N E y Q<|gc<|fU N ops [.call (out a) none []] st)<|g a=some r)(l:∀a,ir (fU N ops [.call (out a) none []] st)=some [gn prog f args e H (out a)<|H2 a]:=by intros;kernel_rfl):b4 (a8 prog N E (.seq (.region id ops false) y) Q st) (Option.bind F g=some r):=λh=>
 let ⟨a,d,b⟩:=bind_some h
 bb [.call (out a) none []] (ad (c.of d) ar) (k a) (l a) b
def f5{z:Code}(c:aL f args e H F out H2)(b:∀a,b4 (a8 prog N E y (cA.then (a8 prog N E z Q) Q)<|gc<|fU N ops [.call (out a) none []] st)<|g a=some r)(d:∀a,ir (fU N ops [.call (out a) none []] st)=some [gn prog f args e H (out a)<|H2 a]:=by intros;kernel_rfl):b4 (a8 prog N E (.seq (.seq (.region id ops false) y) z) Q st) (Option.bind F g=some r):=bw (cE c b d)
def gr(c:aL f args e H F out H2)(k:∀a,b4 (a8 prog N E y Q<|gc<|fU N ops [.call (out a) (some<|H2 a) []] st)<|g a=some r)(l:∀a,ir (fU N ops [.call (out a) (some<|H2 a) []] st)=some [gn prog f args e H (out a)<|H2 a]:=by intros;kernel_rfl):b4 (a8 prog N E (.seq (.region id ops false) y) Q st) (Option.bind F g=some r):=λh=>
 let ⟨a,d,b⟩:=bind_some h
 bb [.call (out a) (some<|H2 a) []] (ad (c.of d) ar) (k a) (l a) b
def sf{b:Bool}{d:Option α}(c:aL f args e H F out H2)(n:∀a,b4 (a8 prog N E y Q<|gc<|fU N ops [.call (out a) none []] st)<|g a=some r)(o:∀a,ir (fU N ops [.call (out a) none []] st)=some [b=true->gn prog f args e H (out a) (H2 a)]:=by intros;kernel_rfl):b4 (a8 prog N E (.seq (.region id ops false) y) Q st) (Option.bind (bif b then F else d) g=some r):=λh=>
 let ⟨a,k,m⟩:=bind_some h
 bb [.call (out a) none []] (ad (λl=>c.of (by rw[l]at k;exact k)) ar) (n a) (o a) m
def n1{g:Bool}{a:Option β}(b:b4 (a8 prog N E y Q<|gc<|fU N ops [] st)<|a=some r)(c:ir (fU N ops [] st)=some [g=true]:=by kernel_rfl):b4 (a8 prog N E (.seq (.region id ops false) y) Q st) (ao g a=some r):=λh=>bb [] (ad (mx h).1 ar) b c (mx h).2
def fF{g:Bool}{a:Option β}(b:b4 (a8 prog N E y Q<|gc<|fU N ops [.raw] st)<|a=some r)(c:ir (fU N ops [.raw] st)=some [g=true]:=by kernel_rfl):b4 (a8 prog N E (.seq (.region id ops false) y) Q st) (ao g a=some r):=λh=>bb [.raw] (ad (mx h).1 ar) b c (mx h).2
end
end
section
variable {α β d e:Type} {p:Prop}
def dA{q:Prop}(a:p)(k:p->q):q:=k a
def w5{i:Type}{X:Option i}(c:α ⊕ β->i){x:α ⊕ β}{f:α->Option d}{g:β->Option d}{r:d}(q:X=some (c x))(j:∀a,X=some (c<|.inl a)->b4 p (f a=some r))(k:∀b,X=some (c<|.inr b)->b4 p (g b=some r)):b4 p (jt.on x f g=some r):=λh=>
 match x,q,h with
 |.inl a,q,h=>j a q h
 |.inr b,q,h=>k b q h
def jD{r:α}:b4 p (none=some r):=λh=>by cases h
def aw{b:Bool}{x:Option α}{r:α}(k:b=true->b4 p (x=some r)):b4 p (ao b x=some r):=λh=>k (mx h).1 (mx h).2
def au{x:Option α}{f:α->Option β}{r:β}(k:∀a,x=some a->b4 p (f a=some r)):b4 p (Option.bind x f=some r):=λh=>let ⟨a,c,b⟩:=bind_some h;k a c b
def el{x:Option (aG α β)}{f:α->β->Option d}{g:V->β->Option d}{r:d}(j:∀a b,x=some (.ret a b)->b4 p (f a b=some r))(k:∀y b,x=some (.bv y b)->b4 p (g y b=some r)):b4 p (Option.bind x (λz=>aG.on z f g)=some r):=λh=>
 let ⟨z,i,c⟩:=bind_some h
 match z,i,c with
 |.ret a b,i,c=>j a b i c
 |.bv y b,i,c=>k y b i c
end
section
variable {p:Prop} {ρ:Type} {r:ρ} {N E:Nat} {st:aA} {Q:cA->aA->Prop} {x y:Code}
def cM{b5:aA}{f:Option ρ}(a:ig (b5) st=some (b5):=by kernel_rfl):b4 (ig (b5) st=some (b5)/\f=some r) (f=some r):=λh=>⟨a,h⟩
def co(b5:aA)(f:Option ρ)(c:b4 (a8 prog N E x (cA.then (λa=>ig (b5) a=some (b5)/\f=some r) Q) st) p)(b:b4 (a8 prog N E y Q<|b5)<|f=some r)(d:Nat.ble E (b5).aD=true:=by intros;kernel_rfl):b4 (a8 prog N E (.seq x y) Q st) p:=λz=>
 a8.cut _ (c z) λa ⟨e,h⟩=>a8.Uh _ _ _ _ e (d) (b h)
end
section
variable {p:Prop} {α:Type} {ρ:Type} {r:ρ} {N E:Nat} {st:aA} {Q:cA->aA->Prop} {x y:Code}
def aZ{b5:α->aA}{f:α->Option ρ}{a0:_}(a:ig (b5 a0) st=some (b5 a0):=by kernel_rfl):b4 (∃a0,ig (b5 a0) st=some (b5 a0)/\f a0=some r) (f a0=some r):=λh=>⟨a0,a,h⟩
def dd(b5:α->aA)(f:α->Option ρ)(c:b4 (a8 prog N E x (cA.then (λa=>∃a0,ig (b5 a0) a=some (b5 a0)/\f a0=some r) Q) st) p)(b:∀a0,b4 (a8 prog N E y Q<|b5 a0)<|f a0=some r)(d:∀a0,Nat.ble E (b5 a0).aD=true:=by intros;kernel_rfl):b4 (a8 prog N E (.seq x y) Q st) p:=λz=>
 a8.cut _ (c z) λa ⟨a0,e,h⟩=>a8.Uh _ _ _ _ e (d a0) (b a0 h)
def dB(b5:α->aA)(F:Nat->α->Option ρ)(B:(α->Option ρ)->α->Option ρ){n:Nat}{a0:_}(b:∀k a0,b4 (a8 prog N E x (cA.then (λa=>∃a0,ig (b5 a0) a=some (b5 a0)/\k a0=some r) Q)<|b5 a0)<|B k a0=some r)(hi:ig (b5 a0) st=some (b5 a0):=by kernel_rfl)(o:∀a0,Nat.ble E (b5 a0).aD=true:=by intros;kernel_rfl)(f:∀a0,F 0 a0=none:=by intros;rfl)(d:∀m a0,F (m+1) a0=B (F m) a0:=by intros;rfl):b4 (a8 prog N E (.loop x) Q st) (F n a0=some r):=by
 intro h;refine a8.loop (σ:=α) (λm (s:α) st=>ig (b5 s) st=some (b5 s)/\F m s=some r) ?_ (n:=n) (s:=a0) ⟨hi,h⟩
 rintro m a0 a ⟨q,h⟩
 cases m with
 |zero=>have e:=(f a0).symm.trans h;cases e
 |succ m=>
  refine⟨m,rfl,a8.Uh _ _ _ _ q (o a0)<|(b (F m) a0<|(d m a0).symm.trans h).mono ?_⟩
  intro l t c;cases l with
  |normal=>let⟨a0,j,g⟩:=c;exact⟨a0,j,g⟩
  |exit i=>exact c
  |ret=>exact c
  |bv x=>exact c
end
def vn{Q:cA->aA->Prop}{A B:aA->Prop}(h:∀st,A st->B st):∀a st,cA.then A Q a st->cA.then B Q a st:=λa st b=>by cases a<;>first|exact h _ b|exact b
section
variable {p:Prop} {α β:Type} {ρ:Type} {r:ρ} {N E:Nat} {st:aA} {Q:cA->aA->Prop} {x y:Code}
def dG{b5:α->β->aA}{f:α->β->Option ρ}{a0 a:_}(b:ig (b5 a0 a) st=some (b5 a0 a):=by kernel_rfl):b4 (∃a0 a,ig (b5 a0 a) st=some (b5 a0 a)/\f a0 a=some r) (f a0 a=some r):=λh=>⟨a0,a,b,h⟩
def oG(b5:α->β->aA)(f:α->β->Option ρ)(d:b4 (a8 prog N E x (cA.then (λb=>∃a0 a,ig (b5 a0 a) b=some (b5 a0 a)/\f a0 a=some r) Q) st) p)(c:∀a0 a,b4 (a8 prog N E y Q<|b5 a0 a)<|f a0 a=some r)(e:∀a0 a,Nat.ble E (b5 a0 a).aD=true:=by intros;kernel_rfl):b4 (a8 prog N E (.seq x y) Q st) p:=
 dd (λx:α×β=>b5 x.1 x.2) (λx=>f x.1 x.2) (λz=>(d z).mono<|vn λ_ ⟨a0,a,g⟩=>⟨(a0,a),g⟩) (λx=>c x.1 x.2) λx=>e x.1 x.2
def fm(b5:α->β->aA)(F:Nat->α->β->Option ρ)(B:(α->β->Option ρ)->α->β->Option ρ){n:Nat}{a0 a:_}(b:∀k a0 a,b4 (a8 prog N E x (cA.then (λc=>∃a0 a,ig (b5 a0 a) c=some (b5 a0 a)/\k a0 a=some r) Q)<|b5 a0 a)<|B k a0 a=some r)(hi:ig (b5 a0 a) st=some (b5 a0 a):=by kernel_rfl)(f:∀a0 a,Nat.ble E (b5 a0 a).aD=true:=by intros;kernel_rfl)(e:∀a0 a,F 0 a0 a=none:=by intros;rfl)(d:∀m a0 a,F (m+1) a0 a=B (F m) a0 a:=by intros;rfl):b4 (a8 prog N E (.loop x) Q st) (F n a0 a=some r):=
 dB (λx:α×β=>b5 x.1 x.2) (λm x=>F m x.1 x.2) (λk x=>B (λa0 a=>k (a0,a)) x.1 x.2) (a0:=(a0,a)) (λk x h=>(b (λa0 a=>k (a0,a)) x.1 x.2 h).mono<|vn λ_ ⟨a0,a,g⟩=>⟨(a0,a),g⟩) hi (λx=>f x.1 x.2) (λx=>e x.1 x.2) λm x=>d m x.1 x.2
end
section
variable {p:Prop} {α β a:Type} {ρ:Type} {r:ρ} {N E:Nat} {st:aA} {Q:cA->aA->Prop} {x y:Code}
def jw{b5:α->β->a->aA}{f:α->β->a->Option ρ}{a0 c b:_}(d:ig (b5 a0 c b) st=some (b5 a0 c b):=by kernel_rfl):b4 (∃a0 c b,ig (b5 a0 c b) st=some (b5 a0 c b)/\f a0 c b=some r) (f a0 c b=some r):=λh=>⟨a0,c,b,d,h⟩
def tF(b5:α->β->a->aA)(f:α->β->a->Option ρ)(h:b4 (a8 prog N E x (cA.then (λd=>∃a0 c b,ig (b5 a0 c b) d=some (b5 a0 c b)/\f a0 c b=some r) Q) st) p)(e:∀a0 c b,b4 (a8 prog N E y Q<|b5 a0 c b)<|f a0 c b=some r)(i:∀a0 c b,Nat.ble E (b5 a0 c b).aD=true:=by intros;kernel_rfl):b4 (a8 prog N E (.seq x y) Q st) p:=
 dd (λx:α×β×a=>b5 x.1 x.2.1 x.2.2) (λx=>f x.1 x.2.1 x.2.2) (λz=>(h z).mono<|vn λ_ ⟨a0,c,b,g⟩=>⟨(a0,c,b),g⟩) (λx=>e x.1 x.2.1 x.2.2) λx=>i x.1 x.2.1 x.2.2
def Cn(b5:α->β->a->aA)(F:Nat->α->β->a->Option ρ)(B:(α->β->a->Option ρ)->α->β->a->Option ρ){n:Nat}{a0 c b:_}(d:∀k a0 c b,b4 (a8 prog N E x (cA.then (λe=>∃a0 c b,ig (b5 a0 c b) e=some (b5 a0 c b)/\k a0 c b=some r) Q)<|b5 a0 c b)<|B k a0 c b=some r)(hi:ig (b5 a0 c b) st=some (b5 a0 c b):=by kernel_rfl)(j:∀a0 c b,Nat.ble E (b5 a0 c b).aD=true:=by intros;kernel_rfl)(i:∀a0 c b,F 0 a0 c b=none:=by intros;rfl)(f:∀m a0 c b,F (m+1) a0 c b=B (F m) a0 c b:=by intros;rfl):b4 (a8 prog N E (.loop x) Q st) (F n a0 c b=some r):=
 dB (λx:α×β×a=>b5 x.1 x.2.1 x.2.2) (λm x=>F m x.1 x.2.1 x.2.2) (λk x=>B (λa0 c b=>k (a0,c,b)) x.1 x.2.1 x.2.2) (a0:=(a0,c,b)) (λk x h=>(d (λa0 c b=>k (a0,c,b)) x.1 x.2.1 x.2.2 h).mono<|vn λ_ ⟨a0,c,b,g⟩=>⟨(a0,c,b),g⟩) hi (λx=>j x.1 x.2.1 x.2.2) (λx=>i x.1 x.2.1 x.2.2) λm x=>f m x.1 x.2.1 x.2.2
end
section
variable {p:Prop} {α β b a:Type} {ρ:Type} {r:ρ} {N E:Nat} {st:aA} {Q:cA->aA->Prop} {x y:Code}
def sg{b5:α->β->b->a->aA}{f:α->β->b->a->Option ρ}{a0 e d c:_}(g:ig (b5 a0 e d c) st=some (b5 a0 e d c):=by kernel_rfl):b4 (∃a0 e d c,ig (b5 a0 e d c) st=some (b5 a0 e d c)/\f a0 e d c=some r) (f a0 e d c=some r):=λh=>⟨a0,e,d,c,g,h⟩
def ap7(b5:α->β->b->a->aA)(f:α->β->b->a->Option ρ)(j:b4 (a8 prog N E x (cA.then (λh=>∃a0 e d c,ig (b5 a0 e d c) h=some (b5 a0 e d c)/\f a0 e d c=some r) Q) st) p)(i:∀a0 e d c,b4 (a8 prog N E y Q<|b5 a0 e d c)<|f a0 e d c=some r)(k:∀a0 e d c,Nat.ble E (b5 a0 e d c).aD=true:=by intros;kernel_rfl):b4 (a8 prog N E (.seq x y) Q st) p:=
 dd (λx:α×β×b×a=>b5 x.1 x.2.1 x.2.2.1 x.2.2.2) (λx=>f x.1 x.2.1 x.2.2.1 x.2.2.2) (λz=>(j z).mono<|vn λ_ ⟨a0,e,d,c,g⟩=>⟨(a0,e,d,c),g⟩) (λx=>i x.1 x.2.1 x.2.2.1 x.2.2.2) λx=>k x.1 x.2.1 x.2.2.1 x.2.2.2
def vp(b5:α->β->b->a->aA)(F:Nat->α->β->b->a->Option ρ)(B:(α->β->b->a->Option ρ)->α->β->b->a->Option ρ){n:Nat}{a0 e d c:_}(f:∀k a0 e d c,b4 (a8 prog N E x (cA.then (λi=>∃a0 e d c,ig (b5 a0 e d c) i=some (b5 a0 e d c)/\k a0 e d c=some r) Q)<|b5 a0 e d c)<|B k a0 e d c=some r)(hi:ig (b5 a0 e d c) st=some (b5 a0 e d c):=by kernel_rfl)(o:∀a0 e d c,Nat.ble E (b5 a0 e d c).aD=true:=by intros;kernel_rfl)(l:∀a0 e d c,F 0 a0 e d c=none:=by intros;rfl)(j:∀m a0 e d c,F (m+1) a0 e d c=B (F m) a0 e d c:=by intros;rfl):b4 (a8 prog N E (.loop x) Q st) (F n a0 e d c=some r):=
 dB (λx:α×β×b×a=>b5 x.1 x.2.1 x.2.2.1 x.2.2.2) (λm x=>F m x.1 x.2.1 x.2.2.1 x.2.2.2) (λk x=>B (λa0 e d c=>k (a0,e,d,c)) x.1 x.2.1 x.2.2.1 x.2.2.2) (a0:=(a0,e,d,c)) (λk x h=>(f (λa0 e d c=>k (a0,e,d,c)) x.1 x.2.1 x.2.2.1 x.2.2.2 h).mono<|vn λ_ ⟨a0,e,d,c,g⟩=>⟨(a0,e,d,c),g⟩) hi (λx=>o x.1 x.2.1 x.2.2.1 x.2.2.2) (λx=>l x.1 x.2.1 x.2.2.1 x.2.2.2) λm x=>j m x.1 x.2.1 x.2.2.1 x.2.2.2
end
section
variable {p:Prop} {α β c b a:Type} {ρ:Type} {r:ρ} {N E:Nat} {st:aA} {Q:cA->aA->Prop} {x y:Code}
def GS{b5:α->β->c->b->a->aA}{f:α->β->c->b->a->Option ρ}{a0 i g e d:_}(j:ig (b5 a0 i g e d) st=some (b5 a0 i g e d):=by kernel_rfl):b4 (∃a0 i g e d,ig (b5 a0 i g e d) st=some (b5 a0 i g e d)/\f a0 i g e d=some r) (f a0 i g e d=some r):=λh=>⟨a0,i,g,e,d,j,h⟩
def afo(b5:α->β->c->b->a->aA)(f:α->β->c->b->a->Option ρ)(l:b4 (a8 prog N E x (cA.then (λj=>∃a0 i h e d,ig (b5 a0 i h e d) j=some (b5 a0 i h e d)/\f a0 i h e d=some r) Q) st) p)(k:∀a0 i h e d,b4 (a8 prog N E y Q<|b5 a0 i h e d)<|f a0 i h e d=some r)(m:∀a0 i h e d,Nat.ble E (b5 a0 i h e d).aD=true:=by intros;kernel_rfl):b4 (a8 prog N E (.seq x y) Q st) p:=
 dd (λx:α×β×c×b×a=>b5 x.1 x.2.1 x.2.2.1 x.2.2.2.1 x.2.2.2.2) (λx=>f x.1 x.2.1 x.2.2.1 x.2.2.2.1 x.2.2.2.2) (λz=>(l z).mono<|vn λ_ ⟨a0,i,h,e,d,g⟩=>⟨(a0,i,h,e,d),g⟩) (λx=>k x.1 x.2.1 x.2.2.1 x.2.2.2.1 x.2.2.2.2) λx=>m x.1 x.2.1 x.2.2.1 x.2.2.2.1 x.2.2.2.2
def ap8(b5:α->β->c->b->a->aA)(F:Nat->α->β->c->b->a->Option ρ)(B:(α->β->c->b->a->Option ρ)->α->β->c->b->a->Option ρ){n:Nat}{a0 i f e d:_}(j:∀k a0 i f e d,b4 (a8 prog N E x (cA.then (λl=>∃a0 i f e d,ig (b5 a0 i f e d) l=some (b5 a0 i f e d)/\k a0 i f e d=some r) Q)<|b5 a0 i f e d)<|B k a0 i f e d=some r)(hi:ig (b5 a0 i f e d) st=some (b5 a0 i f e d):=by kernel_rfl)(s:∀a0 i f e d,Nat.ble E (b5 a0 i f e d).aD=true:=by intros;kernel_rfl)(q:∀a0 i f e d,F 0 a0 i f e d=none:=by intros;rfl)(o:∀m a0 i f e d,F (m+1) a0 i f e d=B (F m) a0 i f e d:=by intros;rfl):b4 (a8 prog N E (.loop x) Q st) (F n a0 i f e d=some r):=
 dB (λx:α×β×c×b×a=>b5 x.1 x.2.1 x.2.2.1 x.2.2.2.1 x.2.2.2.2) (λm x=>F m x.1 x.2.1 x.2.2.1 x.2.2.2.1 x.2.2.2.2) (λk x=>B (λa0 i f e d=>k (a0,i,f,e,d)) x.1 x.2.1 x.2.2.1 x.2.2.2.1 x.2.2.2.2) (a0:=(a0,i,f,e,d)) (λk x h=>(j (λa0 i f e d=>k (a0,i,f,e,d)) x.1 x.2.1 x.2.2.1 x.2.2.2.1 x.2.2.2.2 h).mono<|vn λ_ ⟨a0,i,f,e,d,g⟩=>⟨(a0,i,f,e,d),g⟩) hi (λx=>s x.1 x.2.1 x.2.2.1 x.2.2.2.1 x.2.2.2.2) (λx=>q x.1 x.2.1 x.2.2.1 x.2.2.2.1 x.2.2.2.2) λm x=>o m x.1 x.2.1 x.2.2.1 x.2.2.2.1 x.2.2.2.2
end
section
variable {p:Prop} {α β d b a c:Type} {ρ:Type} {r:ρ} {N E:Nat} {st:aA} {Q:cA->aA->Prop} {x y:Code}
def ap9{b5:α->β->d->b->a->c->aA}{f:α->β->d->b->a->c->Option ρ}{a0 k j i g e:_}(l:ig (b5 a0 k j i g e) st=some (b5 a0 k j i g e):=by kernel_rfl):b4 (∃a0 k j i g e,ig (b5 a0 k j i g e) st=some (b5 a0 k j i g e)/\f a0 k j i g e=some r) (f a0 k j i g e=some r):=λh=>⟨a0,k,j,i,g,e,l,h⟩
def ap'(b5:α->β->d->b->a->c->aA)(F:Nat->α->β->d->b->a->c->Option ρ)(B:(α->β->d->b->a->c->Option ρ)->α->β->d->b->a->c->Option ρ){n:Nat}{a0 l j i f e:_}(o:∀k a0 l j i f e,b4 (a8 prog N E x (cA.then (λq=>∃a0 l j i f e,ig (b5 a0 l j i f e) q=some (b5 a0 l j i f e)/\k a0 l j i f e=some r) Q)<|b5 a0 l j i f e)<|B k a0 l j i f e=some r)(hi:ig (b5 a0 l j i f e) st=some (b5 a0 l j i f e):=by kernel_rfl)(u:∀a0 l j i f e,Nat.ble E (b5 a0 l j i f e).aD=true:=by intros;kernel_rfl)(t:∀a0 l j i f e,F 0 a0 l j i f e=none:=by intros;rfl)(s:∀m a0 l j i f e,F (m+1) a0 l j i f e=B (F m) a0 l j i f e:=by intros;rfl):b4 (a8 prog N E (.loop x) Q st) (F n a0 l j i f e=some r):=
 dB (λx:α×β×d×b×a×c=>b5 x.1 x.2.1 x.2.2.1 x.2.2.2.1 x.2.2.2.2.1 x.2.2.2.2.2) (λm x=>F m x.1 x.2.1 x.2.2.1 x.2.2.2.1 x.2.2.2.2.1 x.2.2.2.2.2) (λk x=>B (λa0 l j i f e=>k (a0,l,j,i,f,e)) x.1 x.2.1 x.2.2.1 x.2.2.2.1 x.2.2.2.2.1 x.2.2.2.2.2) (a0:=(a0,l,j,i,f,e)) (λk x h=>(o (λa0 l j i f e=>k (a0,l,j,i,f,e)) x.1 x.2.1 x.2.2.1 x.2.2.2.1 x.2.2.2.2.1 x.2.2.2.2.2 h).mono<|vn λ_ ⟨a0,l,j,i,f,e,g⟩=>⟨(a0,l,j,i,f,e),g⟩) hi (λx=>u x.1 x.2.1 x.2.2.1 x.2.2.2.1 x.2.2.2.2.1 x.2.2.2.2.2) (λx=>t x.1 x.2.1 x.2.2.1 x.2.2.2.1 x.2.2.2.2.1 x.2.2.2.2.2) λm x=>s m x.1 x.2.1 x.2.2.1 x.2.2.2.1 x.2.2.2.2.1 x.2.2.2.2.2
end
end Go.Ab.Y.T
namespace Go.Ab.Y
open Go Go.Ab Go.Proofs Tryz
def MA(n:Nat)(s:UB):Option UB:=ao (decide<|s.length<=2^48)<|some s
def MB(n:Nat)(s:UB)(c:Int):Option Int:=some (Lib.indexByte s c.toNat.toUInt8)
def Co(n:Nat)(s:UB):Option Int:=ao (decide<|s.length<=2^47-4096)<|some (jj s)
def GT(s:UB):Int ⊕ Int:=
 match Lib.parseIntB 64 s with
 |.ok v=>.inl v
 |.range=>.inr<|Lib.intSat 64 s
 |_=>.inr 0
def Cp(n:Nat)(s:UB)(base a:Int):Option (Int ⊕ Int):=
 ao (decide<|base=10/\a=64/\s.length<=2^48)<|some (GT s)
def MD(n:Nat)(i base:Int):Option UB:=ao (decide<|base=10 /\ -9223372036854775808<=i/\i<=2^63-1)<|some (Lib.itoa i)
def ME(n:Nat)(elems:List UB)(sep:UB):Option UB:=ao (decide<|elems.length<=140737488355328/\(Lib.join elems sep).length<=140737488355328)<|some (Lib.join elems sep)
def zl(R:List Row):Bool:=room R.length 40&&R.all λr=>room r.aR.length 40
def w6(c:List Row->UB->Option (Int×Bool))(val:Row->Int->Option bJ)(a b:Int):List aQ->List Row->Option (List Row)
 |[],R=>some R
 |p::l,R=>Option.bind (c R p.Key) λr=>
  bif r.2 then ao (aP r.1 R.length)<|Option.bind (val (R.getD r.1.toNat default) b) λv=>
   bif decide (v.Cc=p.aY.Cc)&&(decide (v.N=p.aY.N)&&(decide (v.S=p.aY.S)&&true))then w6 c val a b l R
   else ao (room ((R.getD r.1.toNat default).aR.length+1) 40)<|w6 c val a b l (R.set r.1.toNat ⟨(R.getD r.1.toNat default).Key,(R.getD r.1.toNat default).aR++[⟨a,p.aY⟩]⟩)
  else bif decide (p.aY.Cc=0)then w6 c val a b l R
  else ao (hB r.1 R.length)<|ao (room (R.length+1) 40)<|w6 c val a b l (R.take r.1.toNat++⟨p.Key,[⟨a,p.aY⟩]⟩::R.drop r.1.toNat)
open Go Go.Ab Go.Proofs Tryz
def ap_{n:Nat}{s r:UB}(h:MA n s=some r):gn prog 306 [.v<|.str s] [] [] (.ret (.v<|.str r) none) []:=by
 unfold MA at h;let⟨g,h⟩:=mx h;obtain rfl:=ju h;refine y3 (fd:=Tryz.f306) func306 rfl rfl (vsOf:=λa=>a=[.string ⟨⟨s⟩⟩]) (λM β a f af=>?_)<|λa w d j=>?_
 ·match a,f with
  |[v],_=>
   have:=np<|af 0 v _ rfl rfl
   rw[this]
 ·subst d;refine(Tryz.stringslite_Clone ⟨⟨s⟩⟩ w (show s.length<=2^48 from ky g)).mono ?_
  rintro e i ⟨rfl,c⟩
  refine⟨_,rfl,λM β=>.v _ _<|.str _,λb k h=>?_,by rw[c.os,c.output]⟩
  rw[c.block b (fy.1 h).1];exact h
def aqa{n:Nat}{s:UB}{c r:Int}(h:MB n s c=some r):gn prog 324 [.v<|.str s,.v<|.int .u8 c] [] [] (.ret (.v<|.int .i64 r) none) []:=by
 unfold MB at h;obtain rfl:=ju h;refine y3 (fd:=Tryz.f324) func324 rfl rfl (vsOf:=λa=>a=[.string ⟨⟨s⟩⟩,.int .u8 c]) (λM β a i af=>?_)<|λa w d k=>?_
 ·match a,i with
  |[v,u],_=>
   have g:=np<|af 0 v _ rfl rfl;have f:=jC<|af 1 u _ rfl rfl;rw[g,f]
 ·subst d;refine(Tryz.stringslite_IndexByte ⟨⟨s⟩⟩ c w).mono ?_
  rintro e j ⟨rfl,rfl⟩
  exact⟨_,rfl,λM β=>.v _ _<|.int _ _,λb l h=>h,rfl⟩
def afp{n:Nat}{s:UB}{r:Int}(h:Co n s=some r):gn prog 193 [.v<|.str s] [] [] (.ret (.v<|.int .i64 r) none) []:=by
 unfold Co at h;let⟨g,h⟩:=mx h;obtain rfl:=ju h;refine y3 (fd:=Tryz.f193) func193 rfl rfl (vsOf:=λa=>a=[.string ⟨⟨s⟩⟩]) (λM β a f af=>?_)<|λa w d j=>?_
 ·match a,f with
  |[v],_=>
   have:=np<|af 0 v _ rfl rfl
   rw[this]
 ·subst d;refine(apW ⟨⟨s⟩⟩ w (show s.length<=2^47-4096 from ky g)).mono ?_
  rintro e i ⟨rfl,c,rfl⟩
  refine⟨_,rfl,λM β=>.v _ _<|.int _ _,λb k h=>?_,rfl⟩
  rw[World.iter,Go.RowKit.Below.heap_alloc w _ b (fy.1 h).1];exact h
def aqb(w:World)(e:TypeId)(t:ByteArray):((Lib.bytesWorld w e t).os,(Lib.bytesWorld w e t).output)=(w.os,w.output):=by
 rw[(Lib.bytesWorld_below w e t).os,(Lib.bytesWorld_below w e t).output]
def UH:Sm prog=[4,5]:=by kernel_rfl
def afq{n:Nat}{s:UB}{base F:Int}{r:(Int ⊕ Int)}(h:Cp n s base F=some r):gn prog 323 [.v<|.str s,.v<|.int .i64 base,.v<|.int .i64 F] [] [] (jt.on r (λz=>.ret (.cw [.v<|.int .i64 z,.v<|.kj]) none)<|λy=>.ret (.cw [.v<|.int .i64 y,.v<|(.iface 394 .any)]) none) []:=by
 unfold Cp at h;let⟨g,h⟩:=mx h;obtain rfl:=ju h;obtain⟨rfl,rfl,f⟩:=ky g
 have x:∀(M:Mem) (β:Nat->Option Nat) (vs:List Value),vs.length=3->(∀(i:Nat) v a,vs[i]? = some v->[D.v<|.str s,.v<|.int .i64 10,.v<|.int .i64 64][i]? = some a->cg M β v a)->vs=[.string ⟨⟨s⟩⟩,.int .i64 10,.int .i64 64]:=by
  intro M β vs f af
  match vs,f with
  |[v,u,t],_=>
   have o:=np<|af 0 v _ rfl rfl;have m:=jC<|af 1 u _ rfl rfl;have I:=jC<|af 2 t _ rfl rfl;rw[o,m,I]
 unfold GT;rcases hp:Lib.parseIntB 64 s with v|_|_
 ·
   refine y3 (fd:=Tryz.f323) func323 rfl rfl (vsOf:=λvs=>vs=[.string ⟨⟨s⟩⟩,.int .i64 10,.int .i64 64]) (λM β vs f af=>x M β vs f af)<|λvs w l p=>?_
   subst l;refine(Tryz.strconv_ParseInt_10_at64_ok ⟨⟨s⟩⟩ (show s.length<=2^63-2 by omega) v hp w).mono ?_
   rintro e A ⟨rfl,B⟩
   refine⟨_,rfl,λM β=>.cw [_,_] _ rfl λi v c d j=>?_,λb E h=>?_,by rcases B with rfl|⟨t,rfl⟩;rfl;exact aqb _ _ _⟩
   ·match i with
    | 0=>cases d;cases j;exact .v _ _<|.int _ _
    | 1=>cases d;cases j;exact .v _ _ .kj
    |i+2=>simp at d
   ·rcases B with rfl|⟨t,rfl⟩
    ·exact h
    ·rw[Lib.bytesWorld_at_old _ _ _ _ (fy.1 h).1];exact h
 ·
   refine y3 (fd:=Tryz.f323) func323 rfl rfl (vsOf:=λvs=>vs=[.string ⟨⟨s⟩⟩,.int .i64 10,.int .i64 64]) (λM β vs f af=>x M β vs f af)<|λvs w l p=>?_
   subst l;let⟨q,o,m⟩:=p.1 4 (by rw[UH];simp)
   refine(Tryz.strconv_ParseInt_10_at64_syntax ⟨⟨s⟩⟩ f (by constructor;intro v;rw[show Lib.parseIntB 64 (⟨⟨s⟩⟩:ByteArray).data.toList=_ from hp];intro e;cases e;rw[show Lib.parseIntB 64 (⟨⟨s⟩⟩:ByteArray).data.toList=_ from hp];intro e;cases e) q w o m).mono ?_
   rintro e A ⟨N,rfl,J,H,k⟩
   refine⟨_,rfl,λM β=>.cw [_,_] _ rfl λi v c d j=>?_,λb E h=>?_,by rw[k.os,k.output]⟩
   ·match i with
    | 0=>cases d;cases j;exact .v _ _<|.int _ _
    | 1=>cases d;cases j;exact .v _ _<|.iface _ _ _<|.any _ rfl
    |i+2=>simp at d
   ·rw[k.block b (fy.1 h).1];exact h
 ·
   refine y3 (fd:=Tryz.f323) func323 rfl rfl (vsOf:=λvs=>vs=[.string ⟨⟨s⟩⟩,.int .i64 10,.int .i64 64]) (λM β vs f af=>x M β vs f af)<|λvs w l p=>?_
   subst l;let⟨q,o,m⟩:=p.1 5 (by rw[UH];simp)
   refine(Tryz.strconv_ParseInt_10_at64_range ⟨⟨s⟩⟩ f hp q w o m).mono ?_
   rintro e A ⟨N,rfl,J,H,k⟩
   refine⟨_,rfl,λM β=>.cw [_,_] _ rfl λi v c d j=>?_,λb E h=>?_,by rw[k.os,k.output]⟩
   ·match i with
    | 0=>cases d;cases j;exact .v _ _<|.int _ _
    | 1=>cases d;cases j;exact .v _ _<|.iface _ _ _<|.any _ rfl
    |i+2=>simp at d
   ·rw[k.block b (fy.1 h).1];exact h
def MF : prog.globalNamed "internal/strconv.uint64pow10" = some 1 := by kernel_rfl
def aft:(Lib.pow10Tab.map λz=>Value.int .u64 z).toArray=Sn:=by kernel_rfl
def aqc {w : World} (h : L7 prog w) : Lib.TabIs prog w "internal/strconv.uint64pow10" .u64 Lib.pow10Tab := by
 let⟨t,b,a⟩:=h.2 1 MF;unfold Lib.TabIs World.var?;rw[MF,sO,a,aft]
def aqd{n:Nat}{i base:Int}{r:UB}(h:MD n i base=some r):gn prog 300 [.v<|.int .i64 i,.v<|.int .i64 base] [] [] (.ret (.v<|.str r) none) []:=by
 unfold MD at h;let⟨g,h⟩:=mx h;obtain rfl:=ju h;obtain⟨rfl,l,j⟩:=ky g;refine y3 (fd:=Tryz.f300) func300 rfl rfl (vsOf:=λa=>a=[.int .i64 i,.int .i64 10]) (λM β a p af=>?_)<|λa w d f=>?_
 ·match a,p with
  |[v,u],_=>
   have o:=jC<|af 0 v _ rfl rfl;have m:=jC<|af 1 u _ rfl rfl;rw[o,m]
 ·subst d;refine(Tryz.strconv_FormatInt_10 i l j w<|aqc f).mono ?_
  rintro e q ⟨rfl,k,c,rfl⟩
  exact⟨_,rfl,λM β=>.v _ _<|.str _,λb s h=>(Lib.heap_grow_old w k c b (fy.1 h).1).trans h,rfl⟩
def afu{b:List Int}(g:(n0 b&&decide (b.length<=2^63-1))=true):b.length=(jh b).length/\∀i,i<(jh b).length->(λi=>c_<|b.getD i default) i = .int .u8 (((jh b).getD i 0).toNat:Int):=by
 simp only[cb]at g;let⟨c,a⟩:=y8 g.1;exact⟨c.symm,λi d=>a i<|by omega⟩
def afv{b:List Int}(g:(n0 b&&decide (b.length<=2^63-1))=true):(jh b).length<=9223372036854775807:=by
 simp only[cb,fx]at g;rw[(y8 g.1).1];exact g.2
def UI:Go.Proofs.Builder.Extra prog Tryz.ae3 where
 sizeBuilder:=by kernel_rfl
 liesBuilder:=by kernel_rfl
 t5:=underlying5
 a5:=Tryz.isAgg5
 z5:=Tryz.sizeOf5
 v5:=Tryz.zeroValue5
 infoByte:=by kernel_rfl
 cellsByte:=by kernel_rfl
 sizeByte:=by kernel_rfl
 neB5:=by decide
def afw{n:Nat}{elems:List UB}{sep r:UB}(h:ME n elems sep=some r):gn prog 154 [.v<|ai 1 ba elems,.v<|.str sep] [] [] (.ret (.v<|.str r) none) []:=by
 unfold ME at h;let⟨g,h⟩:=mx h;obtain rfl:=ju h;let⟨X,T⟩:=ky g
 have t:(elems.map λs=>(⟨⟨s⟩⟩:ByteArray)).map (·.data.toList)=elems:=by
  rw[yi];conv=>rhs;rw[<-List.map_id elems]
  rfl
 refine aen (fd:=Tryz.f154) func154 rfl rfl (vsOf:=λw m=>(∃a,m=[.slice a 0 0,.string ⟨⟨sep⟩⟩]/\elems=[])\/∃l o c,m=[.slice (some ⟨l,o,none⟩) elems.length c,.string ⟨⟨sep⟩⟩]/\elems.length<=c/\∀(j:Nat) x,elems[j]? = some x->w.cell? ⟨l,o+j,none⟩=some (.string ⟨⟨x⟩⟩)) (λw M β m P W af=>?_)<|λm w O Z=>?_
 ·match m,W with
  |[v,u],_=>
   have Q:=np<|af 1 u _ rfl rfl;have R:=af 0 v _ rfl rfl;rw[Q];rcases u1 (k:=1) (n:=elems.length) (get:=λi=>ba<|elems.getD i default) R with⟨f,J⟩|⟨b,d,B,val,f,z,Y,cR,hF,S⟩
   ·rcases f with f|⟨a,f⟩
    ·exact .inl ⟨none,by rw[f],gQ J⟩
    ·exact .inl ⟨some a,by rw[f],gQ J⟩
   ·refine .inr ⟨b,d,B,by rw[f],z,λj x p=>?_⟩
    have q:j<elems.length:=(eR.1 p).1;have L:=P _ _ _<|cR j 0 q<|by omega
    have K:=S j 0 (.str x) q (by
     have:elems.getD j default=x:=by simp[List.getD,p]
     rw[this];rfl)
    rw[show d+j*1+0=d+j by omega]at L
    rw[L];generalize val j 0=y at K ⊢
    cases K;rfl
 ·rcases O with⟨a,rfl,rfl⟩|⟨l,o,c,rfl,z,rU⟩
  ·refine(Any.strings_Join_none Tryz.Ut UI a 0 ⟨⟨sep⟩⟩ w).mono ?_
   rintro e H ⟨rfl,rfl⟩
   exact⟨_,rfl,λM β=>.v _ _<|.str _,λb N h=>h,rfl⟩
  ·cases elems with
   |nil=>
    refine(Any.strings_Join_none Tryz.Ut UI (some ⟨l,o,none⟩) c ⟨⟨sep⟩⟩ w).mono ?_
    rintro e H ⟨rfl,rfl⟩
    exact⟨_,rfl,λM β=>.v _ _<|.str _,λb N h=>h,rfl⟩
   |cons I F=>
    have E:l<w.heap.size:=lt_of_cell<|rU 0 I rfl
    have q:=Any.strings_Join Tryz.Ut UI l o c ((I::F).map λs=>(⟨⟨s⟩⟩:ByteArray)) ⟨⟨sep⟩⟩ w (λj x p=>by
     rw[gV,dC]at p;obtain⟨y,U,rfl⟩:=p;exact rU j y U) E (by simpa using X) (by simpa using z) (by rw[t];exact T)
    rw[jz]at q;refine q.mono ?_
    rintro e H ⟨rfl,A⟩
    refine⟨_,rfl,λM β=>?_,λb N h=>?_,by rw[A.os,A.output]⟩
    ·rw[t];exact .v _ _<|.str _
    ·rw[A.block b (fy.1 h).1];exact h
end Go.Ab.Y
namespace Go.Ab.Y
open Go Go.Ab Go.Proofs T Tryz
abbrev UW{ρ:Type}(i:FuncId)(a:List D)(F:Option ρ)(o:ρ->Out):Prop:=aL i a [] [] F o λ_=>[]
abbrev UX(i:FuncId)(a:List D)(F:Option Bool):Prop:=UW i a F λr=>aM (bX r)
abbrev TH(i:FuncId)(a:List D)(F:Option Int):Prop:=UW i a F λr=>aM (bg r)
end Go.Ab.Y

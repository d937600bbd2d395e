/- The abstract machine: a step of code over plain data, proved against the model. -/
import Derived.Orders
import Derived.ChangeKeysEq
import Derived.Laws.Slices
import Derived.Laws.Strings2
import Derived.Deep.AppendSrc
set_option linter.all false
namespace Go.Ab
def cb:=@Bool.and_eq_true
def de:=@if_neg
def dC:=@Option.map_eq_some_iff
def ed:=@List.getElem?_eq_getElem
def en:=@decide_eq_false
def eI:=@if_pos
def eO:=@List.append_assoc
def eR:=@List.getElem?_eq_some_iff
def fe:=@Bool.cond_eq_ite
def fi:=@Array.getD_eq_getD_getElem?
def fp:=@decide_eq_true
def fx:=@decide_eq_true_eq
def fy:=@Array.getElem?_eq_some_iff
def fS:=@Nat.le_refl
def gh:=@List.mem_cons
def gj:=@List.drop_zero
def gk:=@List.cons_append
def gJ:=@List.append_nil
def gK:=@List.all_eq_true
def gQ:=@List.eq_nil_of_length_eq_zero
def gV:=@List.getElem?_map
def hh:=@Bool.not_eq_true'
def hA:=@List.mem_of_getElem?
def hL:=@Option.some.injEq
def hS:=@Nat.lt_irrefl
def ie:=@List.getD_eq_getElem?_getD
def iv:=@decide_eq_false_iff_not
def iw:=@List.getElem?_append_left
def ix:=@List.getElem?_take
def iK:=@List.nil_append
def iO:=@Bool.false_eq_true
def iP:=@Bool.true_and
def iR:=@Or.inr
def jk:=@List.mem_map
def jl:=@List.getElem?_drop
def ju:=@Option.some.inj
def jz:=@List.length_map
def jE:=@List.getElem?_append_right
def jF:=@List.length_take
def jH:=@Bool.false_and
def jJ:=@Bool.false_or
def jM:=@Option.bind_eq_some_iff
def jN:=@List.mem_append
def kb:=@Nat.beq_eq
def kt:=@Array.getElem?_eq_getElem
def kv:=@List.length_append
def ky:=@of_decide_eq_true
def kz:=@List.map_cons
def kA:=@List.mem_append_left
def kF:=@List.mem_append_right
def kI:=@Bool.true_or
def kL:=@Bool.and_false
def kP:=@Or.inl
def kW:=@List.getElem?_cons_succ
def kY:=@true_and
def lb:=@Bool.not_not
def ll:=@Prod.mk.injEq
def lC:=@Option.map_some
def lD:=@List.getD_cons_zero
def lE:=@List.mem_of_mem_drop
def lG:=@Bool.or_eq_false_iff
def lJ:=@Int.eq_ofNat_of_zero_le
def lY:=@and_true
def lZ:=@List.mem_singleton
def mu:=@Bool.or_eq_true
def mE:=@Nat.zero_add
def mI:=@List.mem_of_mem_take
def mX:=@List.length_cons
def nj:=@List.not_mem_nil
def ny:=@List.all_cons
def nB:=@Option.getD_some
def nD:=@Bool.not_and
def nE:=@if_false
def nG:=@Bool.and_self
def nY:=@if_true
def od:=@List.length_drop
def oD:=@List.IsSuffix.trans
def oH:=@Array.getElem?_setIfInBounds_ne
def oJ:=@List.length_eq_zero_iff
def oK:=@cond_true
def oL:=@Bool.not_or
def oO:=@List.getD_cons_succ
def oP:=@Bool.and_true
def oU:=@of_decide_eq_false
def pb:=@Nat.lt_of_lt_of_le
def pf:=@Bool.true_eq_false
def ph:=@Nat.blt_eq
def pj:=@List.getElem_mem
def pk:=@List.take_succ_cons
def pn:=@Nat.ble_eq
def pK:=@List.take_append_drop
def pN:=@Nat.sub_zero
def pR:=@Nat.add_assoc
def pU:=@decide_true
def qe:=@cond_false
def qg:=@List.mem_cons_of_mem
def qh:=@List.getElem?_of_mem
def qi:=@Nat.mul_le_mul_right
def qj:=@List.take_zero
def qm:=@Bool.decide_and
def qN:=@List.getElem_of_mem
def qQ:=@Nat.add_mul
def re:=@List.take_of_length_le
def rf:=@List.map_nil
def ri:=@or_false
def rH:=@List.take_length
def rX:=@Bool.not_eq_false'
def rY:=@List.singleton_append
def rZ:=@Nat.zero_le
def sa:=@Nat.add_zero
def sd:=@List.range_eq_range'
def si:=@Bool.or_self
def sj:=@decide_false
def sv:=@Nat.min_eq_left
def sw:=@Bool.eq_false_iff
def sx:=@List.take_append_of_le_length
def sy:=@List.getElem?_cons_zero
def sB:=@Array.toList_append
def sO:=@Option.bind_some
def tr:=@List.any_eq_true
def tv:=@Nat.mod_eq_of_lt
def tz:=@and_self
def tA:=@Array.getElem?_setIfInBounds
def tL:=@Nat.sub_self
def tY:=@Array.getElem?_toList
def uc:=@Int.ofNat_inj
def ud:=@Option.isNone_iff_eq_none
def uR:=@List.mem_of_find?_eq_some
def va:=@Array.ext'
def ve:=@Option.isSome_iff_exists
def vo:=@List.range'_succ
def vF:=@Int.ofNat_le
def vG:=@UInt8.toNat_ofNat'
def vQ:=@List.find?_cons
def vS:=@List.map_append
def vT:=@Bool.not_eq_false
def wa:=@Nat.add_comm
def wb:=@List.find?_nil
def wy:=@List.drop_length
def wE:=@Bool.or_false
def wO:=@Int.tdiv_eq_ediv_of_nonneg
def wU:=@Int.fdiv_eq_ediv_of_nonneg
def wV:=@Int.le_refl
def wX:=@Array.getElem?_push
def wY:=@List.cons.injEq
def xa:=@UInt8.toNat_inj
def xb:=@Nat.le_trans
def xn:=@not_or
def xv:=@List.mem_range
def xy:=@Bool.decide_or
def xz:=@List.drop_drop
def xF:=@List.drop_left
def xG:=@Array.getElem?_eq_none
def xI:=@List.take_add
def xS:=@List.map_toArray
def xW:=@Bool.and_eq_false_iff
def xZ:=@false_and
def ye:=@List.getElem?_eq_none
def yi:=@List.map_map
def yn:=@Nat.lt_or_ge
def yp:=@List.length_nil
def yA:=@List.foldl_cons
def aEr:=@List.eq_nil_iff_forall_not_mem
def yQ:=@Bool.eq_iff_iff
def zk:=@List.map_congr_left
def zP:=@List.drop_succ_cons
def zQ:=@List.mem_map_of_mem
def Aw:=@List.mapM_cons
def Ay:=@List.drop_take
def Az:=@List.mem_filterMap
def AA:=@List.mapM_toArray
def AO:=@Nat.ne_of_lt
def U5{α:Type _}{b:Bool}{x:Option α}{y:α}(h:cond b x none=some y):b=true/\x=some y:=by cases b<;>simp_all
abbrev UB:=List UInt8
inductive V where
 |int (k:IntKind) (n:Int)
 |bool (b:Bool)
 |str (s:UB)
 |agg (cs:List V)
 |bP (k n:Nat) (get:Nat->V)
 |iface (t:TypeId) (x:V)
 |hO |kj |kE
 |any
 |qz (k:Nat) (get:Nat->V)
def V.cells:V->List V
 |.agg a=>a
 |x=>[x]
inductive D where
 |v (x:V)
 |ptr (r off:Nat)
 |cn (r off:Nat) (u:TypeId)
 |fD (x:V)
 |full (k n:Nat) (get:Nat->V)
 |fn (f:FuncId) (fM:List D)
 |agg (cs:List D)
 |cw (cs:List D)
 |ex (u:Value) (x:V)
structure aS where
 d:D
 own:Option TypeId:=none
structure aA where
 env:List (Nat×aS)
 H:List (Nat×List aS)
 aD:Nat
inductive nP where
 |int (k:IntKind) |bool |str
 |eh (cT:List<|Nat×TypeId×Nat)
 |bP (e:TypeId) |arr (n:Nat) (e:TypeId) |ptr |Bv |rI |map
deriving DecidableEq
structure ep where
 k:nP
 size:Nat
 bytes:Nat
 zero:List V
 kU:List (Nat×TypeId):=[]
abbrev dI:=List (TypeId×ep)
def look{α:Type}:List (Nat×α)->Nat->Option α
 |[],_=>none
 |(j,x)::l,i=>bif Nat.beq j i then some x else look l i
def del{α:Type}:List (Nat×α)->Nat->List (Nat×α)
 |[],_=>[]
 |(j,x)::l,i=>bif Nat.beq j i then del l i else(j,x)::del l i
def nP.isAgg:nP->Bool
 |.eh _ |.arr _ _=>true
 |_=>false
abbrev Path:=List (Nat×Bool)
def Path.has(p:Path)(x:Nat×Bool):Bool:=p.any λy=>Nat.beq y.1 x.1&&(y.2 == x.2)
def Path.sub(q p:Path):Bool:=q.all p.has
inductive Out where
 |ret (d:D) (own:Option TypeId)
 |bv (x:V)
inductive eT where
 |val (x:V)
 |raw
 |own
 |marks (c:Nat)
 |call (o:Out) (H:Option<|List<|List aS) (os:List Nat)
def aP(i:Int)(n:Nat):Bool:=decide (0<=i)&&decide (i<n)
def hB(i:Int)(n:Nat):Bool:=decide (0<=i)&&decide (i<=n)
def oY(a b:Int)(n:Nat):Bool:=decide (0<=a)&&(decide (a<=b)&&decide (b<=n))
def s7(a:Int):Bool:=!decide (a=0)
def room(n b:Nat):Bool:=decide (n*b<=140737488355328)
def bF(n:Nat):Bool:=decide (n<=2^63-1)
structure dt where
 env:List (Nat×aS)
 cf:List (Nat×Path×D)
 H:List (Nat×List aS)
 aD:Nat
 rs:List eT
 aC:List Prop
 ids:List (Nat×Nat):=[]
def Se:Value->Option V
 |.int k n=>some<|.int k n
 |.bool b=>some<|.bool b
 |.string s=>some<|.str s.data.toList
 |.pointer none=>some .hO
 |.nilIface=>some .kj
 |.nilFunc=>some .kE
 |_=>none
def Bw:D->D
 |.ex u .any=>.ex u .any
 |.ex _ x=>.v x
 |d=>d
def rd(b:List<|Nat×aS)(c:List<|Nat×Path×D)(p:Path)(tt:dI)(ty:TypeId):Operand->Option D
 |.tmp t=>match look c t with
  |some (q,d)=>bif q.sub p then some (Bw d)else none
  |none=>(look b t).map λe=>Bw e.d
 |.const (.slice none 0 0)=>match look tt ty with
  |some {k:=.bP _,zero:=[.bP k 0 a],..}=>some<|.v<|.bP k 0 a
  |_=>none
 |.const v=>(Se v).map .v
 |.func f=>some<|.fn f []
 |.global _=>none
def nk(f:TypeId->Operand->Option D):List Operand->List TypeId->Option (List D)
 |[],_=>some []
 |x::a,t::b=>match f t x,nk f a b with
  |some d,some c=>some<|d::c
  |_,_=>none
 |_::_,[]=>none
def FE:List D->Option (List V)
 |[]=>some []
 |.v x::l=>(FE l).map (x :: ·)
 |_::_=>none
def ox(cs:List D):D:=match FE cs with|some a=>.v (.agg a)|none=>.agg cs
def cellsD:D->List D
 |.v x=>x.cells.map .v
 |.agg a=>a
 |d=>[d]
def uS:List D->Bool
 |[]=>true
 |.cn _ _ _::_=>false
 |_::l=>uS l
def s8:D->Bool
 |.cw _=>true
 |_=>false
def setAt{α:Type}:List α->Nat->List α->List α
 |cs,0,[]=>cs
 |_::cs,0,x::a=>x::setAt cs 0 a
 |c::cs,n+1,a=>c::setAt cs n a
 |[],_,_=>[]
def uT(place:Nat->Option (Nat×Nat))(cells:List D):List (Nat×D)->Option (List D)
 |[]=>some cells
 |(i,d)::a=>match place i with
  |none=>none
  |some (b,size)=>
   bif Nat.beq (cellsD d).length size&&Nat.ble (b+size) cells.length && !s8 d then uT place (setAt cells b<|cellsD d) a else none
abbrev Mem:=Nat->Nat->Option Value
def Mem.le(M M':Mem):Prop:=∀b o v,M b o=some v->M' b o=some v
def Mem.le_refl(M:Mem):M.le M:=λ_ _ _ h=>h
def Mem.le_trans{A B C:Mem}(h:A.le B)(a:B.le C):A.le C:=λb o v e=>a b o v (h b o v e)
inductive cY(M:Mem):Value->V->Prop where
 |int (k:IntKind) (n:Int):cY M (.int k n) (.int k n)
 |bool (b:Bool):cY M (.bool b) (.bool b)
 |str (l:UB):cY M (.string ⟨⟨l⟩⟩) (.str l)
 |agg (vs:List Value) (cs:List V) (hn:vs.length=cs.length) (h1:∀v,v∈vs->v.oneCell'=true)
  (h:∀(i:Nat) v c,vs[i]? = some v->cs[i]? = some c->cY M v c):cY M (.agg ⟨vs⟩) (.agg cs)
 |mp (k:Nat) (get:Nat->V):cY M (.slice none 0 0) (.bP k 0 get)
 |oZ (a:Addr) (k:Nat) (get:Nat->V):cY M (.slice (some a) 0 0) (.bP k 0 get)
 |bP (b off k n cap:Nat) (get:Nat->V) (val:Nat->Nat->Value) (hc:n<=cap)
  (hk:∀i,i<n->(get i).cells.length=k)
  (cR:∀i j,i<n->j<k->M b (off+i*k+j)=some (val i j)) (h1:∀i j,i<n->j<k->(val i j).oneCell'=true)
  (h:∀(i j:Nat) c,i<n->(get i).cells[j]? = some c->cY M (val i j) c):cY M (.slice (some ⟨b,off,none⟩) n cap) (.bP k n get)
 |iface (t:TypeId) (v:Value) (x:V) (h:cY M v x):cY M (.iface t v) (.iface t x)
 |hO:cY M (.pointer none) .hO
 |kj:cY M .nilIface .kj
 |kE:cY M .nilFunc .kE
 |any (v:Value) (h1:v.oneCell'=true):cY M v .any
 |qz (k:Nat) (get:Nat->V):cY M (.slice none 0 0) (.qz k get)
def ij(raw x:V):Prop:=∀(M:Mem) (v:Value),cY M v raw->cY M v x
def rJ(k:IntKind)(a b:Int):Int:=k.wrap (BitVec.ofInt k.bits a &&& BitVec.ofInt k.bits b).toNat
def s9(k:IntKind)(a b:Int):Int:=k.wrap (BitVec.ofInt k.bits a |||BitVec.ofInt k.bits b).toNat
def oy(k:IntKind)(a b:Int):Int:=k.wrap (BitVec.ofInt k.bits a ^^^ BitVec.ofInt k.bits b).toNat
def Sf(k:IntKind)(a b:Int):Int:=k.wrap (BitVec.ofInt k.bits a &&& ~~~BitVec.ofInt k.bits b).toNat
def qA(k:IntKind)(x y:Int):Int:=k.wrap (x*2 ^ min y.toNat k.bits)
def mq(k:IntKind)(x y:Int):Int:=x.fdiv (2 ^ min y.toNat k.bits)
def o0(y:Int):Bool:=decide (0<=y)
def Sg(op:BinOp)(k:IntKind)(x y:Int):Option (V×List Prop):=
 match op with
 |.shl=>some (.int k<|qA k x y,[o0 y=true])
 |.shr=>some (.int k<|mq k x y,[o0 y=true])
 |_=>none
def Sh(op:BinOp)(k:IntKind)(a b:Int):Option (V×List Prop):=
 match op with
 |.add=>some (.int k<|k.wrap<|a+b,[])
 |.sub=>some (.int k<|k.wrap<|a-b,[])
 |.mul=>some (.int k<|k.wrap<|a*b,[])
 |.quo=>some (.int k<|k.wrap<|a.tdiv b,[s7 b=true])
 |.rem=>some (.int k<|a.tmod b,[s7 b=true])
 |.eql=>some (.bool<|decide<|a=b,[])
 |.neq=>some (.bool<|!decide (a=b),[])
 |.lss=>some (.bool<|decide<|a<b,[])
 |.leq=>some (.bool<|decide<|a<=b,[])
 |.gtr=>some (.bool<|decide<|b<a,[])
 |.geq=>some (.bool<|decide<|b<=a,[])
 |.and=>some (.int k<|rJ k a b,[])
 |.or=>some (.int k<|s9 k a b,[])
 |.xor=>some (.int k<|oy k a b,[])
 |.andNot=>some (.int k<|Sf k a b,[])
 |_=>none
def Si(op:BinOp)(a b:UB):Option (V×List Prop):=
 match op with
 |.add=>some (.str<|a++b,[bF (a.length+b.length)=true])
 |.eql=>some (.bool<|decide<|a=b,[])
 |.neq=>some (.bool<|!decide (a=b),[])
 |.lss=>some (.bool<|Op.bytesLess a b,[])
 |.leq=>some (.bool (Op.bytesLess a b||decide (a=b)),[])
 |.gtr=>some (.bool<|!(Op.bytesLess a b||decide (a=b)),[])
 |.geq=>some (.bool<|!Op.bytesLess a b,[])
 |_=>none
def isNil:nP->D->Option Bool
 |.ptr,.v .hO=>some true
 |.ptr,.ptr _ _=>some false
 |.ptr,.fD _=>some false
 |.rI,.v .kj=>some true
 |.rI,.v (.iface _ _)=>some false
 |.Bv,.v .kE=>some true
 |.Bv,.fn _ _=>some false
 |_,_=>none
def K2:nP->D->Bool
 |.ptr,.v .hO=>true
 |.rI,.v .kj=>true
 |.Bv,.v .kE=>true
 |_,_=>false
def kl:List (Option nP)->List V->List V->Option Bool
 |[],[],[]=>some true
 |some (.int _)::c,.int k a::l,.int d b::m=>bif decide (k=d) then(kl c l m).map λr=>decide (a=b)&&r else none
 |some .str::c,.str a::l,.str b::m=>(kl c l m).map λr=>decide (a=b)&&r
 |some .bool::c,.bool a::l,.bool b::m=>(kl c l m).map λr=>(a == b)&&r
 |_,_,_=>none
def oz(tt:dI):Nat->List (Nat×TypeId×Nat)->List (Option nP)
 | 0,a=>a.map λf=>(look tt f.2.1).map (·.k)
 |d+1,a=>a.flatMap λf=>match look tt f.2.1 with
  |some {k:=.eh b,..}=>oz tt d b
  |o=>[o.map (·.k)]
def acn(k:Option nP)(c:Bool)(op:BinOp)(a b:D):Option (V×List Prop):=
 match a,b with
 |.v (.int k x),.v (.int d y)=>match Sg op k x y with
  |some z=>some z
  |none=>bif decide (k=d)then Sh op k x y else none
 |.v (.str x),.v (.str y)=>Si op x y
 |.v (.bool x),.v (.bool y)=>match k,op with
  |some .bool,.eql=>some (.bool<|x == y,[])
  |some .bool,.neq=>some (.bool<|!(x == y),[])
  |_,_=>none
 |a,b=>match k with
  |some k=>bif K2 k b&&c then match isNil k a,op with
   |some t,.eql=>some (.bool t,[])
   |some t,.neq=>some (.bool<|!t,[])
   |_,_=>none
   else none
  |none=>none
def isConst:Operand->Bool
 |.const _=>true
 |_=>false
def aco(op:UnOp)(a:V):Option V:=
 match op,a with
 |.not,.bool b=>some<|.bool<|!b
 |.neg,.int k n=>some<|.int k<|k.wrap<|0-n
 |_,_=>none
def FF(a:List<|Nat×aS)(c:List<|Nat×Path×D)(t:Nat):Option Bool:=
 match look c t with
 |some (_,.v<|.bool b)=>some b
 |some _=>none
 |none=>match look a t with
  |some ⟨.v<|.bool b,_⟩=>some b
  |_=>none
def under(g:dt):Path->Prop->Prop
 |[],q=>q
 |(t,w)::p,q=>match FF g.env g.cf t with
  |some b=>b=w->under g p q
  |none=>under g p q
structure mO where
 e:Option aS
 ik:List Nat:=[]
 hs:List (Nat×List aS):=[]
 fj:Nat:=0
 rs:List eT
 aC:List Prop:=[]
def qB(g:dt):Operand->Option TypeId
 |.tmp t=>(look g.env t).bind (·.own)
 |_=>none
def amv(t:Nat)(o:Oper):Bool:=
 match o.op with
 |.assign (.tmp u)=>Nat.beq u t
 |.store _ _ (.tmp u)=>Nat.beq u t
 |.call {callee:=.builtin .append,args,..}=>match args.toList with
  |.tmp u::_=>Nat.beq u t
  |_=>false
 |_=>false
def amw(ops:List Oper)(a:Option Nat):Bool:=
 match a with
 |some t=>ops.any<|amv t
 |none=>false
def refs:D->List Nat
 |.ptr r _=>[r]
 |.cn r _ _=>[r]
 |.fn _ a=>a.flatMap fun |.ptr r _=>[r] |_=>[]
 |.agg b=>b.flatMap fun |.ptr r _=>[r] |.cn r _ _=>[r] |.fn _ a=>(a.flatMap fun |.ptr r _=>[r] |_=>[]) |_=>[]
 |_=>[]
def idx(l:List Nat)(r:Nat):Option Nat:=
 match l with
 |[]=>none
 |x::l=>bif Nat.beq x r then some 0 else(idx l r).map (· + 1)
def dedup:List Nat->List Nat
 |[]=>[]
 |x::l=>bif (dedup l).any (Nat.beq x)then dedup l else x::dedup l
mutual
def eJ(f:Nat->Option Nat):D->Option D
 |.v x=>some<|.v x
 |.ptr r a=>(f r).map (.ptr · a)
 |.cn r a u=>(f r).map (.cn · a u)
 |.fD x=>some<|.fD x
 |.full k n b=>some<|.full k n b
 |.ex u x=>some<|.ex u x
 |.fn g d=>(mP f d).map<|.fn g
 |.agg c=>(mP f c).map .agg
 |.cw c=>(mP f c).map .cw
def mP(f:Nat->Option Nat):List D->Option (List D)
 |[]=>some []
 |d::l=>match eJ f d,mP f l with
  |some dY,some a=>some<|dY::a
  |_,_=>none
end
def K3(f:Nat->Option Nat)(e:aS):Option aS:=(eJ f e.d).map λd=>{d,own:=e.own}
def o2(f:Nat->Option Nat):List aS->Option (List aS)
 |[]=>some []
 |e::l=>match K3 f e,o2 f l with
  |some a7,some a=>some<|a7::a
  |_,_=>none
def lf(f:Nat->Option Nat):List (List aS)->Option (List<|List aS)
 |[]=>some []
 |b::l=>match o2 f b,lf f l with
  |some bc,some a=>some<|bc::a
  |_,_=>none
def boxes(H:List<|Nat×List aS):List Nat->Option (List<|List aS)
 |[]=>some []
 |r::l=>match look H r,boxes H l with
  |some b,some a=>some<|b::a
  |_,_=>none
def dm{α:Type}:Nat->List α->List (Nat×α)
 |_,[]=>[]
 |n,x::l=>(n,x)::dm (n+1) l
def mQ:List Nat->List (List aS)->List (Nat×List aS)
 |r::l,b::a=>(r,b)::mQ l a
 |_,_=>[]
def mapM'{α β:Type}(f:α->Option β):List α->Option (List β)
 |[]=>some []
 |x::l=>match f x,mapM' f l with
  |some y,some a=>some<|y::a
  |_,_=>none
structure hC where
 call:FuncId->List D->List (Nat×TypeId)->List (List aS)->Out->List (List aS)->Prop
 eq:TypeId->Bool
inductive pL where
 |go (e:mO)
 |bv (x:V) (hs:List<|Nat×List aS) (aC:List Prop)
def qC(H:List<|Nat×List aS):Nat->List Nat->List Nat
 | 0,l=>l
 |n+1,l=>qC H n (dedup<|l++l.flatMap λr=>((look H r).getD []).flatMap λe=>refs e.d)
def o3:List Nat->Bool
 |[]=>true
 |x::l=>!l.any (Nat.beq x)&&o3 l
def handed(tt:dI)(g:dt)(xs:List Operand)(ts:List TypeId):List Nat->Option (List<|Nat×Option Nat×TypeId)
 |[]=>some []
 |i::a=>match xs[i]?,handed tt g xs ts a with
  |some (.tmp t),some l=>match look g.env t with
   |some ⟨_,some e⟩=>bif (look g.cf t).isNone&&l.all (λx=>!(match x.2.1 with |some u=>Nat.beq u t |none=>false) && !Nat.beq x.1 i)then some ((i,some t,e)::l)else none
   |_=>none
  |some (.const<|.slice none 0 0),some l=>match(ts[i]?).bind (look tt) with
   |some {k:=.bP e,..}=>bif l.all (λx=>!Nat.beq x.1 i)then some ((i,none,e)::l)else none
   |_=>none
  |_,_=>none
def Bx(cF:hC)(tt:dI)(g:dt)(p:Path)(xs:List Operand)(ts:List TypeId)(f:FuncId)(args:List D):Option pL:=
 let ρ:=qC g.H 2<|dedup<|args.flatMap refs
 match g.rs with
 |.call out H2 os::rs=>
  match mP (idx ρ) args,(boxes g.H ρ).bind<|lf<|idx ρ,handed tt g xs ts os with
  |some kV,some H1,some hd=>bif !o3 ρ || !(p.isEmpty||os.isEmpty)then none else
   let ec:=hd.map λx=>(x.1,x.2.2)
   let ik:=hd.filterMap λx=>x.2.1
   match out,H2 with
   |.ret d own,none=>(eJ (λj=>ρ[j]?) d).map λdY=>.go {e:=some {d:=dY,own},ik,rs,aC:=[cF.call f kV ec H1 out H1]}
   |.ret d own,some H2=>match eJ (λj=>ρ[j]?) d,lf (λj=>ρ[j]?) H2 with
    |some dY,some jU=>bif Nat.beq H2.length ρ.length then some (.go {e:=some {d:=dY,own},ik,hs:=mQ ρ jU,rs,aC:=[cF.call f kV ec H1 out H2]})else none
    |_,_=>none
   |.bv x,none=>some<|.bv x [] [cF.call f kV ec H1 out H1]
   |.bv x,some H2=>match lf (λj=>ρ[j]?) H2 with
    |some jU=>bif Nat.beq H2.length ρ.length then some (.bv x (mQ ρ jU) [cF.call f kV ec H1 out H2])else none
    |none=>none
  |_,_,_=>none
 |_=>none
def K4:V->Option TypeId->Option TypeId
 |.bP _ _ _,t=>t
 |_,_=>none
def acp(tt:dI):Nat->List (Nat×TypeId×Nat)->Nat->Option TypeId
 | 0,_,_=>none
 |d+1,b,j=>match b.find? λf=>Nat.ble f.1 j&&Nat.blt j (f.1+f.2.2) with
  |some f=>match look tt f.2.1 with
   |some {k:=.bP e,..}=>some e
   |some {k:=.eh a,..}=>acp tt d a<|j-f.1
   |_=>none
  |none=>none
def K5(tt:dI):nP->Nat->Option TypeId
 |.eh a,j=>acp tt 5 a j
 |.bP e,0=>some e
 |_,_=>none
def acq(tt:dI)(a:List<|Nat×TypeId)(k:nP)(i:Nat):Option TypeId:=
 match K5 tt k i with
 |some e=>some e
 |none=>(a.find? λy=>Nat.beq (y.1+1) i).bind λy=>match look tt y.2 with |some {k,..}=>K5 tt k 1 |none=>none
def FG(a:List<|Nat×TypeId)(id i:Nat)(x:V):D:=
 match x with
 |.hO=>match a.find? λy=>Nat.beq y.1 i with
  |some y=>.cn id i y.2
  |none=>.v x
 |_=>.v x
def K6(tt:dI)(t:TypeId)(id:Nat):Option (List aS):=
 match look tt t with
 |some {k:=.bP e,zero,..}=>some<|zero.map λx=>{d:=.v x,own:=K4 x (some e)}
 |some {k:=.eh cT,zero,kU,..}=>some ((dm 0 zero).map fun(i,x)=>
  {d:=FG kU id i x,own:=K4 x (acq tt kU (.eh cT) i)})
 |some {zero,..}=>some<|zero.map λx=>{d:=.v x}
 |none=>none
def V.isAgg:V->Bool
 |.agg _=>true
 |_=>false
def Sj:V->V
 |.bP k 0 g=>.qz k g
 |x=>x
def rK(ty:Nat->Option TypeId):Nat->List aS->List aS
 |_,[]=>[]
 |i,e::l=>(match e.d with
  |.v (.qz k g)=>{d:=.v<|.bP k 0 g,own:=ty i}
  |_=>e)::rK ty (i+1) l
def elems(isAgg:Bool)(size:Nat):Nat->List (Nat×D)->Option (List V)
 |_,[]=>some []
 |i,(j,.v x)::a=>bif Nat.beq i j&&Nat.beq x.cells.length size&&(x.isAgg == isAgg) then(elems isAgg size (i+1) a).map (x :: ·)else none
 |_,_=>none
def uU(tt:dI)(t:TypeId)(i:Nat):TypeId:=
 match look tt t with
 |some {k:=.eh a,..}=>match a[i]? with
  |some f=>f.2.1
  |none=>0
 |some {k:=.arr _ e,..}=>e
 |some {k:=.bP e,..}=>e
 |_=>0
def By(tt:dI)(a:ep)(id i:Nat)(d:D):aS:=
 match d with
 |.v .hO=>{d:=FG a.kU id i .hO}
 |.v (.qz k g)=>match acq tt a.kU a.k i with
  |some T=>{d:=.v<|.bP k 0 g,own:=some T}
  |none=>{d}
 |d=>{d}
def s'(tt:dI)(a:ep)(id:Nat):Nat->List D->List aS
 |_,[]=>[]
 |i,d::l=>By tt a id i d::s' tt a id (i+1) l
def pM(g:dt)(o:Oper):Option (Nat×Nat):=
 match o.dst.bind (look g.ids) with
 |some id=>bif (look g.H id).isNone&&Nat.blt id g.aD then some (id,0)else none
 |none=>some (g.aD,1)
def acr:Nat->Nat->List (Nat×TypeId)
 | 0,_=>[]
 |f+1,c=>bif Nat.beq c 0 then[] else((c % 1000000-1) / 1000,(c % 1000000-1) % 1000)::acr f (c / 1000000)
def marks(T:Nat):List (Nat×TypeId):=acr 8 (T / 1000000)
def marksOf:Nat->List aS->List (Nat×TypeId)
 |_,[]=>[]
 |i,e::l=>match e.own with
  |some T=>(i,T)::marksOf (i+1) l
  |none=>marksOf (i+1) l
def wB:List (Nat×TypeId)->List (Nat×TypeId)->Bool
 |[],[]=>true
 |x::l,y::m=>Nat.beq x.1 y.1&&Nat.beq x.2 y.2&&wB l m
 |_,_=>false
def Bz:List (Nat×TypeId)->Nat->Option TypeId
 |[],_=>none
 |x::l,i=>bif Nat.beq x.1 i then some x.2 else Bz l i
def Sk:D->Bool
 |.v (.agg _)=>true
 |.agg _=>true
 |_=>false
def rL(a:List<|Nat×TypeId):Nat->List D->List aS
 |_,[]=>[]
 |i,d::l=>{d,own:=Bz a i}::rL a (i+1) l
def step1(cF:hC)(tt:dI)(ops:List Oper)(g:dt)(p:Path)(o:Oper):Option pL:=
 let r:=rd g.env g.cf p tt o.type
 let val (d:Option D):Option pL:=d.map λd=>.go {e:=some {d},rs:=g.rs}
 let FH (x:Option<|V×List Prop):Option pL:=x.map fun(x,aC)=>.go {e:=some {d:=.v x},rs:=g.rs,aC}
 let K7 (raw:V) (mk:V->D) (aC:List Prop):Option pL:=match g.rs with
  |.val x::rs=>some<|.go {e:=some {d:=mk x},rs,aC:=ij raw x::aC}
  |.raw::rs=>some<|.go {e:=some {d:=mk raw},rs,aC:=aC}
  |_=>none
 match o.op with
 |.move x=>match r x with
  |some d=>match qB g x,x with
   |some e,.tmp t=>match g.rs with
    |.own::rs=>bif p.isEmpty then some (.go {e:=some {d,own:=some e},ik:=[t],rs})else none
    |_=>bif p.isEmpty&&amw ops o.dst then some (.go {e:=some {d,own:=some e},ik:=[t],rs:=g.rs})else some (.go {e:=some {d},rs:=g.rs})
   |_,_=>some<|.go {e:=some {d},rs:=g.rs}
  |none=>none
 |.assign x=>match r x with
  |some d=>match qB g x,x with
   |some e,.tmp t=>bif p.isEmpty then some (.go {e:=some {d,own:=some e},ik:=[t],rs:=g.rs})else some (.go {e:=some {d},rs:=g.rs})
   |_,.const (.slice none 0 0)=>match look tt o.type with
    |some {k:=.bP e,..}=>bif p.isEmpty then some (.go {e:=some {d,own:=some e},rs:=g.rs})else some (.go {e:=some {d},rs:=g.rs})
    |_=>none
   |_,_=>some<|.go {e:=some {d},rs:=g.rs}
  |none=>none
 |.pick (.tmp c) a b=>match r (.tmp c),rd g.env g.cf ((c,true)::p) tt o.type a,rd g.env g.cf ((c,false)::p) tt o.type b with
  |some (.v<|.bool wC),some<|.v<|.bool FI,some (.v<|.bool yl)=>val<|some<|.v<|.bool<|bif wC then FI else yl
  |_,_,_=>none
 |.alloc t=>match pM g o with
  |some (id,fj)=>match K6 tt t id with
   |some z=>some<|.go {e:=some {d:=.ptr id 0},hs:=[(id,z)],fj,rs:=g.rs}
   |none=>none
  |none=>none
 |.box t x=>match r x,pM g o,look tt t with
  |some d,some (id,fj),some aK=>bif s8 d || !uS (cellsD d) || !Nat.beq (cellsD d).length aK.size then none else some (.go {e:=some {d:=.ptr id 0},hs:=[(id,s' tt aK id 0<|cellsD d)],fj,rs:=g.rs})
  |_,_,_=>none
 |.build t parts=>match look tt t,mapM' (fun(i,x)=>(rd g.env g.cf p tt (uU tt t i) x).map λd=>(i,d)) parts.toList with
  |some {k:=.eh cT,zero,..},some ps=>bif cT.all (λf=>Nat.ble 1 f.2.2)then match g.rs with
   |.own::rs=>((uT (λi=>(cT[i]?).map λf=>(f.1,f.2.2)) (zero.map λx=>.v<|Sj x) ps).map ox).map λd=>.go {e:=some {d},rs}
   |_=>val<|(uT (λi=>(cT[i]?).map λf=>(f.1,f.2.2)) (zero.map .v) ps).map ox
   else none
  |some {k:=.arr _ e,zero,..},some ps=>match look tt e with
   |some {size,..}=>val<|(uT (λi=>some (i*size,size)) (zero.map .v) ps).map ox
   |none=>none
  |_,_=>none
 |.buildSlice t len parts=>match look tt t,mapM' (fun(i,x)=>(rd g.env g.cf p tt (uU tt t i) x).map λd=>(i,d)) parts.toList with
  |some {k:=.bP e,..},some ps=>match look tt e with
   |some {k,size,..}=>
    match elems k.isAgg size 0 ps,g.rs with
    |some xs,.val x::rs=>bif Nat.ble (len*size) 16777216&&Nat.ble 1 size&&Nat.beq xs.length len then some (.go {e:=some {d:=.v x,own:=some e},rs,aC:=[ij (.bP size len λi=>xs.getD i .hO) x]})else none
    |_,_=>none
   |none=>none
  |_,_=>none
 |.load t a=>match r a,look tt t with
  |some (
   .ptr q off),some aK=>match look g.H q with
   |some cs=>bif aK.k.isAgg then
    bif Nat.ble (off+aK.size) cs.length then match g.rs with
     |.marks c::rs=>bif p.isEmpty&&wB (marks c) (marksOf 0<|(cs.drop off).take aK.size) then
      some (.go {e:=some {d:=ox<|((cs.drop off).take aK.size).map (·.d),own:=some c},hs:=[(q,setAt cs off<|((cs.drop off).take aK.size).map λe=>{d:=e.d})],rs})else none
     |_=>val (some<|ox<|((cs.drop off).take aK.size).map (·.d))else none
    else match cs[off]? with
     |some e=>match e.own,g.rs with
      |some _,.own::rs=>bif p.isEmpty then some (.go {e:=some e,hs:=[(q,setAt cs off [{d:=e.d}])],rs})else none
      |_,_=>val<|some e.d
     |none=>none
   |none=>none
  |some (.fD x),some aK=>bif x.isAgg == aK.k.isAgg&&Nat.beq x.cells.length aK.size then val (some<|.v x)else none
  |_,_=>none
 |.store t a x=>match r a,rd g.env g.cf p tt t x,look tt t with
  |some (
   .ptr q off),some d,some aK=>match look g.H q with
   |some cs=>bif Nat.beq (cellsD d).length aK.size&&Nat.ble (off+aK.size) cs.length&&p.isEmpty && !s8 d&&uS (cellsD d) then
    match x,qB g x,d with
    |.tmp u,some s,.v (.bP ..)=>some<|.go {e:=none,ik:=[u],hs:=[(q,setAt cs off [{d,own:=some s}])],rs:=g.rs}
    |.const (.slice none 0 0),_,_=>match aK.k with
     |.bP s=>some<|.go {e:=none,hs:=[(q,setAt cs off [{d,own:=some s}])],rs:=g.rs}
     |_=>none
    |.tmp u,some s,_=>match g.rs with
     |.marks _::rs=>bif Sk d&&((marks s).all λx=>Nat.blt x.1 aK.size)then some (.go {e:=none,ik:=[u],hs:=[(q,setAt cs off<|rL (marks s) 0<|cellsD d)],rs})else none
     |_=>some<|.go {e:=none,hs:=[(q,rK (λi=>K5 tt aK.k<|i-off) 0<|setAt cs off<|(cellsD d).map λd=>{d})],rs:=g.rs}
    |_,_,_=>some<|.go {e:=none,hs:=[(q,rK (λi=>K5 tt aK.k<|i-off) 0<|setAt cs off<|(cellsD d).map λd=>{d})],rs:=g.rs}
    else none
   |none=>none
  |_,_,_=>none
 |.nilCheck x=>match r x with
  |some (.ptr q off)=>val<|some<|.ptr q off
  |some (.fD x)=>val<|some<|.fD x
  |_=>none
 |.binOp op t x y _=>match r x,r y with
  |some (.v<|.agg xs),some (.v<|.agg ys)=>match look tt t with
   |some {k:=.eh cT,..}=>bif cF.eq t then match op,kl (oz tt 4 cT) xs ys with
    |.eql,some r=>val<|some<|.v<|.bool r
    |.neq,some r=>val<|some<|.v<|.bool<|!r
    |_,_=>none
    else none
   |_=>none
  |some a,some b=>FH<|acn ((look tt t).map (·.k)) (isConst y) op a b
  |_,_=>none
 |.unOp op _ x=>match r x with
  |some (.v a)=>val<|(aco op a).map .v
  |_=>none
 |.convert s t x=>match look tt s,look tt t,r x with
  |some {k:=.int _,..},some {k:=.int k,..},some (.v<|.int _ n)=>val<|some<|.v<|.int k<|k.wrap n
  |some {k:=.str,..},some {k:=.str,..},some (.v<|.str s)=>val<|some<|.v<|.str s
  |some {k:=.bP e,..},some {k:=.str,..},some (.v<|.bP 1 n get)=>match look tt e,g.rs with
   |some {k:=.int .u8,..},.val (.str l)::rs=>some<|.go {e:=some {d:=.v (.str l)},rs,aC:=[l.length=n/\∀i,i<n->get i = .int .u8 ((l.getD i 0).toNat:Int)]}
   |_,_=>none
  |_,_,_=>none
 |.makeInterface t x=>match r x,look tt t with
  |some (.v x),some {k,..}=>match k with
   |.rI=>none
   |_=>val<|some<|.v<|.iface t x
  |_,_=>none
 |.makeFunc (.func f) first fM=>bif first.isEmpty then(mapM' r fM.toList).map λds=>.go {e:=some {d:=.fn f ds},rs:=g.rs}else none
 |.slice t x lo hi lg=>match lg,look tt t with
  |none,some {k:=.str,..}=>match r x,lo.map r,hi.map r with
   |some (.v<|.str s),none,none=>val<|some<|.v<|.str s
   |some (.v<|.str s),some<|some<|.v<|.int _ a,none=>FH<|some (.str<|s.drop a.toNat,[hB a s.length=true])
   |some (.v<|.str s),none,some (some<|.v<|.int _ b)=>FH<|some (.str<|s.take b.toNat,[hB b s.length=true])
   |some (.v<|.str s),some<|some<|.v<|.int _ a,some (some<|.v<|.int _ b)=>FH<|some (.str<|(s.take b.toNat).drop a.toNat,[oY a b s.length=true])
   |_,_,_=>none
  |none,some {k:=.bP e,..}=>match look tt e,r x,lo.map r,hi.map r with
   |some {size,..},some<|.v<|.bP k n get,some<|some<|.v<|.int _ a,none=>bif Nat.beq k size then K7 (.bP k (n-a.toNat) λi=>get<|a.toNat+i) .v [hB a n=true]else none
   |some {size,..},some<|.v<|.bP k n get,none,some (some<|.v<|.int _ b)=>bif Nat.beq k size then K7 (.bP k b.toNat get) .v [hB b n=true]else none
   |some {size,..},some<|.v<|.bP k n get,some<|some<|.v<|.int _ a,some (some<|.v<|.int _ b)=>bif Nat.beq k size then K7 (.bP k (b.toNat-a.toNat) λi=>get<|a.toNat+i) .v [oY a b n=true]else none
   |some {size,..},some<|.v<|.bP k n get,none,none=>bif Nat.beq k size then val (some<|.v<|.bP k n get)else none
   |_,_,_,_=>none
  |some _,some {k:=.bP e,..}=>match look tt e,r x,lo,hi.map r,lg.map r with
   |some {size,..},some<|.v<|.bP k n get,none,some<|some<|.v<|.int _ b,some (some<|.v<|.int _ c)=>bif Nat.beq k size then some (.go {e:=some {d:=.full k b.toNat get},rs:=g.rs,aC:=[b=c,hB b n=true]})else none
   |_,_,_,_,_=>none
  |_,_=>none
 |.fieldAddr s x f=>match r x,look tt s with
  |some (.ptr q off),some {k:=.eh cT,..}=>match cT[f]? with
   |some (o1,_,sz)=>bif Nat.ble 1 sz then val (some<|.ptr q<|off+o1)else none
   |none=>none
  |some (
   .fD (.agg cs)),some {k:=.eh cT,..}=>match cT[f]? with
   |some (
    o1,ft,sz)=>match look tt ft with
    |some aK=>bif Nat.ble 1 sz&&Nat.ble (o1+sz) cs.length then
     bif aK.k.isAgg then val (some<|.fD<|.agg<|(cs.drop o1).take sz)else bif Nat.beq sz 1 then match cs[o1]? with
      |some c=>bif c.isAgg then none else val (some<|.fD c)
      |none=>none
     else none
     else none
    |none=>none
   |none=>none
  |_,_=>none
 |.field s x f=>match r x,look tt s with
  |some (
   .v (.agg cs)),some {k:=.eh cT,..}=>match cT[f]? with
   |some (o1,ft,sz)=>match look tt ft with
    |some aK=>bif Nat.ble (o1+sz) cs.length then bif aK.k.isAgg then val (some<|.v<|.agg<|(cs.drop o1).take sz)else match cs[o1]? with
     |some c=>val<|some<|.v c
     |none=>none
     else none
    |none=>none
   |none=>none
  |some (.agg cs),some {k:=.eh cT,..}=>match cT[f]? with
   |some (o1,ft,sz)=>match look tt ft,cs[o1]? with
    |some aK,some c=>bif aK.k.isAgg || !Nat.beq sz 1||s8 c then none else val (some c)
    |_,_=>none
   |none=>none
  |_,_=>none
 |.indexAddr t x i=>match r x,r i,look tt t with
  |some (.v<|.bP k n get),some<|.v<|.int _ j,some {k:=.bP e,..}=>match look tt e with
   |some {size,..}=>bif Nat.beq k size&&Nat.ble 1 size then K7 (get j.toNat) .fD [aP j n=true]else none
   |none=>none
  |_,_,_=>none
 |.index t x i=>match r x,r i,look tt t with
  |some (.v<|.str s),some<|.v<|.int _ j,some {k:=.str,..}=>FH<|some (.int .u8 (s.getD j.toNat 0).toNat,[aP j s.length=true])
  |_,_,_=>none
 |.typeAssert x _ t ok=>match r x,look tt t with
  |some (.v<|.iface b8 y),some {k,..}=>match k with
   |.rI=>none
   |_=>bif Nat.beq b8 t then val (some<|bif ok then .cw [.v y,.v<|.bool true]else .v y)else none
  |_,_=>none
 |.extract x i=>match r x with
  |some (.cw ds)=>val ds[i]?
  |_=>none
 |.call c=>match c.callee with
  |.value x=>match r x,nk (rd g.env g.cf p tt) c.args.toList c.argTypes.toList with
   |some (.fn f fM),some ds=>Bx cF tt g p c.args.toList c.argTypes.toList f<|ds++fM
   |_,_=>none
  |.builtin .len=>match mapM' (λy=>r y) c.args.toList,(c.argTypes.toList[0]?).bind (look tt) with
   |some [.v<|.str s],some {k:=.str,..}=>val<|some<|.v<|.int .i64 s.length
   |some [.v<|.bP _ n _],some {k:=.bP _,..}=>val<|some<|.v<|.int .i64 n
   |_,_=>none
  |.builtin .append=>match c.args.toList,(c.argTypes.toList[0]?).bind<|look tt,(c.argTypes.toList[1]?).bind (look tt) with
   |[.tmp t,x],some {k:=.bP e,..},some t2=>match look tt e,r<|.tmp t,r x,look g.env t,g.rs with
    |some cH,some<|.v<|.bP k n get,some d2,some ⟨_,some a7⟩,.val y::rs=>
     bif Nat.beq e a7&&Nat.beq k cH.size&&Nat.ble 1 cH.size&&Nat.ble 1 cH.bytes&&p.isEmpty then
      match d2,t2.k with
      |.v (.bP ak m nQ),.bP _=>bif Nat.beq ak k then
       some (.go {e:=some {d:=.v y,own:=some e},ik:=[t],rs,aC:=[ij (.bP k (n+m) λi=>bif Nat.blt i n then get i else nQ (i-n)) y,room (n+m) cH.bytes=true]})
       else none
      |.v (.str s),.str=>bif Nat.beq k 1 then
       some (.go {e:=some {d:=.v y,own:=some e},ik:=[t],rs,aC:=[ij (.bP k (n+s.length) λi=>bif Nat.blt i n then get i else .int .u8 (s.getD (i-n) 0).toNat) y,room (n+s.length) cH.bytes=true]})
       else none
      |_,_=>none
     else none
    |some cH,some<|.full k n get,some d2,_,.val y::rs=>
     bif Nat.beq k cH.size&&Nat.ble 1 cH.size&&Nat.ble 1 cH.bytes&&p.isEmpty then
      match d2,t2.k with
      |.v (.bP ak m nQ),.bP _=>bif Nat.beq ak k&&Nat.ble 1 m then
       some (.go {e:=some {d:=.v y,own:=some e},ik:=[t],rs,aC:=[ij (.bP k (n+m) λi=>bif Nat.blt i n then get i else nQ (i-n)) y,room (n+m) cH.bytes=true]})
       else none
      |_,_=>none
     else none
    |_,_,_,_,_=>none
   |_,_,_=>none
  |.builtin .min=>match mapM' (λy=>r y) c.args.toList with
   |some [.v<|.int k a,.v<|.int ak b]=>bif decide (k=ak)then val (some<|.v<|.int k<|bif decide (b<a)then b else a)else none
   |_=>none
  |.builtin .max=>match mapM' (λy=>r y) c.args.toList with
   |some [.v<|.int k a,.v<|.int ak b]=>bif decide (k=ak)then val (some<|.v<|.int k<|bif decide (a<b)then b else a)else none
   |_=>none
  |_=>none
 |.panic x=>match r x with
  |some (.v<|.iface t y)=>some<|.bv (.iface t y) [] []
  |_=>none
 |_=>none
def hX:List Nat->List (Nat×aS)->List (Nat×aS)
 |[],a=>a
 |t::l,a=>match look a t with
  |some e=>(t,{e with own:=none})::hX l a
  |none=>hX l a
inductive uV where
 |go (g:dt)
 |bv (x:V) (st:aA) (aC:List Prop)
def rM:List (Nat×aS)->List (Nat×aS)
 |[]=>[]
 |(t,e)::l=>(t,{d:=e.d})::rM l
def rN(ops:List Oper)(g:dt)(o:Oper):Option Path:=
 match o.guard with
 |none=>some []
 |some (j,w)=>match(ops[j]?).bind (·.dst) with
  |some t=>match look g.cf t with
   |some (q,.v<|.bool _)=>some<|q++[(t,w)]
   |some _=>none
   |none=>match look g.env t with
    |some ⟨.v<|.bool _,_⟩=>some [(t,w)]
    |_=>none
  |none=>none
def BA(a:List<|Nat×Path×D)(t:Nat):Bool:=a.all λx=>Nat.beq x.1 t||x.2.1.all λy=>!Nat.beq y.1 t
def lh(
 cF:hC) (tt:dI) (N:Nat) (ops:List Oper) (g:dt) (o:Oper):Option uV:=
 match rN ops g o with
 |none=>none
 |some p=>
  match step1 cF tt ops g p o with
  |none=>none
  |some (.bv x b aC)=>bif p.isEmpty then some (.bv x {env:=rM g.env,H:=b++g.H,aD:=g.aD} (aC++g.aC))else none
  |some (
   .go f)=>
   let a:dt:={g with rs:=f.rs,aC:=f.aC.map (under g p)++g.aC}
   match o.dst with
   |none=>bif p.isEmpty then some (.go {a with env:=hX f.ik g.env,H:=f.hs++g.H,aD:=g.aD+f.fj})else none
   |some t=>bif Nat.blt t N&&BA g.cf t then
    match p with
    |[]=>some (.go {a with
     env:=match f.e with|some e=>(t,e)::hX f.ik g.env|none=>del (hX f.ik g.env) t
     cf:=del g.cf t,H:=f.hs++g.H,aD:=g.aD+f.fj})
    |_::_=>match f.e,f.hs,f.ik with
     |some e,[],[]=>bif p.all (λy=>!Nat.beq y.1 t)&&Nat.beq f.fj 0 then some (.go {a with env:=del g.env t,cf:=(t,p,e.d)::del g.cf t})else none
     |_,_,_=>none
    else none
def li(a:hC)(tt:dI)(N:Nat)(ops:List Oper):List Oper->dt->Option uV
 |[],g=>some<|.go g
 |o::l,g=>match lh a tt N ops g o with
  |some (.go b)=>li a tt N ops l b
  |x=>x
mutual
def below(n:Nat):D->Bool
 |.v _ |.fD _ |.full _ _ _ |.ex _ _=>true
 |.ptr r _=>Nat.blt r n
 |.cn r _ _=>Nat.blt r n
 |.fn _ b=>ym n b
 |.agg a |.cw a=>ym n a
def ym(n:Nat):List D->Bool
 |[]=>true
 |d::l=>below n d&&ym n l
end
def uW(n:Nat):List aS->Bool
 |[]=>true
 |e::l=>below n e.d&&uW n l
def FJ(a:List<|Nat×aS):List Nat->Option (List<|Nat×aS)
 |[]=>some []
 |t::l=>match look a t,FJ a l with
  |some e,some b=>some<|(t,e)::b
  |_,_=>none
def FK(H:List<|Nat×List aS):List Nat->Option (List<|Nat×List aS)
 |[]=>some []
 |r::l=>match look H r,FK H l with
  |some e,some a=>some<|(r,e)::a
  |_,_=>none
def uX(live boxes:List Nat)(n:Nat)(env:List<|Nat×aS)(H:List<|Nat×List aS)(aD:Nat):Option aA:=
 match FJ env live,FK H boxes with
 |some a,some b=>bif Nat.ble n aD&&a.all (λx=>below n x.2.d)&&b.all (λx=>Nat.blt x.1 n&&uW n x.2)then some {env:=a,H:=b,aD:=n}else none
 |_,_=>none
inductive Fin where
 |go (st:aA) (aC:List Prop)
 |bv (x:V) (st:aA) (aC:List Prop)
def cY.mono{M M':Mem}(w:M.le M'){v:Value}{x:V}(h:cY M v x):cY M' v x:=by
 induction h with
 |int k n=>exact .int k n
 |bool b=>exact .bool b
 |str l=>exact .str l
 |agg m u o d _ e=>exact .agg m u o d e
 |mp k c=>exact .mp k c
 |oZ a k c=>exact .oZ a k c
 |bP b f k n g c val s p hm d _ e=>exact .bP b f k n g c val s p (λi j r q=>w _ _ _<|hm i j r q) d e
 |iface t v x _ e=>exact .iface t v x e
 |hO=>exact .hO
 |kj=>exact .kj
 |kE=>exact .kE
 |any v d=>exact .any v d
 |qz k c=>exact .qz k c
inductive cg(M:Mem)(β:Nat->Option Nat):Value->D->Prop where
 |v (u:Value) (x:V) (h:cY M u x):cg M β u (.v x)
 |ptr (r off b:Nat) (h:β r=some b):cg M β (.pointer<|some ⟨b,off,none⟩) (.ptr r off)
 |nl (r off:Nat) (u:TypeId):cg M β (.pointer none) (.cn r off u)
 |cn (r off b:Nat) (u:TypeId) (h:β r=some b):cg M β (.pointer<|some ⟨b,off,none⟩) (.cn r off u)
 |fD (b off:Nat) (x:V) (val:Nat->Value) (cR:∀j,j<x.cells.length->M b (off+j)=some (val j)) (h1:∀j,j<x.cells.length->(val j).oneCell'=true)
  (h:∀(j:Nat) c,x.cells[j]? = some c->cY M (val j) c):cg M β (.pointer<|some ⟨b,off,none⟩) (.fD x)
 |full (base:Option Addr) (k n:Nat) (get:Nat->V) (h:cY M (.slice base n n)<|.bP k n get):cg M β (.slice base n n) (.full k n get)
 |ex (u:Value) (x:V) (h:cY M u x) (h1:u.oneCell'=true):cg M β u (.ex u x)
 |fn (f:FuncId) (vs:List Value) (cs:List D) (hn:vs.length=cs.length)
  (h:∀(i:Nat) v c,vs[i]? = some v->cs[i]? = some c->cg M β v c):cg M β (.func (.func f) #[] ⟨vs⟩) (.fn f cs)
 |agg (vs:List Value) (cs:List D) (hn:vs.length=cs.length) (h1:∀v,v∈vs->v.oneCell'=true)
  (h:∀(i:Nat) v c,vs[i]? = some v->cs[i]? = some c->cg M β v c):cg M β (.agg ⟨vs⟩) (.agg cs)
 |cw (vs:List Value) (cs:List D) (hn:vs.length=cs.length)
  (h:∀(i:Nat) v c,vs[i]? = some v->cs[i]? = some c->cg M β v c):cg M β (.tuple ⟨vs⟩) (.cw cs)
def cg.mono{M M':Mem}{β:Nat->Option Nat}(l:M.le M'){v:Value}{d:D}(h:cg M β v d):cg M' β v d:=by
 induction h with
 |v u x h=>exact .v u x (h.mono l)
 |ptr r a b h=>exact .ptr r a b h
 |nl r a u=>exact .nl r a u
 |cn r a b u h=>exact .cn r a b u h
 |fD b a x val hm o h=>exact .fD b a x val (λj s=>l _ _ _<|hm j s) o (λj c t=>(h j c t).mono l)
 |full b k n p h=>exact .full b k n p (h.mono l)
 |ex u x h q=>exact .ex u x (h.mono l) q
 |fn f e i g _ m=>exact .fn f e i g m
 |agg e i g o _ m=>exact .agg e i g o m
 |cw e i g _ m=>exact .cw e i g m
def wD{n:Nat}:∀{l:List D} {i:Nat} {d:D},ym n l=true->l[i]? = some d->below n d=true
 |[],_,_,_,h=>by simp at h
 |d::l,0,_,a,h=>by simp[ym]at a;simp at h;exact h ▸ a.1
 |d::l,i+1,_,a,h=>by simp[ym]at a;simp at h;exact wD a.2 h
def cg.acs{M:Mem}{β β':Nat->Option Nat}{n:Nat}(t:∀r,r<n->β' r=β r){v:Value}{d:D}(h:cg M β v d):Ab.below n d=true->cg M β' v d:=by
 induction h with
 |v u x h=>intro _;exact .v u x h
 |ptr r a b h=>intro e;exact .ptr r a b (by rw[t r<|by simpa[Ab.below,ph]using e];exact h)
 |nl r a u=>intro e;exact .nl r a u
 |cn r a b u h=>intro e;exact .cn r a b u (by rw[t r<|by simpa[Ab.below,ph]using e];exact h)
 |fD b a x val y q h=>intro _;exact .fD b a x val y q h
 |full b k n s h=>intro _;exact .full b k n s h
 |ex u x h w=>intro _;exact .ex u x h w
 |fn f j o m _ p=>intro e;exact .fn f j o m λi v c l g=>p i v c l g<|wD (by simpa[Ab.below]using e) g
 |agg j o m q _ p=>intro e;exact .agg j o m q λi v c l g=>p i v c l g<|wD (by simpa[Ab.below]using e) g
 |cw j o m _ p=>intro e;exact .cw j o m λi v c l g=>p i v c l g (wD (by simpa[Ab.below]using e) g)
def BB{f:Nat->Option Nat}:∀{l a:List D},mP f l=some a->l.length=a.length/\∀(i:Nat) d,l[i]? = some d->∃c,a[i]? = some c/\eJ f d=some c
 |[],a,h=>by simp[mP]at h;subst h;simp
 |d::l,a,h=>by
  simp only[mP]at h;split at h<;>simp at h
  rename_i c k hd j;subst h;let⟨g,e⟩:=BB j;refine⟨by simp[g],λi x b=>?_⟩
  cases i with
  |zero=>simp at b;subst b;exact⟨c,by simp,hd⟩
  |succ i=>simp at b;simpa using e i x b
def cg.eJ{M:Mem}{β β':Nat->Option Nat}{f:Nat->Option Nat}(hY:∀r s b,f r=some s->β r=some b->β' s=some b){v:Value}{d:D}(h:cg M β v d):
 ∀{e},eJ f d=some e->cg M β' v e:=by
 induction h with
 |v u x h=>intro e hd;simp[Ab.eJ]at hd;subst hd;exact .v u x h
 |ptr r a b h=>
  intro e hd;simp only[Ab.eJ,dC]at hd;obtain⟨s,B,rfl⟩:=hd;exact .ptr s a b<|hY r s b B h
 |nl r a u=>
  intro e hd;simp only[Ab.eJ,dC]at hd;obtain⟨s,B,rfl⟩:=hd;exact .nl s a u
 |cn r a b u h=>
  intro e hd;simp only[Ab.eJ,dC]at hd;obtain⟨s,B,rfl⟩:=hd;exact .cn s a b u<|hY r s b B h
 |fD b a x val J w h=>intro e hd;simp[Ab.eJ]at hd;subst hd;exact .fD b a x val J w h
 |full b k n E h=>intro e hd;simp[Ab.eJ]at hd;subst hd;exact .full b k n E h
 |ex u x h I=>intro e hd;simp[Ab.eJ]at hd;subst hd;exact .ex u x h I
 |fn f p o F _ A=>
  intro e hd;simp only[Ab.eJ,dC]at hd;obtain⟨g,y,rfl⟩:=hd;let⟨w,t⟩:=BB y;refine .fn f p g (by omega) λi v c q l=>?_
  have j:i<o.length:=by have:=(eR.1 l).1;omega
  let⟨H,m,z⟩:=t i o[i]<|ed j;rw[l]at m;cases m;exact A i v _ q (ed j) z
 |agg p o F w _ A=>
  intro e hd;simp only[Ab.eJ,dC]at hd;obtain⟨g,y,rfl⟩:=hd;let⟨K,t⟩:=BB y;refine .agg p g (by omega) w λi v c q l=>?_
  have j:i<o.length:=by have:=(eR.1 l).1;omega
  let⟨H,m,z⟩:=t i o[i]<|ed j;rw[l]at m;cases m;exact A i v _ q (ed j) z
 |cw p o F _ A=>
  intro e hd;simp only[Ab.eJ,dC]at hd;obtain⟨g,y,rfl⟩:=hd;let⟨w,t⟩:=BB y;refine .cw p g (by omega) λi v c q l=>?_
  have j:i<o.length:=by have:=(eR.1 l).1;omega
  let⟨H,m,z⟩:=t i o[i]<|ed j;rw[l]at m;cases m;exact A i v _ q (ed j) z
def cg.Sl{M:Mem}{β β':Nat->Option Nat}(m:∀r b,β r=some b->β' r=some b){v:Value}{d:D}(h:cg M β v d):cg M β' v d:=by
 induction h with
 |v u x h=>exact .v u x h
 |ptr r a b h=>exact .ptr r a b (m r b h)
 |nl r a u=>exact .nl r a u
 |cn r a b u h=>exact .cn r a b u (m r b h)
 |fD b a x val p j h=>exact .fD b a x val p j h
 |full b k n l h=>exact .full b k n l h
 |ex u x h o=>exact .ex u x h o
 |fn f c g e _ i=>exact .fn f c g e i
 |agg c g e j _ i=>exact .agg c g e j i
 |cw c g e _ i=>exact .cw c g e i
def cg.amx{M:Mem}{β β':Nat->Option Nat}{n:Nat}(hY:∀r,r<n->∀b,β r=some b->β' r=some b){v:Value}{d:D}(h:cg M β v d):Ab.below n d=true->cg M β' v d:=by
 induction h with
 |v u x h=>intro _;exact .v u x h
 |ptr r a b h=>intro e;exact .ptr r a b<|hY r (by simpa[Ab.below,ph]using e) b h
 |nl r a u=>intro e;exact .nl r a u
 |cn r a b u h=>intro e;exact .cn r a b u<|hY r (by simpa[Ab.below,ph]using e) b h
 |fD b a x val w q h=>intro _;exact .fD b a x val w q h
 |full b k n s h=>intro _;exact .full b k n s h
 |ex u x h t=>intro _;exact .ex u x h t
 |fn f j o m _ p=>intro e;exact .fn f j o m λi v c l g=>p i v c l g<|wD (by simpa[Ab.below]using e) g
 |agg j o m q _ p=>intro e;exact .agg j o m q λi v c l g=>p i v c l g<|wD (by simpa[Ab.below]using e) g
 |cw j o m _ p=>intro e;exact .cw j o m λi v c l g=>p i v c l g (wD (by simpa[Ab.below]using e) g)
structure Ctx where
 s_:Mem
 F:Nat->Option Obj
 hE:Nat->Option Nat
 gz:Os×Array (Nat×ByteArray)
 ds:List Deferred:=[]
inductive Loc where
 |slot (s:Nat)
 |cell (r i:Nat)
deriving DecidableEq
def aA.at(st:aA):Loc->Option aS
 |.slot s=>look st.env s
 |.cell r i=>(look st.H r).bind (·[i]?)
def ch(a:Array Value)(w:World)(β:Nat->Option Nat):Loc->Value
 |.slot s=>a.getD s undef
 |.cell r i=>match β r with
  |some b=>(w.cell? ⟨b,i,none⟩).getD undef
  |none=>undef
def lj:Value->Option Nat
 |.slice (some a) _ _=>some a.block
 |_=>none
def nm(P:Program)(F:Nat->Option Obj)(M:Mem)(w:World)(T:TypeId)(v:Value):Prop:=
 v = .slice none 0 0\/∃b n a c d,v = .slice (some ⟨b,0,none⟩) n a/\n<=a/\w.heap[b]? = some (.cells ⟨c⟩ d (0,0))/\a*P.cellsOf T<=c.length/\
  (∀o,n*P.cellsOf T<=o->M b o=none)/\F b=none/\d=T
def lk(P:Program)(F:Nat->Option Obj)(M:Mem)(w:World)(T:TypeId):Value->Prop
 |.agg a=>(∀x,x∈marks T->nm P F M w x.2 (a.getD x.1 undef))/\∀x,x∈marks T->∀y,y∈marks T->x.1≠y.1->∀b,lj (a.getD x.1 undef)=some b->lj (a.getD y.1 undef)≠some b
 |v=>nm P F M w T v
def km(T:TypeId):Value->Nat->Prop
 |.agg a,b=>∃x,x∈marks T/\lj (a.getD x.1 undef)=some b
 |v,b=>lj v=some b
def Sm (P : Program) : List Nat := ["strconv.ErrSyntax", "strconv.ErrRange"].filterMap P.globalNamed
def Sn:Array Value:=((List.range 20).map λi=>Value.int .u64 ((10 ^ i:Nat):Int)).toArray
def ta(P:Program)(F:Nat->Option Obj):Prop:=
 (∀g,g∈Sm P->∃c t a b,F g=some (.cells c t a)/\c[0]? = some b/\(b = .nilIface\/∃e d,b = .iface e d))/\
 ∀ g, P.globalNamed "internal/strconv.uint64pow10" = some g -> ∃ t a, F g = some (.cells Sn t a)
def ta.mono{P:Program}{F e:Nat->Option Obj}(h:ta P F)(f:∀b i,F b=some i->e b=some i):ta P e:=⟨λg c=>by
 let⟨l,t,a,k,d,j,m⟩:=h.1 g c;exact⟨l,t,a,k,f _ _ d,j,m⟩,λg c=>by
 let⟨t,a,d⟩:=h.2 g c;exact⟨t,a,f _ _ d⟩⟩
def mR(P:Program)(T:TypeId)(n:Nat)(cs:List aS):Prop:=∀e,e∈cs->∀r a u,e.d = .cn r a u->liesAt P P.depth T (n / P.cellsOf T) a u 1=true
def act(P:Program)(T:TypeId)(vs:List Value)(cs:List aS):Prop:=(∀v,v∈vs->v.oneCell'=true)/\mR P T vs.length cs
def mR.sub{P:Program}{T:TypeId}{n:Nat}{cs U0:List aS}(h:mR P T n cs)(c:∀e,e∈U0->∃a,a∈cs/\a.d=e.d):mR P T n U0:=λe f r b u hd=>by
 let⟨a,i,g⟩:=c e f;exact h a i r b u (g.trans hd)
structure bh(P:Program)(K:Ctx)(M:Mem)(β:Nat->Option Nat)(st:aA)(tmps:Array Value)(w:World):Prop where
 dp:∀l e,st.at l=some e->cg M β (ch tmps w β l) e.d
 own:∀l e T,st.at l=some e->e.own=some T->lk P K.F M w T (ch tmps w β l)
 uniq:∀l cl e a7 T T' b,st.at l=some e->e.own=some T->st.at cl=some a7->a7.own=some T'->
  km T (ch tmps w β l) b->km T' (ch tmps w β cl) b->l=cl
 unbox:∀l e T b r cs,st.at l=some e->e.own=some T->km T (ch tmps w β l) b->look st.H r=some cs->β r≠some b
 box:∀r cs,look st.H r=some cs->∃b vs T,β r=some b/\w.heap[b]? = some (.cells ⟨vs⟩ T (0,0))/\vs.length=cs.length/\(∀o,M b o=none)/\K.F b=none/\act P T vs cs
 inj:∀r cI b cs U0,look st.H r=some cs->look st.H cI=some U0->β r=some b->β cI=some b->r=cI
 lt:∀r b,β r=some b->r<st.aD
 mem:∀b o v,M b o=some v->w.cell? ⟨b,o,none⟩=some v
 m0:K.s_.le M
 frame:∀b aC,K.F b=some aC->w.heap[b]? = some aC/\∀o,M b o=K.s_ b o
 ia:∀r b,K.hE r=some b->β r=some b
 il:ta P K.F
 gz:(w.os,w.output)=K.gz
def aA.FL{st:aA}{r i:Nat}{cs:List aS}(h:look st.H r=some cs):st.at (.cell r i)=cs[i]? := by simp[aA.at,h]
def FM:∀{l:List D},uS l=true->∀d,d∈l->∀r off u,d ≠ .cn r off u
 |[],h,d,hd=>by cases hd
 |x::l,h,d,hd=>by
  have a:uS l=true:=by cases x<;>first|exact h|cases h
  rcases gh.1 hd with rfl|lO
  ·intro r off u e;subst e;cases h
  ·exact FM a d lO
def mR.So{P:Program}{T:TypeId}{n r:Nat}{st st':aA}{cs U0:List aS}(h:mR P T n cs)(m:look st.H r=some cs)(k:look st'.H r=some U0)
 (j:∀l b,st'.at l=some b->∃e,st.at l=some e/\(e.d=b.d\/∀q a u,b.d ≠ .cn q a u)):mR P T n U0:=λe f q a u hd=>by
 obtain⟨i,g,rfl⟩:=qN f;let⟨o,c,g2⟩:=j (.cell r i) U0[i] (by rw[aA.FL k];exact ed g)
 rw[aA.FL m]at c;rcases g2 with g2|g2
 ·exact h o (hA c) q a u<|g2.trans hd
 ·exact absurd hd (g2 q a u)
def du{α:Type}(j:Nat)(x:α)(l:List<|Nat×α)(i:Nat):look ((j,x)::l) i=if j=i then some x else look l i:=by
 by_cases h:j=i
 ·simp[look,h]
 ·have:Nat.beq j i=false:=by rw[sw];simpa using h
  simp[look,h,this]
def tb{α:Type}(l:List<|Nat×α)(t i:Nat):look (del l t) i=if t=i then none else look l i:=by
 induction l with
 |nil=>simp[del,look]
 |cons x l b=>
  let⟨j,x⟩:=x;by_cases h:j=t
  ·subst h;have:Nat.beq j j=true:=by simp
   simp only[del,this,oK,b,du];by_cases a:j=i<;>simp[a]
  ·have c:Nat.beq j t=false:=by rw[sw];simpa using h
   simp only[del,c,qe,du,b];by_cases a:j=i
   ·subst a;simp[Ne.symm h]
   ·simp[a]
def cell_of_heap{w:World}{b o:Nat}{vs:List Value}{T:TypeId}{qD:Nat×Nat}(h:w.heap[b]? = some (.cells ⟨vs⟩ T qD)):w.cell? ⟨b,o,none⟩=vs[o]? := by
 simp[World.cell?,h]
def lt_of_heap{w:World}{b:Nat}{a:Obj}(h:w.heap[b]? = some a):b<w.heap.size:=by
 rcases yn b w.heap.size with b'|b'
 ·exact b'
 ·simp[xG b']at h
def lt_of_cell{w:World}{b o:Nat}{v:Value}(h:w.cell? ⟨b,o,none⟩=some v):b<w.heap.size:=by
 unfold World.cell? at h;split at h
 ·rename_i a;exact lt_of_heap a
 ·cases h
def uZ{w w':World}{b o:Nat}(h:w'.heap[b]? = w.heap[b]?):w'.cell? ⟨b,o,none⟩=w.cell? ⟨b,o,none⟩:=by
 simp[World.cell?,h]
section
variable {P:Program} {K:Ctx} {M M':Mem} {β β':Nat->Option Nat} {st st':aA} {a f:Array Value} {w w':World}
def nm.lt{F:Nat->Option Obj}{T:TypeId}{v:Value}{b:Nat}(h:nm P F M w T v)(c:lj v=some b):b<w.heap.size:=by
 rcases h with rfl|⟨i,n,d,g,j,rfl,_,e,_⟩
 ·simp[lj]at c
 ·simp[lj]at c;subst c;exact lt_of_heap e
def nm.free{F:Nat->Option Obj}{T:TypeId}{v:Value}{b:Nat}(h:nm P F M w T v)(c:lj v=some b):F b=none:=by
 rcases h with rfl|⟨j,n,e,g,k,rfl,_,i,_,_,d,_⟩
 ·simp[lj]at c
 ·simp[lj]at c;subst c;exact d
def nm.congr{F:Nat->Option Obj}{T:TypeId}{v:Value}(h:nm P F M w T v)(g:∀b,lj v=some b->w'.heap[b]? = w.heap[b]?)(l:∀b o,lj v=some b->M' b o=M b o):
 nm P F M' w' T v:=by
 rcases h with rfl|⟨d,n,c,e,q,rfl,j,m,i,ah,k⟩
 ·exact .inl rfl
 ·exact .inr ⟨d,n,c,e,q,rfl,j,(g d rfl).trans m,i,λo p=>(l d o rfl).trans<|ah o p,k⟩
def nm.at{F:Nat->Option Obj}{T:TypeId}{v:Value}(h:nm P F M w T v):lk P F M w T v:=by
 rcases h with rfl|⟨j,n,b,c,l,rfl,e,i,d,k,g⟩
 ·exact .inl rfl
 ·exact .inr ⟨j,n,b,c,l,rfl,e,i,d,k,g⟩
def nm.BC{F d:Nat->Option Obj}{T:TypeId}{v:Value}(h:nm P F M w T v)(k:∀b,lj v=some b->F b=none->d b=none):nm P d M w T v:=by
 rcases h with rfl|⟨e,n,c,g,q,rfl,j,l,i,o,m,p⟩
 ·exact .inl rfl
 ·exact .inr ⟨e,n,c,g,q,rfl,j,l,i,o,k e rfl m,p⟩
def lk.cases{F:Nat->Option Obj}{T:TypeId}{v:Value}(h:lk P F M w T v):
 (∃c,v = .agg c)\/(nm P F M w T v/\∀b,km T v b↔lj v=some b):=by
 cases v<;>first
  |exact .inl ⟨_,rfl⟩
  |exact .inr ⟨h,λ_=>Iff.rfl⟩
def lk.lt{F:Nat->Option Obj}{T:TypeId}{v:Value}{b:Nat}(h:lk P F M w T v)(c:km T v b):b<w.heap.size:=by
 rcases h.cases with⟨i,rfl⟩|⟨g,e⟩
 ·let⟨x,d,c⟩:=c;exact(h.1 x d).lt c
 ·exact g.lt ((e b).1 c)
def lk.free{F:Nat->Option Obj}{T:TypeId}{v:Value}{b:Nat}(h:lk P F M w T v)(c:km T v b):F b=none:=by
 rcases h.cases with⟨i,rfl⟩|⟨g,e⟩
 ·let⟨x,d,c⟩:=c;exact(h.1 x d).free c
 ·exact g.free ((e b).1 c)
def lk.congr{F:Nat->Option Obj}{T:TypeId}{v:Value}(h:lk P F M w T v)(e:∀b,km T v b->w'.heap[b]? = w.heap[b]?)(i:∀b o,km T v b->M' b o=M b o):
 lk P F M' w' T v:=by
 rcases h.cases with⟨k,rfl⟩|⟨j,g⟩
 ·exact⟨λx d=>(h.1 x d).congr (λb c=>e b ⟨x,d,c⟩)<|λb o c=>i b o ⟨x,d,c⟩,h.2⟩
 ·exact(j.congr (λb c=>e b<|(g b).2 c)<|λb o c=>i b o<|(g b).2 c).at
def lk.BC{F d:Nat->Option Obj}{T:TypeId}{v:Value}(h:lk P F M w T v)(g:∀b,km T v b->F b=none->d b=none):lk P d M w T v:=by
 rcases h.cases with⟨k,rfl⟩|⟨j,i⟩
 ·exact⟨λx e=>(h.1 x e).BC λb c=>g b ⟨x,e,c⟩,h.2⟩
 ·exact(j.BC λb c=>g b<|(i b).2 c).at
def lk.bP{F:Nat->Option Obj}{T:TypeId}{v:Value}{c:Mem}{k n:Nat}{get:Nat->V}(h:lk P F M w T v){d:Nat->Option Nat}(b:cg c d v<|.v<|.bP k n get):nm P F M w T v:=by
 cases b with|v _ _ b=>cases b<;>exact h
def Sp(h:bh P K M β st a w){r i:Nat}{cs:List aS}{e:aS}(k:look st.H r=some cs)(hi:cs[i]? = some e):
 ∃b c T v,β r=some b/\w.heap[b]? = some (.cells ⟨c⟩ T (0,0))/\c[i]? = some v/\ch a w β (.cell r i)=v:=by
 let⟨b,c,T,g,j,m,_⟩:=h.box r cs k;have l:i<cs.length:=(eR.1 hi).1;have d:c[i]? = some c[i]:=ed (by omega)
 exact⟨b,c,T,_,g,j,d,by simp only[ch,g,cell_of_heap j,d,nB]⟩
def bh.FN(h:bh P K M β st a w){r b:Nat}{cs:List aS}(g:look st.H r=some cs)(d:β r=some b):b<w.heap.size:=by
 let⟨j,i,T,c,e,_⟩:=h.box r cs g;rw[d]at c;cases c;exact lt_of_heap e
def bh.free(h:bh P K M β st a w)(b:Nat)(S:K.F b=none)(z:∀r cs,look st.H r=some cs->β r≠some b)
 (Q:∀l e T,st.at l=some e->e.own=some T->¬ km T (ch a w β l) b)
 (hw:∀k,k≠b->k<w.heap.size->w'.heap[k]? = w.heap[k]?) (I:M.le M') (t:∀k o,k≠b->M' k o=M k o)
 (N:∀o v,M' b o=some v->w'.cell? ⟨b,o,none⟩=some v) (O:(w'.os,w'.output)=(w.os,w.output):=by rfl):bh P K M' β st a w':=by
 have q:∀l e,st.at l=some e->ch a w' β l=ch a w β l:=by
  intro l e j;cases l with
  |slot s=>rfl
  |cell r i=>
   simp only[aA.at]at j;cases m:look st.H r with
   |none=>simp[m]at j
   |some cs=>
    let⟨d,A,T,c,x,_⟩:=h.box r cs m;have g:d≠b:=λe=>z r cs m<|e ▸ c
    simp only[ch,c];rw[uZ<|hw d g<|lt_of_heap x]
 constructor
 ·intro l e j;rw[q l e j];exact(h.dp l e j).mono I
 ·intro l e T j n;rw[q l e j];refine(h.own l e T j n).congr (λd c=>hw d ?_<|(h.own l e T j n).lt c) (λd o c=>t d o ?_) <;>
  ·rintro rfl;exact Q l e T j n c
 ·intro l E e L T X d j n B R p J;rw[q l e j]at p;rw[q E L B]at J;exact h.uniq l E e L T X d j n B R p J
 ·intro l e T d r cs j n p m;rw[q l e j]at p;exact h.unbox l e T d r cs j n p m
 ·intro r cs m;let⟨d,A,T,c,x,u,h2,U⟩:=h.box r cs m;have g:d≠b:=λe=>z r cs m<|e ▸ c
  exact⟨d,A,T,c,(hw d g<|lt_of_heap x).trans x,u,λo=>(t d o g).trans<|h2 o,U⟩
 ·exact h.inj
 ·exact h.lt
 ·intro d o v y;by_cases g:d=b
  ·subst g;exact N o v y
  ·rw[t d o g]at y;have:=h.mem d o v y
   rw[uZ<|hw d g<|lt_of_cell this];exact this
 ·exact Mem.le_trans h.m0 I
 ·intro d W c;have g:d≠b:=by rintro rfl;rw[S]at c;cases c
  let⟨u,h2⟩:=h.frame d W c;exact⟨(hw d g<|lt_of_heap u).trans u,λo=>(t d o g).trans<|h2 o⟩
 ·exact h.ia
 ·exact h.il
 ·exact O.trans h.gz
def bh.grow(h:bh P K M β st a w)(g:∀b,b<w.heap.size->w'.heap[b]? = w.heap[b]?)(d:(w'.os,w'.output)=(w.os,w.output):=by rfl):bh P K M β st a w':=by
 have j:∀b,w.heap.size<=b->K.F b=none:=by
  intro b c;cases dS:K.F b with
  |none=>rfl
  |some p=>have:=lt_of_heap (h.frame b p dS).1;omega
 refine h.free w.heap.size (j _<|fS _) ?_ ?_ (λb _ c=>g b c) (Mem.le_refl _) (λ_ _ _=>rfl) ?_ d
 ·intro r q m c;have:=h.FN m c;omega
 ·intro l e T n k c;have:=(h.own l e T n k).lt c;omega
 ·intro o v i;have:=lt_of_cell<|h.mem _ _ _ i;omega
def bh.sub(h:bh P K M β st a w)(F:st'.aD=st.aD)
 (m:∀l g,st'.at l=some g->∃e,st.at l=some e/\e.d=g.d/\∀T,g.own=some T->e.own=some T)
 (t:∀r i,look st'.H r=some i->∃k,look st.H r=some k/\k.length=i.length):bh P K M β st' a w:=by
 constructor
 ·intro l g j;let⟨e,c,p,_⟩:=m l g j;rw[<-p];exact h.dp l e c
 ·intro l g T j q;let⟨e,c,_,ah⟩:=m l g j;exact h.own l e T c<|ah T q
 ·intro l y e g T A b j q Q N;let⟨x,c,_,ah⟩:=m l e j;let⟨O,E,_,BD⟩:=m y g Q;exact h.uniq l y x O T A b c (ah T q) E<|BD A N
 ·intro l e T b r k j q o n;let⟨x,c,_,ah⟩:=m l e j;let⟨u,s,_⟩:=t r k n;exact h.unbox l x T b r u c (ah T q) o s
 ·intro r k n;let⟨u,s,hlen⟩:=t r k n;let⟨b,B,T,c,p,ah,Y,Z,X,R⟩:=h.box r u s
  exact⟨b,B,T,c,p,ah.trans hlen,Y,Z,X,R.So s n λl g j=>by
   let⟨e,J,I,_⟩:=m l g j;exact⟨e,J,.inl I⟩⟩
 ·intro r z b k i n L o W;let⟨U,c,_⟩:=t r k n;let⟨S,p,_⟩:=t z i L;exact h.inj r z b U S c p o W
 ·intro r b o;rw[F];exact h.lt r b o
 ·exact h.mem
 ·exact h.m0
 ·exact h.frame
 ·exact h.ia
 ·exact h.il
 ·exact h.gz
def bh.amy(h:bh P K M β st a w)(hn:st'.aD=st.aD)
 (s:∀l j,st'.at l=some j->∃e,st.at l=some e/\((e.d=j.d/\∀T,j.own=some T->e.own=some T)\/∃k g,e.d = .v (.qz k g)/\j.d = .v (.bP k 0 g)))
 (F:∀r o,look st'.H r=some o->∃p,look st.H r=some p/\p.length=o.length):bh P K M β st' a w:=by
 have y:∀l e k g,st.at l=some e->e.d = .v (.qz k g)->ch a w β l = .slice none 0 0:=by
  intro l e k g n hd;have:=h.dp l e n
  rw[hd]at this;generalize ch a w β l=u at this ⊢
  cases this with
  |v u x Z=>cases Z;rfl
 constructor
 ·intro l j n;obtain⟨e,c,⟨i,_⟩|⟨k,g,i,ah⟩⟩:=s l j n
  ·rw[<-i];exact h.dp l e c
  ·rw[ah,y l e k g c i];exact .v _ _<|.mp k g
 ·intro l j T n B;obtain⟨e,c,⟨_,ah⟩|⟨k,g,i,ah⟩⟩:=s l j n
  ·exact h.own l e T c<|ah T B
  ·rw[y l e k g c i];exact .inl rfl
 ·intro l J e j T U b n B da ey m A;obtain⟨z,c,⟨_,ah⟩|⟨k,g,i,ah⟩⟩:=s l e n
  ·obtain⟨Q,N,⟨_,W⟩|⟨k,g,L,W⟩⟩:=s J j da
   ·exact h.uniq l J z Q T U b c (ah T B) N (W U ey) m A
   ·rw[y J Q k g N L]at A;cases A
  ·rw[y l z k g c i]at m;cases m
 ·intro l e T b r p n B m t;let⟨I,E,_⟩:=F r p t;obtain⟨z,c,⟨_,ah⟩|⟨k,g,i,ah⟩⟩:=s l e n
  ·exact h.unbox l z T b r I c (ah T B) m E
  ·rw[y l z k g c i]at m;cases m
 ·intro r p t;let⟨I,E,hlen⟩:=F r p t;let⟨b,X,T,c,i,ah,ay,aO,bG,cG⟩:=h.box r I E
  exact⟨b,X,T,c,i,ah.trans hlen,ay,aO,bG,cG.So E t λl j n=>by
   obtain⟨e,O,⟨g2,_⟩|⟨k,g,_,g3⟩⟩:=s l j n
   ·exact⟨e,O,.inl g2⟩
   ·exact⟨e,O,.inr λq Y u S=>by rw[g3]at S;cases S⟩⟩
 ·intro r R b p o t fr m A;let⟨c1,c,_⟩:=F r p t;let⟨c2,i,_⟩:=F R o fr;exact h.inj r R b c1 c2 c i m A
 ·intro r b m;rw[hn];exact h.lt r b m
 ·exact h.mem
 ·exact h.m0
 ·exact h.frame
 ·exact h.ia
 ·exact h.il
 ·exact h.gz
structure oA(P:Program)(K:Ctx)(M:Mem)(β:Nat->Option Nat)(st:aA)(a:Array Value)(w:World)(l0:Loc)(v:Value)(T:TypeId):Prop where
 own:lk P K.F M w T v
 apart:∀l e T' b,st.at l=some e->e.own=some T'->l≠l0->km T v b->¬ km T' (ch a w β l) b
 unbox:∀b r cs,km T v b->look st.H r=some cs->β r≠some b
def bh.put(h:bh P K M β st a w){t:Nat}{v:Value}{e:aS}(J:t<a.size)(I:cg M β v e.d)
 (y:∀T,e.own=some T->oA P K M β st a w (.slot t) v T):
 bh P K M β {st with env:=(t,e)::st.env} (a.setIfInBounds t v) w:=by
 have u:∀l,({st with env:=(t,e)::st.env}:aA).at l=if l = .slot t then some e else st.at l:=by
  intro l;cases l with
  |slot s=>
   simp only[aA.at,du,Loc.slot.injEq];by_cases n:t=s
   ·subst n;simp
   ·simp[n,Ne.symm n]
  |cell r i=>simp[aA.at]
 have x:∀l,ch (a.setIfInBounds t v) w β l=if l = .slot t then v else ch a w β l:=by
  intro l;cases l with
  |slot s=>
   simp only[ch,Loc.slot.injEq];by_cases n:s=t
   ·subst n;simp[J]
   ·simp[n,Ne.symm n]
  |cell r i=>simp[ch]
 constructor
 ·intro l m c;rw[u]at c;rw[x];by_cases g:l = .slot t
  ·simp only[g,nY]at c ⊢;cases c;exact I
  ·simp only[g,nE]at c ⊢;exact h.dp l m c
 ·intro l m T c k;rw[u]at c;rw[x];by_cases g:l = .slot t
  ·simp only[g,nY]at c ⊢;cases c;exact(y T k).own
  ·simp only[g,nE]at c ⊢;exact h.own l m T c k
 ·intro l A m E T B b c k o z j p;rw[u]at c o;rw[x]at j p;by_cases g:l = .slot t<;>by_cases q:A = .slot t
  ·rw[g,q]
  ·simp only[g,q,nY,nE]at c o j p;cases c;exact absurd p<|(y T k).apart A E B b o z q j
  ·simp only[g,q,nY,nE]at c o j p;cases o;exact absurd j<|(y B z).apart l m T b c k g p
  ·simp only[g,q,nE]at c o j p;exact h.uniq l A m E T B b c k o z j p
 ·intro l m T b r F c k j H;rw[u]at c;rw[x]at j;by_cases g:l = .slot t
  ·simp only[g,nY]at c j;cases c;exact(y T k).unbox b r F j H
  ·simp only[g,nE]at c j;exact h.unbox l m T b r F c k j H
 ·exact h.box
 ·exact h.inj
 ·exact h.lt
 ·exact h.mem
 ·exact h.m0
 ·exact h.frame
 ·exact h.ia
 ·exact h.il
 ·exact h.gz
def bh.drop(h:bh P K M β st a w){t:Nat}{v:Value}:bh P K M β {st with env:=del st.env t} (a.setIfInBounds t v) w:=by
 have z:∀l,({st with env:=del st.env t}:aA).at l=if l = .slot t then none else st.at l:=by
  intro l;cases l with
  |slot s=>
   simp only[aA.at,tb,Loc.slot.injEq];by_cases g:t=s
   ·subst g;simp
   ·simp[g,Ne.symm g]
  |cell r i=>simp[aA.at]
 have d:bh P K M β {st with env:=del st.env t} a w:=by
  refine h.sub rfl (λl n c=>?_)<|λr o p=>⟨o,p,rfl⟩
  rw[z]at c;by_cases q:l = .slot t
  ·simp[q]at c
  ·simp only[q,nE]at c;exact⟨n,c,rfl,λ_ h=>h⟩
 have k:∀l e,({st with env:=del st.env t}:aA).at l=some e->ch (a.setIfInBounds t v) w β l=ch a w β l:=by
  intro l e c;cases l with
  |slot s=>
   have g:t≠s:=by rintro rfl;simp[aA.at,tb]at c
   simp[ch,g]
  |cell r i=>rfl
 constructor
 ·intro l e c;rw[k l e c];exact d.dp l e c
 ·intro l e T c m;rw[k l e c];exact d.own l e T c m
 ·intro l x e n T B b c m u A j y;rw[k l e c]at j;rw[k x n u]at y;exact d.uniq l x e n T B b c m u A j y
 ·intro l e T b r o c m j p;rw[k l e c]at j;exact d.unbox l e T b r o c m j p
 ·exact d.box
 ·exact d.inj
 ·exact d.lt
 ·exact d.mem
 ·exact d.m0
 ·exact d.frame
 ·exact d.ia
 ·exact d.il
 ·exact d.gz
def bh.amA(h:bh P K M β st a w){j n':Nat}(nR:∀b,β j≠some b)(wG:j<n')(aCb:st.aD<=n'){vs:List Value}{T:TypeId}{cs:List aS}(hlen:vs.length=cs.length)(hF:∀v,v∈vs->v.oneCell'=true)(z:mR P T vs.length cs)
 (hv:∀(i:Nat) v e,vs[i]? = some v->cs[i]? = some e->cg M β v e.d/\∀T,e.own=some T->v = .slice none 0 0):
 bh P K M (λr=>if r=j then some w.heap.size else β r) {st with H:=(j,cs)::st.H,aD:=n'} a {w with heap:=w.heap.push (.cells ⟨vs⟩ T (0,0))}:=by
 have Q:∀r b,β r=some b->r≠j:=λr b g e=>nR b<|e ▸ g
 have J:∀r b,β r=some b->(λr=>if r=j then some w.heap.size else β r) r=some b:=by
  intro r b g;simp[Q r b g,g]
 have f':∀{v d},cg M β v d->cg M (λr=>if r=j then some w.heap.size else β r) v d:=by
  intro v d hd;refine hd.Sl ?_;exact J
 have hg:=h.grow (w':={w with heap:=w.heap.push (.cells ⟨vs⟩ T (0,0))}) (λb g=>by simp[wX,AO g])
 have hold:∀r cs,r≠j->look ((j,cs)::st.H) r=look st.H r:=λr cs X=>by simp[du,Ne.symm X]
 have Z:∀r cs,look st.H r=some cs->r≠j:=λr cs k=>by let⟨b,_,_,g,_⟩:=h.box r cs k;exact Q r b g
 have N:∀l e,st.at l=some e->ch a {w with heap:=w.heap.push (.cells ⟨vs⟩ T (0,0))} (λr=>if r=j then some w.heap.size else β r) l=ch a {w with heap:=w.heap.push (.cells ⟨vs⟩ T (0,0))} β l:=by
  intro l e m;cases l with
  |slot s=>rfl
  |cell r i=>
   simp only[aA.at]at m;cases k:look st.H r with
   |none=>simp[k]at m
   |some c=>simp[ch,Z r c k]
 have O:∀i e,cs[i]? = some e->∃v,vs[i]? = some v/\ch a {w with heap:=w.heap.push (.cells ⟨vs⟩ T (0,0))} (λr=>if r=j then some w.heap.size else β r) (.cell j i)=v:=by
  intro i e q;have rO:i<cs.length:=(eR.1 q).1;have e_:vs[i]? = some vs[i]:=ed (by omega)
  exact⟨_,e_,by simp[ch,World.cell?,hlen ▸ rO]⟩
 have L:∀l e,({st with H:=(j,cs)::st.H,aD:=n'}:aA).at l=some e->(∃i,l = .cell j i/\cs[i]? = some e)\/(st.at l=some e/\∀i,l ≠ .cell j i):=by
  intro l e m;cases l with
  |slot s=>exact .inr ⟨m,by simp⟩
  |cell r i=>
   by_cases k:r=j
   ·subst k;simp[aA.at,du]at m;exact .inl ⟨i,rfl,m⟩
   ·refine .inr ⟨?_,by simp[k]⟩
    simpa[aA.at,du,Ne.symm k]using m
 have R:∀l e E,({st with H:=(j,cs)::st.H,aD:=n'}:aA).at l=some e->e.own=some E->(∃i,l = .cell j i)->ch a {w with heap:=w.heap.push (.cells ⟨vs⟩ T (0,0))} (λr=>if r=j then some w.heap.size else β r) l = .slice none 0 0:=by
  rintro l e E m t ⟨i,rfl⟩
  have q:cs[i]? = some e:=by simpa[aA.at,du]using m
  let⟨v,B,A⟩:=O i e q;rw[A];exact(hv i v e B q).2 E t
 constructor
 ·intro l e m;rcases L l e m with⟨i,rfl,q⟩|⟨p,_⟩
  ·let⟨v,B,A⟩:=O i e q;rw[A];exact f' (hv i v e B q).1
  ·rw[N l e p];exact f'<|hg.dp l e p
 ·intro l e E m t;rcases L l e m with⟨i,y,q⟩|⟨p,_⟩
  ·rw[R l e E m t ⟨i,y⟩];exact .inl rfl
  ·rw[N l e p];exact hg.own l e E p t
 ·intro l S e U x W b m t da ey g u;rcases L l e m with⟨i,y,q⟩|⟨p,_⟩
  ·rw[R l e x m t ⟨i,y⟩]at g;cases g
  ·rcases L S U da with⟨i,y,q⟩|⟨lm,_⟩
   ·rw[R S U W da ey ⟨i,y⟩]at u;cases u
   ·rw[N l e p]at g;rw[N S U lm]at u;exact hg.uniq l S e U x W b p t lm ey g u
 ·intro l e x b r c m t g k;rcases L l e m with⟨i,y,q⟩|⟨p,_⟩
  ·rw[R l e x m t ⟨i,y⟩]at g;cases g
  ·rw[N l e p]at g
   have b1:b<w.heap.size:=by
    have B:=(h.own l e x p t)
    have A:ch a {w with heap:=w.heap.push (.cells ⟨vs⟩ T (0,0))} β l=ch a w β l:=by
     cases l with
     |slot s=>rfl
     |cell r i=>
      simp only[aA.at]at p;cases k:look st.H r with
      |none=>simp[k]at p
      |some c=>
       let⟨bj,hP,W,Y,bf,_⟩:=h.box r c k;simp only[ch,Y];rw[uZ (w:=w)<|by simp[wX,AO<|lt_of_heap bf]]
    rw[A]at g;exact B.lt g
   by_cases n:r=j
   ·subst n;simp;omega
   ·simp[n];exact hg.unbox l e x b r c p t g (by simpa[du,Ne.symm n]using k)
 ·intro r c k;by_cases n:r=j
  ·subst n;simp[du]at k;subst k;refine⟨w.heap.size,vs,T,by simp,by simp,hlen,λo=>?_,?_,hF,z⟩
   ·cases hm:M w.heap.size o with
    |none=>rfl
    |some v=>have:=lt_of_cell<|h.mem _ _ _ hm;omega
   ·cases dS:K.F w.heap.size with
    |none=>rfl
    |some aC=>have:=lt_of_heap (h.frame _ aC dS).1;omega
  ·let⟨b,hP,x,B,A,ah⟩:=hg.box r c (by simpa[du,Ne.symm n]using k)
   exact⟨b,hP,x,by simp[n,B],A,ah⟩
 ·intro r cI b c gU k fr g u;by_cases n:r=j<;>by_cases I:cI=j
  ·rw[n,I]
  ·simp[n]at g;simp[I]at u;have:=h.FN (by simpa[du,Ne.symm I]using fr) u
   omega
  ·simp[I]at u;simp[n]at g;have:=h.FN (by simpa[du,Ne.symm n]using k) g
   omega
  ·simp[n]at g;simp[I]at u;exact h.inj r cI b c gU (by simpa[du,Ne.symm n]using k) (by simpa[du,Ne.symm I]using fr) g u
 ·intro r b g;by_cases n:r=j
  ·subst n;exact wG
  ·simp[n]at g;have:=h.lt r b g;simp;omega
 ·exact hg.mem
 ·exact hg.m0
 ·exact hg.frame
 ·intro r b g;exact J r b<|h.ia r b g
 ·exact hg.il
 ·exact hg.gz
end
section
variable {P:Program} {K:Ctx} {M M':Mem} {β β':Nat->Option Nat} {st st':aA} {a f:Array Value} {w w':World}
def bh.K8(h:bh P K M β st a w){r b:Nat}{cs:List aS}(N:look st.H r=some cs)(B:β r=some b){vs vs':List Value}{T:TypeId}
 (bf:w.heap[b]? = some (.cells ⟨vs⟩ T (0,0))) {U0:List aS} (hlen:vs'.length=U0.length) (hF:∀v,v∈vs'->v.oneCell'=true) (J:mR P T vs.length cs->mR P T vs'.length U0) (er:U0.length=cs.length)
 (pO:w'.heap[b]? = some (.cells ⟨vs'⟩ T (0,0))) (FO:∀t,t≠b->w'.heap[t]? = w.heap[t]?) (I:Nat)
 (hv:∀(i:Nat) v e,vs'[i]? = some v->U0[i]? = some e->cg M β v e.d/\∀T,e.own=some T->
  (i≠I/\(∃p,cs[i]? = some p/\p.own=some T)/\vs[i]? = some v)\/(i=I/\oA P K M β st a w (.cell r I) v T)) (qE:(w'.os,w'.output)=(w.os,w.output):=by rfl):
 bh P K M β {st with H:=(r,U0)::st.H} a w':=by
 have W:K.F b=none/\∀o,M b o=none:=by
  let⟨j,_,_,u,_,_,z,S,_⟩:=h.box r cs N;rw[B]at u;cases u;exact⟨S,z⟩
 have amC:mR P T vs.length cs:=by
  let⟨j,hP,m,u,z,_,_,_,_,S⟩:=h.box r cs N;rw[B]at u;cases u;rw[bf]at z;cases z;exact S
 have jp:∀t,t≠b->∀o,w'.cell? ⟨t,o,none⟩=w.cell? ⟨t,o,none⟩:=λt hne o=>uZ<|FO t hne
 have hne:∀k c t,look st.H k=some c->β k=some t->k≠r->t≠b:=λk c t y bV hne e=>hne<|h.inj k r t c cs y N bV<|e ▸ B
 have fA:∀l e,({st with H:=(r,U0)::st.H}:aA).at l=some e->(∃i v,l = .cell r i/\U0[i]? = some e/\vs'[i]? = some v/\ch a w' β l=v)\/(st.at l=some e/\ch a w' β l=ch a w β l/\∀i,l ≠ .cell r i):=by
  intro l e q;cases l with
  |slot s=>exact .inr ⟨q,rfl,by simp⟩
  |cell k i=>
   by_cases x:k=r
   ·subst x;simp[aA.at,du]at q;have Y:i<U0.length:=(eR.1 q).1;have O:vs'[i]? = some vs'[i]:=ed (by omega)
    exact .inl ⟨i,_,rfl,q,O,by simp only[ch,B,cell_of_heap pO,O,nB]⟩
   ·have R:st.at (.cell k i)=some e:=by simpa[aA.at,du,Ne.symm x]using q
    refine .inr ⟨R,?_,by simp[x]⟩
    simp only[aA.at]at R;cases y:look st.H k with
    |none=>simp[y]at R
    |some c=>
     let⟨j,_,_,g,_⟩:=h.box k c y;simp only[ch,g];rw[jp j<|hne k c j y g x]
 have gA:∀l e T,({st with H:=(r,U0)::st.H}:aA).at l=some e->e.own=some T->
  (l ≠ .cell r I/\(∃p,st.at l=some p/\p.own=some T)/\ch a w' β l=ch a w β l)\/(l = .cell r I/\oA P K M β st a w (.cell r I) (ch a w' β l) T):=by
  intro l e m q E;rcases fA l e q with⟨i,v,rfl,Y,O,n⟩|⟨an,n,jV⟩
  ·rcases(hv i v e O Y).2 m E with⟨rR,⟨p,Sq,A⟩,hold⟩|⟨rfl,hn⟩
   ·refine .inl ⟨by simp[rR],⟨p,by simp[aA.at,N,Sq],A⟩,?_⟩
    rw[n];simp only[ch,B,cell_of_heap bf,hold,nB]
   ·exact .inr ⟨rfl,by rw[n];exact hn⟩
  ·exact .inl ⟨jV I,⟨e,an,E⟩,n⟩
 have dT:∀k c,look ((r,U0)::st.H) k=some c->∃Z,look st.H k=some Z:=by
  intro k c hc;by_cases x:r=k
  ·exact⟨cs,x ▸ N⟩
  ·exact⟨c,by simpa[du,x]using hc⟩
 constructor
 ·intro l e q;rcases fA l e q with⟨i,v,rfl,Y,O,n⟩|⟨an,n,jV⟩
  ·rw[n];exact(hv i v e O Y).1
  ·rw[n];exact h.dp l e an
 ·intro l e m q E;rcases gA l e m q E with⟨_,⟨p,L,A⟩,n⟩|⟨rfl,hn⟩
  ·rw[n];refine(h.own l p m L A).congr (λj g=>FO j ?_)<|λ_ _ _=>rfl
   rintro rfl
   exact h.unbox l p m j r cs L A g N B
  ·refine hn.own.congr (λj g=>FO j ?_)<|λ_ _ _=>rfl
   rintro rfl
   exact hn.unbox j r cs g N B
 ·intro l cl e a7 m rQ j q E R ey g Q;rcases gA l e m q E with⟨hl0,⟨p,L,A⟩,n⟩|⟨rfl,hn⟩<;>rcases gA cl a7 rQ R ey with⟨amD,⟨BF,wF,FP⟩,td⟩|⟨rfl,K9⟩
  ·rw[n]at g;rw[td]at Q;exact h.uniq l cl p BF m rQ j L A wF FP g Q
  ·rw[n]at g;exact absurd g<|K9.apart l p m j L A hl0 Q
  ·rw[td]at Q;exact absurd Q<|hn.apart cl BF rQ j wF FP amD g
  ·rfl
 ·intro l e m j k c q E g y;let⟨Z,ln⟩:=dT k c y;rcases gA l e m q E with⟨_,⟨p,L,A⟩,n⟩|⟨rfl,hn⟩
  ·rw[n]at g;exact h.unbox l p m j k Z L A g ln
  ·exact hn.unbox j k Z g ln
 ·intro k c y;by_cases x:r=k
  ·subst x;simp[du]at y;subst y;exact⟨b,vs',T,B,pO,hlen,W.2,W.1,hF,J amC⟩
  ·have X:look st.H k=some c:=by simpa[du,x]using y
   let⟨j,hP,m,u,z,S⟩:=h.box k c X;exact⟨j,hP,m,u,(FO j<|hne k c j X u<|Ne.symm x).trans z,S⟩
 ·intro r1 r2 j c1 c2 im X g hb2;let⟨acw,u⟩:=dT r1 c1 im;let⟨acx,z⟩:=dT r2 c2 X;exact h.inj r1 r2 j acw acx u z g hb2
 ·exact h.lt
 ·intro j o v hm;by_cases U:j=b
  ·subst U;rw[W.2 o]at hm;cases hm
  ·rw[jp j U];exact h.mem j o v hm
 ·exact h.m0
 ·intro j aC dS;have U:j≠b:=by rintro rfl;rw[W.1]at dS;cases dS
  let⟨u,z⟩:=h.frame j aC dS;exact⟨(FO j U).trans u,z⟩
 ·exact h.ia
 ·exact h.il
 ·exact qE.trans h.gz
def o6:∀(l:List Nat) (b:List<|Nat×aS) (s:Nat),
 look (hX l b) s=if s∈l then(look b s).map (λe=>{e with own:=none})else look b s
 |[],b,s=>by simp[hX]
 |t::l,b,s=>by
  have d:=o6 l b s;simp only[hX];cases az:look b t with
  |none=>
   simp only[d];by_cases c:s=t
   ·subst c;simp[az]
   ·simp[c]
  |some e=>
   simp only[du];by_cases c:t=s
   ·subst c;simp[az]
   ·simp[c,Ne.symm c,d]
def bh.ik(h:bh P K M β st a w)(l:List Nat):bh P K M β {st with env:=hX l st.env} a w:=by
 refine h.sub rfl (λj d b=>?_)<|λr k m=>⟨k,m,rfl⟩
 cases j with
 |slot s=>
  simp only[aA.at,o6]at b ⊢;by_cases c:s∈l
  ·simp only[c,nY,dC]at b;obtain⟨e,g,rfl⟩:=b;exact⟨e,g,rfl,by simp⟩
  ·simp only[c,nE]at b;exact⟨d,b,rfl,λ_ h=>h⟩
 |cell r i=>exact⟨d,b,rfl,λ_ h=>h⟩
def bh.hand(h:bh P K M β st a w){s:Nat}{e:aS}{T:TypeId}(y:look st.env s=some e)(o:e.own=some T)(l0:Loc):
 oA P K M β {st with env:=hX [s] st.env} a w l0 (a.getD s undef) T:=by
 have q:st.at (.slot s)=some e:=y;refine⟨h.own (.slot s) e T q o,λl t u b c n _ m B=>?_,λb r A m E=>h.unbox (.slot s) e T b r A q o m E⟩
 have k:∃d,st.at l=some d/\d.own=some u/\l ≠ .slot s:=by
  cases l with
  |slot x=>
   simp only[aA.at,o6]at c ⊢;by_cases g:x=s
   ·subst g;simp at c;obtain⟨_,_,rfl⟩:=c;simp at n
   ·simp[g]at c;exact⟨t,c,n,by simp[g]⟩
  |cell r i=>exact⟨t,c,n,by simp⟩
 let⟨d,z,p,j⟩:=k;exact j (h.uniq l (.slot s) d e u T b z p q o B m)
def bh.acy(h:bh P K M β st a w){r i:Nat}{cs U0:List aS}{e:aS}{T:TypeId}(A:look st.H r=some cs)(hi:cs[i]? = some e)(o:e.own=some T)
 (O:U0.length=cs.length) (L:∀(j:Nat) g,U0[j]? = some g->∃k,cs[j]? = some k/\k.d=g.d/\(∀T,g.own=some T->k.own=some T/\j≠i)) (l0:Loc):
 bh P K M β {st with H:=(r,U0)::st.H} a w/\oA P K M β {st with H:=(r,U0)::st.H} a w l0 (ch a w β<|.cell r i) T:=by
 have B:st.at (.cell r i)=some e:=by simp[aA.at,A,hi]
 have F:∀l g,({st with H:=(r,U0)::st.H}:aA).at l=some g->∃k,st.at l=some k/\k.d=g.d/\∀T,g.own=some T->k.own=some T/\l ≠ .cell r i:=by
  intro l g n;cases l with
  |slot s=>exact⟨g,n,rfl,λT h=>⟨h,by simp⟩⟩
  |cell m j=>
   by_cases t:r=m
   ·subst t;simp[aA.at,du]at n;let⟨k,p,z,q⟩:=L j g n;exact⟨k,by simp[aA.at,A,p],z,λT o=>⟨(q T o).1,by simp[(q T o).2]⟩⟩
   ·refine⟨g,by simpa[aA.at,du,t]using n,rfl,λT h=>⟨h,by simp[Ne.symm t]⟩⟩
 have J:∀m c,look ((r,U0)::st.H) m=some c->∃u,look st.H m=some u/\u.length=c.length:=by
  intro m c x;by_cases t:r=m
  ·subst t;simp[du]at x;subst x;exact⟨cs,A,O.symm⟩
  ·exact⟨c,by simpa[du,t]using x,rfl⟩
 refine⟨h.sub rfl (λl g n=>?_) J,h.own _ e T B o,λl g E b n I _ y Q=>?_,λb m c y N=>?_⟩
 ·let⟨k,p,z,q⟩:=F l g n;exact⟨k,p,z,λT o=>(q T o).1⟩
 ·let⟨k,p,_,q⟩:=F l g n;exact(q E I).2<|h.uniq l _ k e E T b p (q E I).1 B o Q y
 ·let⟨u,p,_⟩:=J m c N;exact h.unbox _ e T b m u B o y p
def Sr(l0:Loc)(T:TypeId):oA P K M β st a w l0 (.slice none 0 0) T:=
 ⟨.inl rfl,λ_ _ _ _ _ _ _ b=>(by cases b),λ_ _ _ b=>(by cases b)⟩
def acz:∀{l:List Nat} {b d:List (Nat×aS)},FJ b l=some d->∀s e,look d s=some e->look b s=some e
 |[],b,d,h,s,e,c=>by simp[FJ]at h;subst h;simp[look]at c
 |t::l,b,d,h,s,e,c=>by
  simp only[FJ]at h;split at h<;>simp at h
  rename_i m k j i;subst h;rw[du]at c;by_cases g:t=s
  ·simp[g]at c;subst c;rw[<-g];exact j
  ·simp[g]at c;exact acz i s e c
def Ss:∀{l:List Nat} {H H':List (Nat×List aS)},FK H l=some H'->∀s e,look H' s=some e->look H s=some e
 |[],d,g,h,s,e,b=>by simp[FK]at h;subst h;simp[look]at b
 |t::l,d,g,h,s,e,b=>by
  simp only[FK]at h;split at h<;>simp at h
  rename_i m k j i;subst h;rw[du]at b;by_cases c:t=s
  ·simp[c]at b;subst b;rw[<-c];exact j
  ·simp[c]at b;exact Ss i s e b
def nT{α:Type}:∀{l:List (Nat×α)} {i:Nat} {x:α},look l i=some x->(i,x)∈l
 |[],_,_,h=>by simp[look]at h
 |(j,y)::l,i,x,h=>by
  rw[du]at h;by_cases b:j=i
  ·simp[b]at h;subst h;simp[b]
  ·simp[b]at h;exact qg _ (nT h)
def St{n:Nat}:∀{l:List aS} {i:Nat} {e:aS},uW n l=true->l[i]? = some e->below n e.d=true
 |[],_,_,_,h=>by simp at h
 |d::l,0,_,b,h=>by simp[uW]at b;simp at h;exact h ▸ b.1
 |d::l,i+1,_,b,h=>by simp[uW]at b;simp at h;exact St b.2 h
def bh.uX(h:bh P K M β st a w){live BG:List Nat}{n:Nat}(g:Ab.uX live BG n st.env st.H st.aD=some st')(Y:∀r b,K.hE r=some b->r<n):
 ∃ β',bh P K M β' st' a w:=by
 unfold Ab.uX at g;split at g
 case h_2=>cases g
 rename_i E p U O;let⟨J,g⟩:=U5 g;cases g;simp only[cb,gK,Prod.forall,ph,pn]at J;let⟨⟨hn,I⟩,y⟩:=J
 have m:bh P K M β {env:=E,H:=p,aD:=st.aD} a w:=by
  refine h.sub rfl (λl B j=>?_)<|λr o g=>⟨o,Ss O _ _ g,rfl⟩
  refine⟨B,?_,rfl,λ_ h=>h⟩
  cases l with
  |slot s=>exact acz U _ _ j
  |cell r i=>
   simp only[aA.at]at j ⊢;cases g:look p r with
   |none=>simp[g]at j
   |some c=>simp[g]at j;simp[Ss O _ _ g,j]
 have q:∀l e,({env:=E,H:=p,aD:=st.aD}:aA).at l=some e->below n e.d=true/\(∀r i,l = .cell r i->r<n):=by
  intro l e j;cases l with
  |slot s=>exact⟨I s e<|nT j,by simp⟩
  |cell r i=>
   simp only[aA.at]at j;cases g:look p r with
   |none=>simp[g]at j
   |some c=>
    simp[g]at j;have:=y r c<|nT g
    exact⟨St this.2 j,by rintro F oB h;cases h;exact this.1⟩
 refine⟨λr=>if r<n then β r else none,?_⟩
 have t:∀l e,({env:=E,H:=p,aD:=st.aD}:aA).at l=some e->ch a w (λr=>if r<n then β r else none) l=ch a w β l:=by
  intro l e j;cases l with
  |slot s=>rfl
  |cell r i=>simp[ch,(q _ _ j).2 r i rfl]
 have z:∀r c,look p r=some c->r<n:=λr c g=>(y r c<|nT g).1
 constructor
 ·intro l e j;rw[t l e j];exact(m.dp l e j).acs (λr g=>by simp[g]) (q l e j).1
 ·intro l e T j x;rw[t l e j];exact m.own l e T j x
 ·intro l Q e B T T' b j x N X k A;rw[t l e j]at k;rw[t Q B N]at A;exact m.uniq l Q e B T T' b j x N X k A
 ·intro l e T b r o j x k g;rw[t l e j]at k;have:=m.unbox l e T b r o j x k g
  simpa[z r o g]using this
 ·intro r o g;let⟨b,S,T,W,Z⟩:=m.box r o g;exact⟨b,S,T,by simpa[z r o g]using W,Z⟩
 ·intro r F b o u g L k A;exact m.inj r F b o u g L (by simpa[z r o g]using k) (by simpa[z F u L]using A)
 ·intro r b k;by_cases R:r<n
  ·exact R
  ·simp[R]at k
 ·exact m.mem
 ·exact m.m0
 ·exact m.frame
 ·intro r b k;simp[Y r b k,m.ia r b k]
 ·exact m.il
 ·exact m.gz
end
def mT(P:Program):TypeDesc->Option nP
 |.int k=>some<|.int k
 |.bool=>some .bool
 |.string=>some .str
 |.struct cT=>some<|.eh<|cT.toList.map λf=>(f.offset,f.type,P.cellsOf f.type)
 |.slice e=>some<|.bP e
 |.array n e=>some<|.arr n e
 |.pointer _=>some .ptr
 |.func _ _ _=>some .Bv
 |.interface _=>some .rI
 |.map _ _=>some .map
 |_=>none
def yr:Value->V->Bool
 |.int k n,.int d c=>decide (k=d)&&decide (n=c)
 |.bool a,.bool b=>a == b
 |.string s,.str l=>decide<|s.data.toList=l
 |.slice none 0 0,.bP _ n _=>Nat.beq n 0
 |.pointer none,.hO=>true
 |.nilIface,.kj=>true
 |.nilFunc,.kE=>true
 |.map none,.any=>true
 |_,_=>false
def yt:List Value->List V->Bool
 |[],[]=>true
 |v::b,x::a=>yr v x&&yt b a
 |_,_=>false
def BH(P:Program)(inner:TypeId->List Field->Bool):Nat->List Field->Bool
 |_,[]=>true
 | i, f :: l => Nat.beq f.offset i && !decide (f.name = "_") && (match P.underlying f.type with
  |some (.int _) |some .bool |some .string=>BH P inner (i+1) l
  |some (.struct a)=>inner f.type a.toList&&BH P inner (i+P.cellsOf f.type) l
  |_=>false)
def u0(P:Program):Nat->List Field->Nat
 | 0,a=>a.length
 |d+1,a=>(a.map λf=>match P.underlying f.type with
  |some (.struct b)=>u0 P d b.toList
  |_=>1).sum
def yu(P:Program):Nat->Nat->List Field->Bool
 | 0=>BH P λ_ _=>false
 |d+1=>BH P λt a=>!P.stoodInHeld t&&Nat.beq (P.cellsOf t) (u0 P d a)&&yu P d 0 a
def Su(P:Program)(t:TypeId):Bool:=
 match P.underlying t with
 |some (.struct a)=>!P.stoodInHeld t && !P.eqGuardType P.depth t&&yu P 4 0 a.toList
 |_=>false
def acB(P:Program)(t:TypeId)(a:ep):Bool:=
 match P.info? t,P.underlying t with
 |some i,some d=>decide (mT P d=some a.k)&&Nat.beq i.size a.size&&Nat.beq i.bytes a.bytes&&Nat.beq a.zero.length a.size &&
  a.kU.all (λx=>liesAt P P.depth t (a.size / P.cellsOf t) x.1 x.2 1) &&
  (match i.zero with|some z=>yt z.cells.toList a.zero&&(match z with|.agg _=>a.k.isAgg|.tuple _=>false|_=>!a.k.isAgg)|none=>false)
 |_,_=>false
def eP(P:Program)(tt:dI):Bool:=tt.all λx=>acB P x.1 x.2
def Sv{M:Mem}{v:Value}{x:V}(h:yr v x=true):cY M v x/\v.oneCell'=true:=by
 unfold yr at h;split at h<;>simp at h
 ·obtain⟨rfl,rfl⟩:=h;exact⟨.int _ _,rfl⟩
 ·subst h;exact⟨.bool _,rfl⟩
 ·rename_i s l;subst h;exact⟨by exact .str s.data.toList,rfl⟩
 ·subst h;exact⟨.mp _ _,rfl⟩
 ·exact⟨.hO,rfl⟩
 ·exact⟨.kj,rfl⟩
 ·exact⟨.kE,rfl⟩
 ·exact⟨.any _ rfl,rfl⟩
def BI{M:Mem}:∀{vs:List Value} {xs:List V},yt vs xs=true->vs.length=xs.length/\(∀v,v∈vs->v.oneCell'=true)/\∀(i:Nat) v x,vs[i]? = some v->xs[i]? = some x->cY M v x/\yr v x=true
 |[],[],_=>by simp
 |[],_::_,h=>by simp[yt]at h
 |_::_,[],h=>by simp[yt]at h
 |v::vs,x::xs,h=>by
  simp[yt]at h;let⟨c,b,d⟩:=BI (M:=M) h.2;refine⟨by simp[c],?_,?_⟩
  ·intro u hu;rcases gh.1 hu with rfl|hu
   ·exact(Sv (M:=M) h.1).2
   ·exact b u hu
  ·intro i u y hu a;cases i with
   |zero=>simp at hu a;subst hu;subst a;exact⟨(Sv h.1).1,h.1⟩
   |succ i=>simp at hu a;exact d i u y hu a
structure Row(P:Program)(t:TypeId)(aK:ep) where
 info:TypeInfo
 desc:TypeDesc
 z:Value
 hi:P.info? t=some info
 hd:P.underlying t=some desc
 hk:mT P desc=some aK.k
 size:info.size=aK.size
 bytes:info.bytes=aK.bytes
 dQ:info.zero=some z
 Sw:aK.zero.length=aK.size
 FQ:yt z.cells.toList aK.zero=true
 kU:(aK.kU.all λx=>liesAt P P.depth t (aK.size / P.cellsOf t) x.1 x.2 1)=true
 aCc:match z with|.agg _=>aK.k.isAgg=true|.tuple _=>False|_=>aK.k.isAgg=false
theorem et{P:Program}{tt:dI}(h:eP P tt=true){t:TypeId}{c:ep}(l:look tt t=some c):Nonempty (Row P t c):=by
 have e:=nT l;unfold eP at h;rw[gK]at h;have:=h _ e
 unfold acB at this
 dsimp only at this
 split at this
 case h_2=>cases this
 rename_i i d f hd;simp only[cb,fx,kb]at this;let⟨⟨⟨⟨⟨j,g⟩,n⟩,m⟩,b⟩,a⟩:=this;split at a
 case h_2=>cases a
 rename_i z k;simp only[cb]at a
 exact⟨⟨i,d,z,f,hd,j,g,n,k,m,a.1,b,by
  have:=a.2
  cases z<;>simp at this<;>simp[this]⟩⟩
def Row.cellsOf{P:Program}{t:TypeId}{a:ep}(r:Row P t a):P.cellsOf t=a.size:=by
 simp[Program.cellsOf,r.hi,r.size]
section runs
variable {P:Program} {t:TypeId} {a:ep} (w:World)
def Row.run_sizeOf(r:Row P t a):(sizeOf t).run P w = .ok a.size w:=by
 rw[Go.run_sizeOf w r.hi,r.cellsOf]
def Row.FR(r:Row P t a):(zeroValue t).run P w = .ok r.z w:=by
 simp[zeroValue,typeInfo,r.hi,r.dQ]
def Row.run_underlying(r:Row P t a):(underlying t).run P w = .ok r.desc w:=Go.run_underlying r.hd w
def Row.BJ(r:Row P t a):(isAgg t).run P w = .ok a.k.isAgg w:=by
 have b:=r.hk;simp only[isAgg,Sem.run_bind,r.run_underlying,Result.andThen_ok];cases hd:r.desc<;>simp[hd,mT]at b<;>simp[<-b,nP.isAgg]
end runs
def f_(a:Array Value)(p:Path):Prop:=∀x,x∈p->a.getD x.1 undef = .bool x.2
structure fP(P:Program)(K:Ctx)(N:Nat)(M:Mem)(β:Nat->Option Nat)(g:dt)(tmps:Array Value)(w:World):Prop where
 bB:bh P K M β {env:=g.env,H:=g.H,aD:=g.aD} tmps w
 size:tmps.size=N
 fresh:∀s id,look g.ids s=some id->look g.H id=none->∀b,β id≠some b
 cond:∀t q d,look g.cf t=some (q,d)->(f_ tmps q->cg M β (tmps.getD t undef) d)/\(¬ f_ tmps q->tmps.getD t undef=undef)
def Path.amG{q p:Path}(h:q.sub p=true){a:Array Value}(d:f_ a p):f_ a q:=by
 intro x c;unfold Path.sub at h;rw[gK]at h;have:=h x c
 unfold Path.has at this;rw[tr]at this;let⟨y,f,b⟩:=this;simp at b
 have e:=d y f;rw[<-b.1,<-b.2];exact e
def amH{M:Mem}{v:Value}{x:V}(h:Se v=some x):cY M v x:=by
 unfold Se at h;split at h<;>simp at h<;>subst h
 ·exact .int _ _
 ·exact .bool _
 ·rename_i s;exact .str s.data.toList
 ·exact .hO
 ·exact .kj
 ·exact .kE
def cg.Bw{M:Mem}{β:Nat->Option Nat}{v:Value}{d:D}(h:cg M β v d):cg M β v (Ab.Bw d):=by
 cases h with
 |ex _ x h a=>cases x<;>first |exact .v _ _ h |exact .ex _ _ h a
 |_=>constructor<;>assumption
def ez{P:Program}{K:Ctx}{N:Nat}{M:Mem}{β:Nat->Option Nat}{g:dt}{c:Array Value}{w:World}(h:fP P K N M β g c w){p:Path}(i:f_ c p){tt:dI}{ty:TypeId}{x:Operand}{d:D}
 (b:rd g.env g.cf p tt ty x=some d) {ds:List Deferred}:cg M β ((⟨c,ds⟩:Act).eval x) d:=by
 cases x with
 |tmp t=>
  simp only[rd]at b;split at b
  ·rename_i q l k;rw[fe]at b;split at b<;>simp at b
   subst b;exact((h.cond t q l k).1<|Path.amG (by assumption) i).Bw
  ·simp only[dC]at b;obtain⟨e,j,rfl⟩:=b;exact(h.bB.dp (.slot t) e j).Bw
 |const v=>
  simp only[rd]at b;split at b
  ·rename_i a;cases a
  ·rename_i a;cases a;split at b
   ·cases b;exact .v _ _<|.mp _ _
   ·cases b
  ·rename_i a;cases a;simp only[dC]at b;obtain⟨y,m,rfl⟩:=b;exact .v _ _<|amH m
  ·rename_i a;cases a
  ·rename_i a;cases a
 |global n=>simp[rd]at b
 |func f=>
  simp[rd]at b;subst b;exact .fn f [] [] rfl (by simp)
def acC{v:Value}(h:v.oneCell'=true):v.cells = #[v]:=by
 cases v<;>first|rfl|(simp[Value.oneCell']at h)
def cg.cells{M:Mem}{β:Nat->Option Nat}{v:Value}{d:D}(h:cg M β v d)(A:s8 d=false):
 v.cells.toList.length=(cellsD d).length/\(∀u,u∈v.cells.toList->u.oneCell'=true)/\∀(i:Nat) u c,v.cells.toList[i]? = some u->(cellsD d)[i]? = some c->cg M β u c:=by
 have single:∀{v:Value} {d:D},v.cells = #[v]->cellsD d=[d]->v.oneCell'=true->cg M β v d->
  v.cells.toList.length=(cellsD d).length/\(∀u,u∈v.cells.toList->u.oneCell'=true)/\∀(i:Nat) u c,v.cells.toList[i]? = some u->(cellsD d)[i]? = some c->cg M β u c:=by
  intro v d g y E B;rw[g,y];refine⟨rfl,by simpa using E,λi u c j m=>?_⟩
  cases i with
  |zero=>simp at j m;subst j;subst m;exact B
  |succ i=>simp at j
 cases h with
 |v u x t=>
  cases t with
  |agg o p l g af=>
   refine⟨by simp[Value.cells,cellsD,V.cells,l],by simpa[Value.cells]using g,λi u c j m=>?_⟩
   simp[Value.cells]at j;simp[cellsD,V.cells]at m;obtain⟨a,w,rfl⟩:=m;exact .v _ _<|af i u a j w
  |any v g=>exact single (acC g) rfl g (.v _ _<|.any _ g)
  |_=>exact single rfl rfl rfl (.v _ _ (by constructor<;>assumption))
 |ptr r e b q=>exact single rfl rfl rfl (.ptr r e b q)
 |nl r e u=>exact single rfl rfl rfl (.nl r e u)
 |cn r e b u q=>exact single rfl rfl rfl (.cn r e b u q)
 |fD b e x val z g af=>exact single rfl rfl rfl (.fD b e x val z g af)
 |full b k n s h=>exact single rfl rfl rfl (.full b k n s h)
 |ex _ x h g=>exact single (acC g) rfl g (.ex _ x h g)
 |fn f o p l af=>exact single rfl rfl rfl (.fn f o p l af)
 |agg o p l g af=>exact⟨l,g,af⟩
 |cw o p l af=>simp[s8]at A
def amI{cs:List D}:∀{xs:List V},FE cs=some xs->cs=xs.map .v:=by
 induction cs with
 |nil=>intro xs h;simp[FE]at h;subst h;rfl
 |cons d l b=>
  intro xs h;cases d<;>simp[FE]at h
  obtain⟨c,a,rfl⟩:=h;simp[b a]
def BK{M:Mem}{β:Nat->Option Nat}{vs:List Value}{cs:List D}(a:vs.length=cs.length)(b:∀v,v∈vs->v.oneCell'=true)
 (h:∀(i:Nat) v c,vs[i]? = some v->cs[i]? = some c->cg M β v c):cg M β (.agg ⟨vs⟩) (ox cs):=by
 unfold ox;split
 ·rename_i d e;have:=amI e
  subst this;refine .v _ _<|.agg vs d (by simpa using a) b λi v c f g=>?_
  have:=h i v (.v c) f (by simp[g])
  cases this;assumption
 ·exact .agg vs cs a b h
section
variable {P:Program} {K:Ctx} {N:Nat} {M:Mem} {β:Nat->Option Nat} {st:aA} {g:dt} {d:Array Value} {w:World} {v:Value}
def jC{k:IntKind}{n:Int}(h:cg M β v<|.v<|.int k n):v = .int k n:=by
 cases h with|v u x h=>cases h;rfl
def nn{x:V}(h:cg M β v<|.v x):cY M v x:=by
 cases h with|v u x h=>exact h
def rT{b:Bool}(h:cg M β v<|.v<|.bool b):v = .bool b:=by
 cases h with|v u x h=>cases h;rfl
def np{l:UB}(h:cg M β v<|.v<|.str l):v = .string ⟨⟨l⟩⟩:=by
 cases h with|v u x h=>cases h;rfl
def qF{r off:Nat}(h:cg M β v<|.ptr r off):∃b,β r=some b/\v = .pointer (some ⟨b,off,none⟩):=by
 cases h with|ptr r off b h=>exact⟨b,h,rfl⟩
def Sx{t:TypeId}{x:V}(h:cg M β v<|.v<|.iface t x):∃u,v = .iface t u/\cY M u x:=by
 cases h with|v u x h=>cases h with|iface t u x h=>exact⟨u,rfl,h⟩
def Sy{cs:List V}(h:cg M β v<|.v<|.agg cs):∃a:List Value,v = .agg ⟨a⟩/\a.length=cs.length/\(∀u,u∈a->u.oneCell'=true)/\∀(i:Nat) u c,a[i]? = some u->cs[i]? = some c->cY M u c:=by
 cases h with|v u x h=>cases h with|agg a cs b e h=>exact⟨a,rfl,b,e,h⟩
def amJ{cs:List D}(h:cg M β v<|.cw cs):∃a:List Value,v = .tuple ⟨a⟩/\a.length=cs.length/\∀(i:Nat) u c,a[i]? = some u->cs[i]? = some c->cg M β u c:=by
 cases h with|cw a cs b h=>exact⟨a,rfl,b,h⟩
def acD{f:FuncId}{cs:List D}(h:cg M β v<|.fn f cs):∃a:List Value,v = .func (.func f) #[] ⟨a⟩/\a.length=cs.length/\∀(i:Nat) u c,a[i]? = some u->cs[i]? = some c->cg M β u c:=by
 cases h with|fn f a cs b h=>exact⟨a,rfl,b,h⟩
def u1{k n:Nat}{get:Nat->V}(h:cg M β v<|.v<|.bP k n get):((v = .slice none 0 0\/∃a,v = .slice (some a) 0 0)/\n=0)\/
 ∃(b off cap:Nat) (val:Nat->Nat->Value),v = .slice (some ⟨b,off,none⟩) n cap/\n<=cap/\(∀i,i<n->(get i).cells.length=k)/\(∀i j,i<n->j<k->M b (off+i*k+j)=some (val i j))/\
  (∀i j,i<n->j<k->(val i j).oneCell'=true)/\(∀(i j:Nat) c,i<n->(get i).cells[j]? = some c->cY M (val i j) c):=by
 cases h with
 |v u x h=>
  cases h with
  |mp=>exact .inl ⟨.inl rfl,rfl⟩
  |oZ a=>exact .inl ⟨.inr ⟨a,rfl⟩,rfl⟩
  |bP b off k n cap get val f e m l h=>exact .inr ⟨b,off,cap,val,rfl,f,e,m,l,h⟩
def K'{x:V}(h:cg M β v<|.fD x):∃(b off:Nat) (val:Nat->Value),v = .pointer (some ⟨b,off,none⟩)/\(∀j,j<x.cells.length->M b (off+j)=some (val j))/\(∀j,j<x.cells.length->(val j).oneCell'=true)/\
 (∀(j:Nat) c,x.cells[j]? = some c->cY M (val j) c):=by
 cases h with|fD b off x val e a h=>exact⟨b,off,val,rfl,e,a,h⟩
def yv{k n:Nat}{get:Nat->V}(h:cg M β v<|.v<|.bP k n get):∃a c,v = .slice a n c/\n<=c:=by
 rcases u1 h with⟨rfl|⟨a,rfl⟩,rfl⟩|⟨b,e,c,val,rfl,f,_⟩
 ·exact⟨_,_,rfl,fS _⟩
 ·exact⟨_,_,rfl,fS _⟩
 ·exact⟨_,_,rfl,f⟩
def addr_add(b off n:Nat):(⟨b,off,none⟩:Addr).add n=⟨b,off+n,none⟩:=by
 unfold Addr.add;split<;>simp_all
def BL{x:V}(a:x.isAgg=false):x.cells=[x]:=by
 cases x<;>first|rfl|simp[V.isAgg]at a
def acE{x:V}{val:Nat->Value}(f:∀j,j<x.cells.length->(val j).oneCell'=true)(h:∀(j:Nat) c,x.cells[j]? = some c->cY M (val j) c):
 cY M (bif x.isAgg then .agg ⟨(List.range x.cells.length).map val⟩else val 0) x:=by
 cases hx:x.isAgg with
 |false=>
  have:=BL hx
  simpa using h 0 x (by simp[this])
 |true=>
  cases x<;>simp[V.isAgg]at hx
  rename_i k;refine .agg _ k (by simp[V.cells]) ?_ ?_
  ·intro u a;obtain⟨j,b,rfl⟩:=jk.1 a;exact f j (by simpa using b)
  ·intro i u c a e;simp only[gV,dC]at a;obtain⟨j,b,rfl⟩:=a
   have:j=i:=by
    rw[eR]at b;let⟨_,h⟩:=b;simpa using h.symm
   subst this;exact h j c e
def amK{t:TypeId}{c:ep}(r:Row P t c)(f:∀b o v,M b o=some v->w.cell? ⟨b,o,none⟩=some v){x:V}(i:cg M β v<|.fD x)(e:x.isAgg=c.k.isAgg)(l:x.cells.length=c.size):
 ∃u,(Instr.loadAt t v).run P w = .ok u w/\cY M u x:=by
 obtain⟨b,a,val,rfl,cR,m,h⟩:=K' i;refine⟨_,?_,acE m h⟩
 have p:∀j,j<c.size->w.cell? ((⟨b,a,none⟩:Addr).add j)=some (val j):=λj q=>by rw[addr_add];exact f _ _ _<|cR j<|by omega
 cases ha:x.isAgg with
 |true=>
  rw[ha]at e;simp[Instr.loadAt,Instr.sureAddr,loadVar,r.BJ,<-e,r.run_sizeOf,run_loadCells w ⟨b,a,none⟩ c.size val p,l]
 |false=>
  rw[ha]at e;have n:=cR 0 (by rw[BL ha];simp)
  have:=f _ _ _ n
  simp[Instr.loadAt,Instr.sureAddr,loadVar,r.BJ,<-e,run_load];simp at this
  rw[this]
def K_{t:TypeId}{a:ep}(r:Row P t a){b off:Nat}{vs:List Value}{T:TypeId}{f:Nat×Nat}(i:w.heap[b]? = some (.cells ⟨vs⟩ T f))(e:off+a.size<=vs.length)(h:a.k.isAgg=true):
 (Instr.loadAt t<|.pointer<|some ⟨b,off,none⟩).run P w = .ok (.agg ⟨(vs.drop off).take a.size⟩) w:=by
 have hlen:((vs.drop off).take a.size).length=a.size:=by simp;omega
 have:=run_loadCells_list (P:=P) w ⟨b,off,none⟩ ((vs.drop off).take a.size) (λj u c=>by
  rw[addr_add,cell_of_heap i];rw[ix]at c;split at c
  ·simpa using c
  ·cases c)
 rw[hlen]at this;simp[Instr.loadAt,Instr.sureAddr,loadVar,r.BJ,h,r.run_sizeOf,this]
def Sz{t:TypeId}{a:ep}(r:Row P t a){b off:Nat}{u:Value}(c:w.cell? ⟨b,off,none⟩=some u)(e:a.k.isAgg=false):
 (Instr.loadAt t<|.pointer<|some ⟨b,off,none⟩).run P w = .ok u w:=by
 simp[Instr.loadAt,Instr.sureAddr,loadVar,r.BJ,e,run_load,c]
def SA{t:TypeId}{c:ep}(r:Row P t c){b:List (Nat×TypeId×Nat)}(e:c.k = .eh b):∃a:Array Field,r.desc = .struct a/\b=a.toList.map λf=>(f.offset,f.type,P.cellsOf f.type):=by
 have:=r.hk
 rw[e]at this;cases hd:r.desc<;>simp[hd,mT]at this
 exact⟨_,rfl,this.symm⟩
def qG{t:TypeId}{a:ep}(r:Row P t a){e:TypeId}(b:a.k = .bP e):r.desc = .slice e:=by
 have:=r.hk
 rw[b]at this;cases hd:r.desc<;>simp[hd,mT]at this
 rw[this]
def te{t:TypeId}{a:ep}(r:Row P t a)(b:a.k = .str):r.desc = .string:=by
 have:=r.hk
 rw[b]at this;cases hd:r.desc<;>simp[hd,mT]at this;rfl
def FSb{t:TypeId}{a:ep}(r:Row P t a){k:IntKind}(b:a.k = .int k):r.desc = .int k:=by
 have:=r.hk
 rw[b]at this;cases hd:r.desc<;>simp[hd,mT]at this
 rw[this]
def amL{t:TypeId}{a:ep}(r:Row P t a){n:Nat}{e:TypeId}(b:a.k = .arr n e):r.desc = .array n e:=by
 have:=r.hk
 rw[b]at this;cases hd:r.desc<;>simp[hd,mT]at this
 rw[this.1,this.2]
def SB{s:TypeId}{h:ep}(r:Row P s h){e:List (Nat×TypeId×Nat)}(n:h.k = .eh e){f o1 ft sz:Nat}(j:e[f]? = some (o1,ft,sz))(p:1<=sz)(b off:Nat):
 (Instr.fieldAt s (.pointer<|some ⟨b,off,none⟩) f).run P w = .ok (.pointer<|some ⟨b,off+o1,none⟩) w:=by
 obtain⟨o,hd,rfl⟩:=SA r n;simp only[gV,dC]at j;let⟨fd,l,c⟩:=j;simp only[ll]at c;obtain⟨rfl,rfl,rfl⟩:=c;have q:o[f]? = some fd:=by simpa using l
 have m:(sizeOf fd.type).run P w = .ok (P.cellsOf fd.type) w:=by
  cases hi:P.info? fd.type with
  |none=>simp[Program.cellsOf,hi]at p
  |some i=>exact Go.run_sizeOf w hi
 have a:P.cellsOf fd.type≠0:=by omega
 simp[Instr.fieldAt,r.run_underlying,hd,q,Instr.sureAddr,fieldPlace,m,a,addr_add]
def acF{s:TypeId}{h:ep}(r:Row P s h){e:List (Nat×TypeId×Nat)}(o:h.k = .eh e){f o1 ft sz:Nat}(i:e[f]? = some (o1,ft,sz)){b:ep}(r2:Row P ft b)(vs:List Value)(n:o1+sz<=vs.length):
 (b.k.isAgg=true->(Instr.field s (.agg ⟨vs⟩) f).run P w = .ok (.agg ⟨(vs.drop o1).take sz⟩) w)/\
 (b.k.isAgg=false->∀u,vs[o1]? = some u->(Instr.field s (.agg ⟨vs⟩) f).run P w = .ok u w):=by
 obtain⟨p,hd,rfl⟩:=SA r o;simp only[gV,dC]at i;let⟨fd,l,c⟩:=i;simp only[ll]at c;obtain⟨rfl,rfl,rfl⟩:=c;have j:p[f]? = some fd:=by simpa using l
 have q:=r2.cellsOf;refine⟨λa=>?_,λa u m=>?_⟩
 ·simp[Instr.field,r.run_underlying,hd,j,asAgg,part,r2.BJ,a,r2.run_sizeOf,q,List.extract_eq_take_drop]
 ·simp[Instr.field,r.run_underlying,hd,j,asAgg,part,r2.BJ,a,m]
def SC{t:TypeId}{c:ep}(r:Row P t c){e:TypeId}(f:c.k = .bP e){a:ep}(d_:Row P e a){k:IntKind}{j:Int}{b off n cap:Nat}(i:0<=j)(h:j<n):
 (Instr.indexAt t (.slice (some ⟨b,off,none⟩) n cap)<|.int k j).run P w = .ok (.pointer<|some ⟨b,off+j.toNat*a.size,none⟩) w:=by
 simp[Instr.indexAt,asIntOf,r.run_underlying,qG r f,i,h,d_.run_sizeOf,addr_add]
def amM{t:TypeId}{c:ep}(r:Row P t c)(f:c.k = .str){k:IntKind}{j:Int}{l:UB}(h:0<=j)(i:j<l.length):
 (Instr.index t (.string ⟨⟨l⟩⟩)<|.int k j).run P w = .ok (.int .u8 (l.getD j.toNat 0).toNat) w:=by
 have b:j.toNat<l.length:=by omega
 have a:j.toNat<(ByteArray.mk ⟨l⟩).size:=b;have e:(ByteArray.mk ⟨l⟩)[j.toNat]? = some l[j.toNat]:=by rw[getElem?_pos (ByteArray.mk ⟨l⟩) j.toNat a];rfl
 simp[Instr.index,asIntOf,r.run_underlying,te r f,h,e,ed b]
def Lb(l:UB):(⟨⟨l⟩⟩:ByteArray).toList=l:=by
 rw[ByteArray.toList_eq]
end
section
variable {P:Program} {K:Ctx} {N:Nat} {M:Mem} {β:Nat->Option Nat} {g:dt} {m:Array Value} {w:World} {o:Oper} {f:mO} {p:Path} {tt:dI} {A:hC} {ops:List Oper}
def after(g:dt)(f:mO):aA:={env:=hX f.ik g.env,H:=f.hs++g.H,aD:=g.aD+f.fj}
def BN(P:Program)(K:Ctx)(M:Mem)(β:Nat->Option Nat)(g:dt)(f:mO)(m:Array Value)(v:Value)(w':World):Prop:=
 ∃c a,M.le c/\(∀r b,β r=some b->a r=some b)/\(∀r b,a r=some b->β r=some b\/(look f.hs r).isSome=true)/\bh P K c a (after g f) m w'/\
  ∀e,f.e=some e->cg c a v e.d/\∀T h,e.own=some T->oA P K c a (after g f) m w' h v T
def Yields(P:Program)(K:Ctx)(M:Mem)(β:Nat->Option Nat)(g:dt)(f:mO)(o:Oper)(m:Array Value)(w:World):Prop:=
 (∃v a,(execOp (Act.eval ⟨m,[]⟩) o).run P w = .ok (.value v) a/\BN P K M β g f m v a)\/
 (f.e=none/\∃a,(execOp (Act.eval ⟨m,[]⟩) o).run P w = .ok .skip a/\BN P K M β g f m undef a)\/
 (∃fn b,(execOp (Act.eval ⟨m,[]⟩) o).run P w = .ok (.enter fn b) w/\Calls P fn b w λe a=>∃v,e = .returned v/\BN P K M β g f m v a)
def fI(h:fP P K N M β g m w){v:Value}{d:D}(af:(execOp (Act.eval ⟨m,[]⟩) o).run P w = .ok (.value v) w)(hd:cg M β v d){rs:List eT}{aC:List Prop}:
 Yields P K M β g {e:=some {d},rs,aC} o m w:=
 .inl ⟨v,w,af,M,β,Mem.le_refl _,λ_ _ h=>h,λ_ _ h=>.inl h,h.bB,λe he=>by cases he;exact⟨hd,by simp⟩⟩
def ko(x:Sem Value){v:Value}{w':World}(h:x.run P w = .ok v w'):(do pure (.value<|<-x):Sem Next).run P w = .ok (.value v) w':=by
 simp[h]
def Lc(h:fP P K N M β g m w)(hp:f_ m p){x:Operand}(an:o.op = .move x\/o.op = .assign x){d:D}(hx:rd g.env g.cf p tt o.type x=some d):
 Yields P K M β g {e:=some {d},rs:=g.rs} o m w:=
 fI h (v:=(⟨m,[]⟩:Act).eval x) (by rcases an with an|an<;>simp[execOp,an]) (ez h hp hx)
def acG(h:fP P K N M β g m w)(hp:f_ m p){t:Nat}(an:o.op = .move (.tmp t)\/o.op = .assign (.tmp t)){d:D}(hx:rd g.env g.cf p tt o.type (.tmp t)=some d)
 {s:TypeId} (hs:qB g (.tmp t)=some s) {rs:List eT}:Yields P K M β g {e:=some {d,own:=some s},ik:=[t],rs} o m w:=by
 refine .inl ⟨(⟨m,[]⟩:Act).eval<|.tmp t,w,by rcases an with an|an<;>simp[execOp,an],M,β,Mem.le_refl _,λ_ _ h=>h,λ_ _ h=>.inl h,?_,λe he=>?_⟩
 ·have:=h.bB.ik [t];exact this
 ·cases he;refine⟨ez h hp hx,λT l0 av=>?_⟩
  cases av;simp only[qB,jM]at hs;let⟨e,he,hs⟩:=hs;exact h.bB.hand he hs l0
def amO(h:fP P K N M β g m w)(c:f_ m p)(j:o.op = .assign (.const<|.slice none 0 0)){d:D}(b:rd g.env g.cf p tt o.type (.const<|.slice none 0 0)=some d)(s:TypeId):
 Yields P K M β g {e:=some {d,own:=some s},rs:=g.rs} o m w:=by
 refine .inl ⟨.slice none 0 0,w,by simp[execOp,j,Act.eval],M,β,Mem.le_refl _,λ_ _ h=>h,λ_ _ h=>.inl h,h.bB,λe i=>?_⟩
 cases i;exact⟨ez (ds:=[]) h c b,λT a _=>Sr a T⟩
def amP(h:fP P K N M β g m w)(hp:f_ m p){c:Nat}{a b:Operand}(an:o.op = .pick (.tmp c) a b){wC FI yl:Bool}(hc:rd g.env g.cf p tt o.type (.tmp c)=some (.v<|.bool wC))
 (ha:rd g.env g.cf ((c,true)::p) tt o.type a=some (.v<|.bool FI)) (hb:rd g.env g.cf ((c,false)::p) tt o.type b=some (.v<|.bool yl)):
 Yields P K M β g {e:=some {d:=.v (.bool<|bif wC then FI else yl)},rs:=g.rs} o m w:=by
 have ln:(⟨m,[]⟩:Act).eval (.tmp c) = .bool wC:=rT<|ez h hp hc;have acH:m.getD c undef = .bool wC:=ln;cases wC with
 |true=>
  refine fI h (v:=(⟨m,[]⟩:Act).eval a) (by simp[execOp,an,ln,asBool]) ?_
  exact ez h (p:=(c,true)::p) (λx hx=>by rcases gh.1 hx with rfl|hx;exact acH;exact hp x hx) ha
 |false=>
  refine fI h (v:=(⟨m,[]⟩:Act).eval b) (by simp[execOp,an,ln,asBool]) ?_
  exact ez h (p:=(c,false)::p) (λx hx=>by rcases gh.1 hx with rfl|hx;exact acH;exact hp x hx) hb
def bh.BO{st:aA}(h:bh P K M β st m w)(o:Nat):M w.heap.size o=none:=by
 cases hm:M w.heap.size o with
 |none=>rfl
 |some v=>have:=lt_of_cell<|h.mem _ _ _ hm;omega
def acI(h:fP P K N M β g m w){vs:List Value}{T:TypeId}{cs:List aS}(hlen:vs.length=cs.length)(hF:∀v,v∈vs->v.oneCell'=true)(hlies:mR P T vs.length cs)
 (hv:∀(i:Nat) v e,vs[i]? = some v->cs[i]? = some e->cg M β v e.d/\∀T,e.own=some T->v = .slice none 0 0)
 (af:(execOp (Act.eval ⟨m,[]⟩) o).run P w = .ok (.value<|.pointer<|some ⟨w.heap.size,0,none⟩) {w with heap:=w.heap.push (.cells ⟨vs⟩ T (0,0))}) {id fj:Nat} (hid:pM g o=some (id,fj)):
 Yields P K M β g {e:=some {d:=.ptr id 0},hs:=[(id,cs)],fj,rs:=g.rs} o m w:=by
 have aB:(∀b,β id≠some b)/\id<g.aD+fj:=by
  unfold pM at hid;split at hid
  ·rename_i aCd aa;rw[fe]at hid;split at hid<;>cases hid
   rename_i hc;simp only[cb,ud,ph]at hc;rw[jM]at aa;let⟨s,_,aa⟩:=aa;exact⟨h.fresh s _ aa hc.1,by omega⟩
  ·cases hid;exact⟨λb hb=>by have:=h.bB.lt _ b hb;simp at this,by omega⟩
 refine .inl ⟨_,_,af,M,_,Mem.le_refl _,?_,?_,h.bB.amA (n':=g.aD+fj) aB.1 aB.2 (by simp) (T:=T) hlen hF hlies hv,λe he=>?_⟩
 ·intro r b hb;have hne:r≠id:=λe=>aB.1 b<|e ▸ hb
  simp[hne,hb]
 ·intro r b hb;by_cases hne:r=id
  ·exact .inr (by simp[du,hne])
  ·simp[hne]at hb;exact .inl hb
 ·cases he;exact⟨.ptr _ _ _<|by simp,by simp⟩
def acJ{α:Type}:∀(l:List α) (n i:Nat),(dm n l)[i]? = (l[i]?).map (n+i,·)
 |[],n,i=>by simp[dm]
 |x::l,n,0=>by simp[dm]
 |x::l,n,i+1=>by simp[dm,acJ l (n+1) i];congr 1;funext;congr 1;omega
def acK{α:Type}:∀(l:List α) (n:Nat),(dm n l).length=l.length
 |[],n=>rfl
 |x::l,n=>by simp[dm,acK l<|n+1]
def acL{x:V}{t:Option TypeId}{T:TypeId}(h:K4 x t=some T):∃k n a,x = .bP k n a:=by
 cases x<;>simp[K4]at h;exact⟨_,_,_,rfl⟩
def acM(a:List<|Nat×TypeId)(id i:Nat)(x:V):FG a id i x = .v x\/(x = .hO/\∃u,FG a id i x = .cn id i u/\(i,u)∈a):=by
 unfold FG;split
 ·split
  ·rename_i y b;right
   have d:=List.find?_some b;have c:=uR b;let⟨j,u⟩:=y;obtain rfl:j=i:=by simpa using d
   exact⟨rfl,u,rfl,c⟩
  ·exact .inl rfl
 ·exact .inl rfl
def amQ{t:TypeId}{id:Nat}{z:List aS}(h:K6 tt t id=some z):∃j,look tt t=some j/\z.length=j.zero.length/\
 ∀(i:Nat) e,z[i]? = some e->∃x,j.zero[i]? = some x/\(e.d = .v x\/(x = .hO/\∃u,e.d = .cn id i u/\(i,u)∈j.kU))/\∀T,e.own=some T->∃k n l,x = .bP k n l:=by
 unfold K6 at h;split at h<;>simp at h
 ·rename_i e sz r zero iH c;subst h;refine⟨_,c,by simp,λi s a=>?_⟩
  simp only[gV,dC]at a;obtain⟨x,b,rfl⟩:=a;exact⟨x,b,.inl rfl,λT q=>acL q⟩
 ·rename_i y sz r zero iH c;subst h;refine⟨_,c,by simp[acK],λi s a=>?_⟩
  simp only[gV,dC,acJ]at a;obtain⟨_,⟨x,b,rfl⟩,rfl⟩:=a;simp only[mE];exact⟨x,b,acM iH id i x,λT q=>acL q⟩
 ·rename_i k sz r zero iH _ _ c;subst h;refine⟨_,c,by simp,λi s a=>?_⟩
  simp only[gV,dC]at a;obtain⟨x,b,rfl⟩:=a;exact⟨x,b,.inl rfl,by simp⟩
def amR(h:fP P K N M β g m w)(b2:eP P tt=true){t:TypeId}(an:o.op = .alloc t){z:List aS}{id fj:Nat}(dQ:K6 tt t id=some z)(hid:pM g o=some (id,fj)):
 Yields P K M β g {e:=some {d:=.ptr id 0},hs:=[(id,z)],fj,rs:=g.rs} o m w:=by
 let⟨aK,aa,hlen,acN⟩:=amQ dQ;let⟨r⟩:=et b2 aa;let⟨h1,h2,ah⟩:=BI (M:=M) r.FQ;refine acI h (vs:=r.z.cells.toList) (T:=t) (by omega) h2 (λe he q off u hd=>?_) (λi v e hv he=>?_) ?_ hid
 ·obtain⟨i,hi,rfl⟩:=qN he;let⟨x,hx,kp,_⟩:=acN i z[i]<|ed hi;rcases kp with kp|⟨_,aCe,kp,hm⟩
  ·rw[kp]at hd;cases hd
  ·rw[kp]at hd;cases hd;have:=gK.1 r.kU _ hm
   have db:=r.Sw;rw[show r.z.cells.toList.length=aK.size by omega]
   exact this
 ·let⟨x,hx,hd,gA⟩:=acN i e he;let⟨ay,aO⟩:=ah i v x hv hx
  refine⟨by
   rcases hd with hd|⟨rfl,u,hd,_⟩
   ·rw[hd];exact .v _ _ ay
   ·rw[hd];cases ay;exact .nl _ _ _,λT av=>?_⟩
  obtain⟨k,n,get,rfl⟩:=gA T av;unfold yr at aO;split at aO<;>simp_all
 ·simp[execOp,an,Instr.alloc,r.FR,newVar,newRow]
def SD(tt:dI)(a:ep)(id:Nat):∀(l:List D) (i j:Nat),(s' tt a id i l)[j]? = (l[j]?).map (By tt a id<|i+j)
 |[],i,j=>by simp[s']
 |d::l,i,0=>by simp[s']
 |d::l,i,j+1=>by
  simp only[s',kW];rw[SD tt a id l (i+1) j,show i+1+j=i+(j+1)by omega]
def SE(tt:dI)(a:ep)(id:Nat):∀(l:List D) (i:Nat),(s' tt a id i l).length=l.length
 |[],i=>rfl
 |d::l,i=>by simp only[s',mX,SE tt a id l<|i+1]
def acO{M:Mem}{β:Nat->Option Nat}(tt:dI)(b:ep)(id i:Nat)(d:D)(qH:∀r o u,d ≠ .cn r o u){v:Value}(h:cg M β v d):
 cg M β v (By tt b id i d).d/\(∀T,(By tt b id i d).own=some T->v = .slice none 0 0)/\∀r o u,(By tt b id i d).d = .cn r o u->(o,u)∈b.kU:=by
 unfold By;split
 ·rcases acM b.kU id i .hO with j|⟨_,u,j,k⟩
  ·simp only[j];exact⟨h,(λT a=>by cases a),(λr o u e=>by cases e)⟩
  ·simp only[j]
   cases h with|v u x c=>cases c with
    |hO=>exact⟨.nl _ _ _,(λT a=>by cases a),(λr o u e=>by cases e;exact k)⟩
 ·split
  ·cases h with|v u x c=>cases c with
    |qz=>exact⟨.v _ _<|.mp _ _,λ_ _=>rfl,λr o u e=>by cases e⟩
  ·exact⟨h,(λT a=>by cases a),(λr o u e=>by cases e)⟩
 ·exact⟨h,(λT a=>by cases a),λr o u e=>absurd e<|qH r o u⟩
def amS(h:fP P K N M β g m w)(hp:f_ m p){t:TypeId}{x:Operand}(an:o.op = .box t x){d:D}(hx:rd g.env g.cf p tt o.type x=some d)(az:s8 d=false)(qH:uS (cellsD d)=true)(b2:eP P tt=true){aK:ep}(aa:look tt t=some aK)(db:(cellsD d).length=aK.size){id fj:Nat}(hid:pM g o=some (id,fj)):
 Yields P K M β g {e:=some {d:=.ptr id 0},hs:=[(id,s' tt aK id 0<|cellsD d)],fj,rs:=g.rs} o m w:=by
 let⟨r⟩:=et b2 aa;let⟨h1,h2,ah⟩:=(ez (ds:=[]) h hp hx).cells az;refine acI h (vs:=((⟨m,[]⟩:Act).eval x).cells.toList) (T:=t) (by rw[SE];simpa using h1) h2 (λe he q off u hd=>?_) (λi v e hv he=>?_) ?_ hid
 ·obtain⟨i,hi,rfl⟩:=qN he;have hg:(s' tt aK id 0<|cellsD d)[i]? = some _:=ed hi;rw[SD,dC]at hg;let⟨c,hc,SF⟩:=hg;rw[<-SF]at hd;have u2:i<((⟨m,[]⟩:Act).eval x).cells.toList.length:=by rw[SE]at hi;omega
  have:=(acO tt aK id (0+i) c (FM qH c<|hA hc)<|ah i _ c (ed u2) hc).2.2 q off u hd
  have hb:=gK.1 r.kU _ this;rw[h1,db];exact hb
 ·rw[SD,dC]at he;obtain⟨c,hc,rfl⟩:=he;let⟨g1,g2,_⟩:=acO tt aK id (0+i) c (FM qH c<|hA hc)<|ah i v c hv hc;exact⟨g1,g2⟩
 ·simp[execOp,an,Instr.box,newVar,newRow]
end
def pP{α:Type}:∀(cs:List α) (off:Nat) (xs:List α),off+xs.length<=cs.length->(setAt cs off xs).length=cs.length/\∀(i:Nat),(setAt cs off xs)[i]? = if off<=i/\i<off+xs.length then xs[i-off]? else cs[i]?
 |[],0,[],_=>by simp[setAt]
 |[],0,x::xs,h=>by simp at h
 |[],n+1,xs,h=>by simp at h
 |c::cs,0,[],_=>by
  refine⟨by simp[setAt],λi=>?_⟩
  simp only[setAt,yp];rw[de<|by omega]
 |c::cs,0,x::xs,h=>by
  let⟨d,b⟩:=pP cs 0 xs (by simp at h ⊢;omega)
  refine⟨by simp[setAt,d],λi=>?_⟩
  cases i with
  |zero=>simp[setAt]
  |succ i=>
   simp only[setAt,kW,b i,mE,mX];by_cases a:i<xs.length<;>simp[a]
 |c::cs,n+1,xs,h=>by
  let⟨d,b⟩:=pP cs n xs (by simp at h ⊢;omega)
  refine⟨by simp[setAt,d],λi=>?_⟩
  cases i with
  |zero=>simp[setAt]
  |succ i=>
   simp only[setAt,kW,b i];by_cases a:n<=i/\i<n+xs.length
   ·rw[eI a,eI<|by omega];congr 1;omega
   ·rw[de a,de<|by omega]
def SG(off:Nat):∀(l:List Value) (k:Nat) (cs:Array Value),off+k+l.length<=cs.size->
 ((l.zipIdx k).foldl (λcs (x:Value×Nat)=>cs.setIfInBounds (off+x.2) x.1) cs).size=cs.size/\
 ∀(i:Nat),((l.zipIdx k).foldl (λcs (x:Value×Nat)=>cs.setIfInBounds (off+x.2) x.1) cs)[i]? = if off+k<=i/\i<off+k+l.length then l[i-(off+k)]? else cs[i]?
 |[],k,cs,h=>by
  refine⟨rfl,λi=>?_⟩
  simp only[List.zipIdx_nil,List.foldl_nil,yp];rw[de<|by omega]
 |x::l,k,cs,h=>by
  let⟨d,c⟩:=SG off l (k+1) (cs.setIfInBounds (off+k) x) (by simp at h ⊢;omega)
  simp only[List.zipIdx_cons,yA];refine⟨by simpa using d,λi=>?_⟩
  rw[c i];simp only[mX]at h ⊢;by_cases b:off+(k+1)<=i/\i<off+(k+1)+l.length
  ·rw[eI b,eI<|by omega]
   obtain⟨j,rfl⟩:∃j,i=off+k+1+j:=⟨i-(off+k+1),by omega⟩
   rw[show off+k+1+j-(off+(k+1))=j by omega,show off+k+1+j-(off+k)=j+1 by omega]
   simp
  ·rw[de b];by_cases a:i=off+k
   ·subst a;rw[eI<|by omega]
    have:off+k<cs.size:=by omega
    simp[this]
   ·rw[de<|by omega]
    rw[oH<|Ne.symm a]
section
variable {P:Program} {K:Ctx} {N:Nat} {M:Mem} {β:Nat->Option Nat} {g:dt} {m:Array Value} {w:World} {o:Oper} {f:mO} {p:Path} {tt:dI} {q:hC} {ops:List Oper}
structure Cells(M:Mem)(β:Nat->Option Nat)(vs:List Value)(cs:List D):Prop where
 len:vs.length=cs.length
 one:∀v,v∈vs->v.oneCell'=true
 rep:∀(i:Nat) v c,vs[i]? = some v->cs[i]? = some c->cg M β v c
def Ld{vs:List Value}(h:∀v,v∈vs->v.oneCell'=true){i:Nat}{v:Value}(hi:vs[i]? = some v):v.oneCell'=true:=h v (hA hi)
def acP{vs:List Value}(h:∀(i:Nat) v,vs[i]? = some v->v.oneCell'=true):∀v,v∈vs->v.oneCell'=true:=λv a=>by
 let⟨i,b⟩:=qh a;exact h i v b
def Cells.set{vs:List Value}{cs:List D}(h:Cells M β vs cs){ws:List Value}{ds:List D}(e:Cells M β ws ds){off:Nat}(j:off+ds.length<=cs.length){vs':List Value}(hlen:vs'.length=vs.length)
 (k:∀(i:Nat),vs'[i]? = if off<=i/\i<off+ws.length then ws[i-off]? else vs[i]?):Cells M β vs' (setAt cs off ds):=by
 let⟨n,l⟩:=pP cs off ds j;refine⟨by rw[hlen,n,h.len],acP λi v a=>?_,λi v c a b=>?_⟩
 ·rw[k i]at a;split at a
  ·exact Ld e.one a
  ·exact Ld h.one a
 ·rw[k i]at a;rw[l i]at b;by_cases d:off<=i/\i<off+ds.length
  ·rw[eI d]at b;rw[eI (by rw[e.len];exact d)]at a
   exact e.rep _ v c a b
  ·rw[de d]at b;rw[de (by rw[e.len];exact d)]at a
   exact h.rep _ v c a b
def SH{place:Nat->Option (Nat×Nat)}:∀{ps:List (Nat×D)} {vs:List (Nat×Value)} {cs U0:List D} {cells:Array Value},vs.length=ps.length->
 (∀(i:Nat) a b,ps[i]? = some a->vs[i]? = some b->a.1=b.1/\cg M β b.2 a.2)->Cells M β cells.toList cs->uT place cs ps=some U0->
 ∃e,Instr.fill place cells vs=some e/\Cells M β e.toList U0
 |[],[],cs,U0,cells,_,_,l,h=>by simp[uT]at h;subst h;exact⟨cells,rfl,l⟩
 |[],_::_,_,_,_,h,_,_,_=>by simp at h
 |_::_,[],_,_,_,h,_,_,_=>by simp at h
 |(i,d)::ps,(j,v)::vs,cs,U0,cells,F,u,l,h=>by
  obtain⟨z,hd⟩:=u 0 (i,d) (j,v) (by simp) (by simp)
  simp only at z hd
  subst z;simp only[uT]at h;split at h
  ·cases h
  ·rename_i c size E;obtain⟨n,h⟩:=U5 h;simp only[cb,kb,pn,hh]at n;obtain⟨⟨s,H⟩,r⟩:=n;obtain⟨t,J,O⟩:=hd.cells r;have S:cells.size=cs.length:=by simpa using l.len
   have L:v.cells.size=size:=by simpa[s]using t
   have y:=SG c v.cells.toList 0 cells (by simp[L];omega)
   have Q:v.cells.zipIdx.foldl (λcs (x:Value×Nat)=>cs.setIfInBounds (c+x.2) x.1) cells=(v.cells.toList.zipIdx 0).foldl (λcs (x:Value×Nat)=>cs.setIfInBounds (c+x.2) x.1) cells:=by
    rw[<-Array.foldl_toList,Array.toList_zipIdx]
   have B:Cells M β (v.cells.zipIdx.foldl (λcs (x:Value×Nat)=>cs.setIfInBounds (c+x.2) x.1) cells).toList (setAt cs c<|cellsD d):=by
    rw[Q];refine l.set ⟨t,J,O⟩ (by omega) (by simpa using y.1)<|λk=>?_
    have:=y.2 k
    simp only[sa]at this;rw[tY,this];simp only[tY]
   obtain⟨e,R,A⟩:=SH (place:=place) (by simpa using F) (λk a b I n=>u (k+1) a b (by simpa using I)<|by simpa using n) B h
   refine⟨e,?_,A⟩
   simp only[Instr.fill,E];rw[de (by simp;omega)]
   exact R
def wH{α k:Type}{f:α->Option k}:∀{l:List α} {c:List k},mapM' f l=some c->c.length=l.length/\∀(i:Nat) a b,l[i]? = some a->c[i]? = some b->f a=some b
 |[],c,h=>by simp[mapM']at h;subst h;simp
 |x::l,c,h=>by
  simp only[mapM']at h;split at h<;>simp at h
  rename_i y t s j;subst h;let⟨r,n⟩:=wH j;refine⟨by simp[r],λi a b e d=>?_⟩
  cases i with
  |zero=>simp at e d;subst e;subst d;exact s
  |succ i=>simp at e d;exact n i a b e d
def Row.acQ{t:TypeId}{b:ep}(r:Row P t b):Cells M β r.z.cells.toList (b.zero.map .v):=by
 let⟨j,h,k⟩:=BI (M:=M) r.FQ;refine⟨by simpa using j,h,λi v c e a=>?_⟩
 simp only[gV,dC]at a;obtain⟨x,d,rfl⟩:=a;exact .v _ _ (k i v x e d).1
def amU{M:Mem}{v:Value}{x:V}(h:yr v x=true):cY M v (Sj x):=by
 have a:=(Sv (M:=M) h).1;unfold yr at h;split at h<;>first|exact a|skip
 ·rename_i k n g;have:n=0:=by simpa using h
  subst this;exact .qz _ _
 ·cases h
def Row.amV{t:TypeId}{b:ep}(r:Row P t b):Cells M β r.z.cells.toList (b.zero.map λx=>.v<|Sj x):=by
 let⟨j,h,k⟩:=BI (M:=M) r.FQ;refine⟨by simpa using j,h,λi v c e a=>?_⟩
 simp only[gV,dC]at a;obtain⟨x,d,rfl⟩:=a;exact .v _ _ (amU (k i v x e d).2)
def SJ(h:fP P K N M β g m w)(k:f_ m p){ty:Nat->TypeId}{parts:Array (Nat×Operand)}{ps:List (Nat×D)}(e:mapM' (fun(x:Nat×Operand)=>(rd g.env g.cf p tt (ty x.1) x.2).map λd=>(x.1,d)) parts.toList=some ps):
 ((parts.map fun(x:Nat×Operand)=>(x.1,(⟨m,[]⟩:Act).eval x.2)).toList).length=ps.length/\
 ∀(i:Nat) a b,ps[i]? = some a->(parts.map fun(x:Nat×Operand)=>(x.1,(⟨m,[]⟩:Act).eval x.2)).toList[i]? = some b->a.1=b.1/\cg M β b.2 a.2:=by
 let⟨r,n⟩:=wH e;refine⟨by simpa using r.symm,λi a b l c=>?_⟩
 simp only[Array.toList_map,gV,dC]at c;obtain⟨x,j,rfl⟩:=c;have:=n i x a j l
 simp only[dC]at this;obtain⟨d,hd,rfl⟩:=this;exact⟨rfl,ez h k hd⟩
def run_places{a:Array Field}{l:List (Nat×TypeId×Nat)}(n:l=a.toList.map λf=>(f.offset,f.type,P.cellsOf f.type))(d:∀f,f∈a.toList->1<=P.cellsOf f.type):
 (a.mapM λf=>(do pure (f.offset,<-sizeOf f.type):Sem<|Nat×Nat)).run P w = .ok (a.map λf=>(f.offset,P.cellsOf f.type)) w:=by
 let⟨eQ⟩:=a;rw[AA]
 have b:∀(l:List Field),(∀f,f∈l->1<=P.cellsOf f.type)->(l.mapM λf=>(do pure (f.offset,<-sizeOf f.type):Sem<|Nat×Nat)).run P w = .ok (l.map λf=>(f.offset,P.cellsOf f.type)) w:=by
  intro l;induction l with
  |nil=>intro _;rfl
  |cons f l k=>
   intro c;have j:=c f (by simp)
   have e:(sizeOf f.type).run P w = .ok (P.cellsOf f.type) w:=by
    cases hi:P.info? f.type with
    |none=>simp[Program.cellsOf,hi]at j
    |some i=>exact Go.run_sizeOf w hi
   simp only[Aw,Sem.run_bind,e,Result.andThen_ok,Sem.run_pure,k<|λf h=>c f<|by simp[h],kz]
 simp only[Sem.run_map,b eQ<|by simpa using d,Result.andThen_ok]
 simp
def acR(h:fP P K N M β g m w)(hp:f_ m p)(b2:eP P tt=true){t:TypeId}{aK:ep}(aa:look tt t=some aK){cT:List (Nat×TypeId×Nat)}(hk:aK.k = .eh cT)(nU:cT.all (λf=>Nat.ble 1 f.2.2)=true)
 {parts:Array (Nat×Operand)} (an:o.op = .build t parts) {ps:List (Nat×D)} (lq:mapM' (fun(x:Nat×Operand)=>(rd g.env g.cf p tt (uU tt t x.1) x.2).map λd=>(x.1,d)) parts.toList=some ps)
 {zs:List D} (yw:∀(r:Row P t aK),Cells M β r.z.cells.toList zs) {cs:List D} (aB:uT (fun(i:Nat)=>(cT[i]?).map fun(f:Nat×TypeId×Nat)=>(f.1,f.2.2)) zs ps=some cs) {rs:List eT}:
 Yields P K M β g {e:=some {d:=ox cs},rs} o m w:=by
 let⟨r⟩:=et b2 aa;let⟨gs,hd,SK⟩:=SA r hk;let⟨h1,h2⟩:=SJ h hp lq;let⟨cells,FT,hc⟩:=SH h1 h2 (yw r) aB
 have Lf:∀f,f∈gs.toList->1<=P.cellsOf f.type:=by
  intro fd kX;rw[gK]at nU;have:=nU (fd.offset,fd.type,P.cellsOf fd.type) (by rw[SK];exact jk.2 ⟨fd,kX,rfl⟩)
  simpa using this
 have kq:(fun(i:Nat)=>(gs.map λf=>(f.offset,P.cellsOf f.type))[i]?)=fun(i:Nat)=>(cT[i]?).map fun(f:Nat×TypeId×Nat)=>(f.1,f.2.2):=by
  funext i
  rw[SK];cases hi:gs[i]? <;> simp[hi]
 refine fI h (v:=.agg cells) ?_ ?_
 ·simp only[execOp,an];refine ko _ ?_;have amW:=run_places (P:=P) (w:=w) SK Lf;simp only[Instr.build,Sem.run_bind,r.FR,Result.andThen_ok,r.run_underlying,hd,amW,kq];have:Instr.fill (fun(i:Nat)=>(cT[i]?).map fun(f:Nat×TypeId×Nat)=>(f.1,f.2.2)) r.z.cells (parts.map fun(x:Nat×Operand)=>(x.1,(⟨m,[]⟩:Act).eval x.2)).toList=some cells:=FT
  rw[this];rfl
 ·have:=BK hc.len hc.one hc.rep
  simpa using this
def amX(h:fP P K N M β g m w)(hp:f_ m p)(b2:eP P tt=true){t:TypeId}{aK:ep}(aa:look tt t=some aK){n:Nat}{e:TypeId}(hk:aK.k = .arr n e){cH:ep}(hl2:look tt e=some cH)
 {parts:Array (Nat×Operand)} (an:o.op = .build t parts) {ps:List (Nat×D)} (lq:mapM' (fun(x:Nat×Operand)=>(rd g.env g.cf p tt (uU tt t x.1) x.2).map λd=>(x.1,d)) parts.toList=some ps)
 {cs:List D} (aB:uT (λi=>some (i*cH.size,cH.size)) (aK.zero.map .v) ps=some cs):
 Yields P K M β g {e:=some {d:=ox cs},rs:=g.rs} o m w:=by
 let⟨r⟩:=et b2 aa;let⟨r2⟩:=et b2 hl2;let⟨h1,h2⟩:=SJ h hp lq;let⟨cells,FT,hc⟩:=SH h1 h2 (r.acQ (β:=β)) aB;refine fI h (v:=.agg cells) ?_ ?_
 ·simp only[execOp,an];refine ko _ ?_;simp only[Instr.build,Sem.run_bind,r.FR,Result.andThen_ok,r.run_underlying,amL r hk,r2.run_sizeOf];have:Instr.fill (λi=>some (i*cH.size,cH.size)) r.z.cells (parts.map fun(x:Nat×Operand)=>(x.1,(⟨m,[]⟩:Act).eval x.2)).toList=some cells:=FT
  rw[this];rfl
 ·have:=BK hc.len hc.one hc.rep
  simpa using this
end
section
variable {P:Program} {K:Ctx} {N:Nat} {M:Mem} {β:Nat->Option Nat} {g:dt} {q:Array Value} {w:World} {o:Oper} {f:mO} {p:Path} {tt:dI} {A:hC} {ops:List Oper}
def kr(M:Mem)(b lo:Nat)(vs:List Value):Mem:=λa o=>if a=b/\lo<=o/\o<lo+vs.length then vs[o-lo]? else M a o
def SL{b lo:Nat}{vs:List Value}(h:∀o,lo<=o->M b o=none):M.le (kr M b lo vs):=by
 intro i o v a;unfold kr;split
 ·rename_i c;obtain⟨rfl,d,e⟩:=c;rw[h o d]at a;cases a
 ·exact a
def Lg{b lo:Nat}{vs:List Value}{i:Nat}{v:Value}(h:vs[i]? = some v):kr M b lo vs b (lo+i)=some v:=by
 have a:i<vs.length:=(eR.1 h).1;unfold kr;rw[eI ⟨rfl,by omega,by omega⟩,show lo+i-lo=i by omega,h]
def amY{k n:Nat}{cells:List Value}(c:cells.length=n*k){i j:Nat}(hi:i<n)(b:j<k):cells[i*k+j]? = some (cells.getD (i*k+j) undef):=by
 have:i*k+j<cells.length:=by
  have a:(i+1)*k<=n*k:=qi k hi;rw[qQ]at a;omega
 simp[List.getD,ed this]
def bh.newRow{st:aA}(h:bh P K M β st q w){vs:List Value}{T:TypeId}{n:Nat}{w':World}(d:w'.heap=w.heap.push (.cells ⟨vs⟩ T (0,0)))(j:(w'.os,w'.output)=(w.os,w.output):=by rfl):
 bh P K (kr M w.heap.size 0<|vs.take n) β st q w'/\M.le (kr M w.heap.size 0<|vs.take n):=by
 have i:M.le (kr M w.heap.size 0<|vs.take n):=SL λo _=>h.BO o
 refine⟨h.free w.heap.size ?_ ?_ ?_ ?_ i ?_ ?_ j,i⟩
 ·cases dS:K.F w.heap.size with
  |none=>rfl
  |some u=>have:=lt_of_heap (h.frame _ u dS).1;omega
 ·intro r y s b;have:=h.FN s b;omega
 ·intro l e T t m b;have:=(h.own l e T t m).lt b;omega
 ·intro k _ c;rw[d];simp[wX,AO c]
 ·intro k o c;simp[kr,c]
 ·intro o v a;unfold kr at a;split at a
  ·rename_i x;simp only[pN]at a;rw[ix]at a;split at a
   ·have:w'.heap[w.heap.size]? = some (.cells ⟨vs⟩ T (0,0)):=by rw[d];simp
    rw[cell_of_heap this,a]
   ·cases a
  ·rw[h.BO o]at a;cases a
def SM{st:aA}(h:bh P K M β st q w){l0:Loc}{T:TypeId}{vs:List Value}{T':TypeId}(O:T'=T){n cap:Nat}{w':World}(t:w'.heap=w.heap.push (.cells ⟨vs⟩ T' (0,0)))(u:n<=cap)
 (a:cap*P.cellsOf T<=vs.length):oA P K (kr M w.heap.size 0<|vs.take<|n*P.cellsOf T) β st q w' l0 (.slice (some ⟨w.heap.size,0,none⟩) n cap) T:=by
 have y:w'.heap[w.heap.size]? = some (.cells ⟨vs⟩ T' (0,0)):=by rw[t];simp
 refine⟨.inr ⟨w.heap.size,n,cap,vs,T',rfl,u,y,a,λo U=>?_,?_,O⟩,?_,?_⟩
 ·have B:n*P.cellsOf T<=vs.length:=xb (qi _ u) a;unfold kr;rw[de,h.BO o]
  rintro ⟨_,_,J⟩
  simp only[jF]at J;omega
 ·cases dS:K.F w.heap.size with
  |none=>rfl
  |some L=>have:=lt_of_heap (h.frame _ L dS).1;omega
 ·intro l e z b m I _ c d;simp[km,lj]at c;subst c
  have hold:ch q w' β l=ch q w β l:=by
   cases l with
   |slot s=>rfl
   |cell r i=>
    simp only[aA.at]at m;cases j:look st.H r with
    |none=>simp[j]at m
    |some x=>
     let⟨S,Q,R,k,E,_⟩:=h.box r x j;simp only[ch,k];rw[uZ (w:=w) (by rw[t];simp[wX,AO<|lt_of_heap E])]
  rw[hold]at d;have:=(h.own l e z m I).lt d
  omega
 ·intro b r x c j d;simp[km,lj]at c;subst c;have:=h.FN j d
  omega
def acS{size:Nat}:∀(l:List<|Nat×Value) (m:Nat) (cells:Array Value),(∀(i:Nat) x,l[i]? = some x->x.1=m+i/\x.2.cells.size=size)->(m+l.length)*size<=cells.size->
 ∃d,Instr.fill (λi=>some (i*size,size)) cells l=some d/\d.size=cells.size/\(∀i,i<m*size->d[i]? = cells[i]?)/\
  ∀(i:Nat) x (j:Nat) u,l[i]? = some x->x.2.cells[j]? = some u->d[(m+i)*size+j]? = some u
 |[],m,cells,_,_=>⟨cells,rfl,rfl,λ_ _=>rfl,by simp⟩
 |(a,v)::l,m,cells,B,s=>by
  obtain⟨y,k⟩:=B 0 (a,v) (by simp)
  simp only[sa]at y;simp only at k
  subst y
  have H:a*size+size<=cells.size:=by
   have r:(a+1)*size<=(a+((a,v)::l).length)*size:=qi _ (by simp)
   rw[qQ,Nat.one_mul]at r;omega
  have e:=SG (a*size) v.cells.toList 0 cells (by simp[k];omega)
  have I:v.cells.zipIdx.foldl (λb (x:Value×Nat)=>b.setIfInBounds (a*size+x.2) x.1) cells=(v.cells.toList.zipIdx 0).foldl (λb (x:Value×Nat)=>b.setIfInBounds (a*size+x.2) x.1) cells:=by
   rw[<-Array.foldl_toList,Array.toList_zipIdx]
  rw[<-I]at e;generalize E:v.cells.zipIdx.foldl (λb (x:Value×Nat)=>b.setIfInBounds (a*size+x.2) x.1) cells=c1 at e
  obtain⟨d,r,t,z,F⟩:=acS l (a+1) c1 (λi x h=>by
   obtain⟨r,t⟩:=B (i+1) x (by simpa using h)
   exact⟨by omega,t⟩) (by rw[e.1];simpa[pR,wa 1]using s)
  refine⟨d,?_,by rw[t,e.1],λi L=>?_,λi x j u h n=>?_⟩
  ·simp only[Instr.fill];rw[de (by simp[k];omega)]
   have:v.cells.zipIdx.foldl (λb (c,j)=>b.setIfInBounds (a*size+j) c) cells=c1:=E
   rw[this];exact r
  ·rw[z i (by rw[qQ];omega),e.2 i,de<|by omega]
  ·cases i with
   |zero=>
    simp at h;subst h
    simp only at n
    have J:j<size:=by rw[<-k];exact(fy.1 n).1
    rw[sa,z _ (by rw[qQ,Nat.one_mul];omega),e.2,eI (by simp[k];omega)]
    simpa using n
   |succ i=>
    have:=F i x j u (by simpa using h) n
    rw[show a+(i+1)=a+1+i by omega];exact this
def acT{a:Bool}{size:Nat}:∀{ps:List (Nat×D)} {n:Nat} {xs:List V},elems a size n ps=some xs->xs.length=ps.length/\
 ∀(i:Nat) y x,ps[i]? = some y->xs[i]? = some x->y=(n+i,.v x)/\x.cells.length=size/\x.isAgg=a
 |[],n,xs,h=>by simp[elems]at h;subst h;simp
 |(j,d)::ps,n,xs,h=>by
  cases d<;>simp only[elems]at h<;>try cases h
  rename_i E;let⟨m,h⟩:=U5 h;simp only[cb,kb,beq_iff_eq]at m;let⟨⟨l,k⟩,e⟩:=m;simp only[dC]at h;obtain⟨B,t,rfl⟩:=h;let⟨s,r⟩:=acT t;refine⟨by simp[s],λi y x c b=>?_⟩
  cases i with
  |zero=>simp at c b;subst c;subst b;exact⟨by simp[l],k,e⟩
  |succ i=>
   simp at c b
   let⟨z,u⟩:=r i y x c b;exact⟨by rw[z];simp;omega,u⟩
def amZ(h:fP P K N M β g q w)(hp:f_ q p)(b2:eP P tt=true){t e:TypeId}{aK a:ep}(aa:look tt t=some aK)(hk:aK.k = .bP e)(hl2:look tt e=some a){len:Nat}
 {parts:Array (Nat×Operand)} (an:o.op = .buildSlice t len parts) {ps:List (Nat×D)} (lq:mapM' (fun(x:Nat×Operand)=>(rd g.env g.cf p tt (uU tt t x.1) x.2).map λd=>(x.1,d)) parts.toList=some ps)
 {xs:List V} (hx:elems a.k.isAgg a.size 0 ps=some xs) (hlen:xs.length=len) (_hs:1<=a.size) (hb:len*a.size<=16777216) {x:V} (hv:ij (.bP a.size len λi=>xs.getD i .hO) x) {rs:List eT} {aC:List Prop}:
 Yields P K M β g {e:=some {d:=.v x,own:=some e},rs,aC} o q w:=by
 let⟨r⟩:=et b2 aa;let⟨d_⟩:=et b2 hl2;let⟨h1,h2⟩:=SJ h hp lq;let⟨u3,Y⟩:=acT hx;generalize u4:(parts.map fun(x:Nat×Operand)=>(x.1,(⟨q,[]⟩:Act).eval x.2))=pa at h1 h2
 generalize J:pa.toList=vs at h1 h2
 have kq:vs.length=len:=by omega
 have jp:∀(i:Nat) b,vs[i]? = some b->∃x,xs[i]? = some x/\b.1=i/\cY M b.2 x/\x.cells.length=a.size:=by
  intro i b l;have rO:i<vs.length:=(eR.1 l).1;have I:ps[i]? = some ps[i]:=ed (by omega)
  have B:xs[i]? = some xs[i]:=ed (by omega)
  let⟨U,S,_⟩:=Y i _ _ I B;let⟨F,R⟩:=h2 i _ b I l;rw[U]at F R;exact⟨_,B,by simpa using F.symm,nn R,S⟩
 have W:∀(i:Nat) b,vs[i]? = some b->∃x,xs[i]? = some x/\b.1=i/\b.2.cells.size=a.size/\(∀u,u∈b.2.cells.toList->u.oneCell'=true)/\∀(j:Nat) u c,b.2.cells.toList[j]? = some u->x.cells[j]? = some c->cY M u c:=by
  intro i b l;let⟨x,U,S,F,R⟩:=jp i b l;let⟨cG,dk,ea⟩:=(cg.v (β:=β) _ _ F).cells rfl;refine⟨x,U,S,by simp[cellsD]at cG;omega,dk,λj u c m Q=>?_⟩
  exact nn<|ea j u (.v c) m<|by simp[cellsD,Q]
 let⟨s,X,wJ,aCg,am0⟩:=acS (size:=a.size) vs 0 ((Array.range<|len*a.size).map λi=>d_.z.cells[i % d_.z.cells.size]!) (λi x l=>by
  let⟨y,U,S,F,_⟩:=W i x l;exact⟨by omega,F⟩) (by simp[kq])
 have db:s.size=len*a.size:=by rw[wJ];simp
 have jW:∀i j,i<len->j<a.size->∃b u,vs[i]? = some b/\b.2.cells.toList[j]? = some u/\s.toList[i*a.size+j]? = some u:=by
  intro i j l H;have e_:vs[i]? = some vs[i]:=ed (by omega)
  let⟨y,U,S,F,_⟩:=W i _ e_;have m:vs[i].2.cells[j]? = some vs[i].2.cells[j]:=kt (by omega)
  refine⟨vs[i],vs[i].2.cells[j],e_,(tY ..).trans m,?_⟩
  have:=am0 i _ j _ e_ m
  simpa using this
 have L:(execOp (Act.eval ⟨q,[]⟩) o).run P w = .ok (.value<|.slice (some ⟨w.heap.size,0,none⟩) len len) {w with heap:=w.heap.push (.cells ⟨s.toList⟩ e (0,0))}:=by
  simp only[execOp,an];refine ko _ ?_;have bV:¬ (16777216<len*a.size):=by omega
  have am1:(parts.map fun(x:Nat×Operand)=>match x with|(i,x)=>(i,(⟨q,[]⟩:Act).eval x))=pa:=u4
  rw[am1];simp only[Instr.buildSlice,Sem.run_bind,r.run_underlying,qG r hk,Result.andThen_ok,d_.run_sizeOf];by_cases h0:len*a.size=0
  ·have bN:∀f:Nat->Value,(Array.range<|len*a.size).map f = #[]:=by intro f;rw[h0];simp
   rw[bN]at X;have e1:∀f:Nat->Value,(Array.range 0).map f = #[]:=by intro f;simp
   simp[h0,J,e1,X,newRow]
  ·simp[h0,bV,d_.FR,J,X,newRow]
 let⟨dc,O⟩:=h.bB.newRow (w':={w with heap:=w.heap.push (.cells ⟨s.toList⟩ e (0,0))}) (T:=e) (vs:=s.toList) (n:=len*a.size) rfl;have FU:s.toList.take (len*a.size)=s.toList:=re (by simp[db])
 refine .inl ⟨_,_,L,_,β,O,λ_ _ h=>h,λ_ _ h=>.inl h,dc,λe1 he=>?_⟩
 cases he;refine⟨.v _ _<|hv _ _<|.bP _ 0 a.size len len _ (λi j=>s.toList.getD (i*a.size+j) undef) (fS _) ?_ ?_ ?_ ?_,λT l0 av=>?_⟩
 ·intro i l;have B:xs[i]? = some xs[i]:=ed (by omega)
  have I:ps[i]? = some ps[i]:=ed (by omega)
  simp only[List.getD,B,nB];exact(Y i _ _ I B).2.1
 ·intro i j l H;let⟨b,u,_,_,m⟩:=jW i j l H;rw[FU,mE];have:=Lg (M:=M) (b:=w.heap.size) (lo:=0) m
  simpa[List.getD,m]using this
 ·intro i j l H;let⟨b,u,E,Z,m⟩:=jW i j l H;let⟨y,_,_,_,R,_⟩:=W i b E;simp only[List.getD,m,nB];exact Ld R Z
 ·intro i j c l Q;have B:xs[i]? = some xs[i]:=ed (by omega)
  simp only[List.getD,B,nB]at Q
  have H:j<a.size:=by
   have I:ps[i]? = some ps[i]:=ed (by omega)
   rw[<-(Y i _ _ I B).2.1];exact(eR.1 Q).1
  let⟨b,u,E,Z,m⟩:=jW i j l H;let⟨y,b9,_,_,_,cG⟩:=W i b E;rw[B]at b9;cases b9;simp only[List.getD,m,nB];exact(cG j u c Z Q).mono O
 ·cases av;have:=SM (l0:=l0) (T:=e) h.bB (vs:=s.toList) (T':=e) (n:=len) (cap:=len) (w':={w with heap:=w.heap.push (.cells ⟨s.toList⟩ e (0,0))}) rfl rfl (fS _) (by rw[d_.cellsOf];simp[db])
  rw[d_.cellsOf]at this;exact this
end
section
variable {P:Program} {K:Ctx} {N:Nat} {M:Mem} {β:Nat->Option Nat} {g:dt} {m:Array Value} {w:World} {o:Oper} {f:mO} {p:Path} {tt:dI} {y:hC} {ops:List Oper}
def am2(h:fP P K N M β g m w)(hp:f_ m p)(b2:eP P tt=true){t:TypeId}{aK:ep}(aa:look tt t=some aK){a:Operand}(an:o.op = .load t a){q off:Nat}(ha:rd g.env g.cf p tt o.type a=some (.ptr q off))
 {cs:List aS} (am:look g.H q=some cs) (hG:aK.k.isAgg=true) (hle:off+aK.size<=cs.length):
 Yields P K M β g {e:=some {d:=ox (((cs.drop off).take aK.size).map (·.d))},rs:=g.rs} o m w:=by
 let⟨r⟩:=et b2 aa;let⟨b,hb,hv⟩:=qF<|ez (ds:=[]) h hp ha;let⟨bc,vs,T,bV,bf,hlen,_,_,hF,mr⟩:=h.bB.box q cs am;rw[hb]at bV;cases bV;have hrun:=K_ (P:=P) (w:=w) r (off:=off) bf (by omega) hG
 refine fI h (v:=.agg ⟨(vs.drop off).take aK.size⟩) ?_ ?_
 ·simp only[execOp,an];rw[hv];exact ko _ hrun
 ·refine BK (by simp;omega) (λv hv=>hF v<|lE<|mI hv)<|λi v c hv hc=>?_
  rw[gV,dC]at hc;obtain⟨e,he,rfl⟩:=hc;rw[ix]at hv he;split at hv
  ·rename_i hi;rw[eI hi,jl]at he;rw[jl]at hv;have:=h.bB.dp (.cell q<|off+i) e (by simp[aA.at,am,he])
   simpa[ch,hb,cell_of_heap bf,hv]using this
  ·cases hv
def am3(h:fP P K N M β g m w)(hp:f_ m p)(b2:eP P tt=true){t:TypeId}{aK:ep}(aa:look tt t=some aK){a:Operand}(an:o.op = .load t a){q off:Nat}(ha:rd g.env g.cf p tt o.type a=some (.ptr q off))
 {cs:List aS} (am:look g.H q=some cs) (hG:aK.k.isAgg=false) {e:aS} (he:cs[off]? = some e):
 Yields P K M β g {e:=some {d:=e.d},rs:=g.rs} o m w:=by
 let⟨r⟩:=et b2 aa;let⟨b,hb,hv⟩:=qF<|ez (ds:=[]) h hp ha;let⟨bc,vs,T,v,bV,bf,e_,cz⟩:=Sp h.bB am he;rw[hb]at bV;cases bV;have hc:w.cell? ⟨b,off,none⟩=some v:=by rw[cell_of_heap bf,e_]
 refine fI h (v:=v) ?_ ?_
 ·simp only[execOp,an];rw[hv];exact ko _<|Sz (P:=P) r hc hG
 ·have:=h.bB.dp (.cell q off) e (by simp[aA.at,am,he])
  rwa [cz]at this
def acV{cs:List aS}{off:Nat}{e:aS}(b:off<cs.length)(i:Nat):(setAt cs off [e])[i]? = if i=off then some e else cs[i]? := by
 rw[(pP cs off [e] (by simp;omega)).2 i]
 by_cases a:i=off
 ·subst a;simp
 ·rw[de (by simp;omega),de a]
def am4(h:fP P K N M β g m w)(hp:f_ m p)(b2:eP P tt=true){t:TypeId}{aK:ep}(aa:look tt t=some aK){a:Operand}(an:o.op = .load t a){q off:Nat}(ha:rd g.env g.cf p tt o.type a=some (.ptr q off))
 {cs:List aS} (am:look g.H q=some cs) (hG:aK.k.isAgg=false) {e:aS} (he:cs[off]? = some e) {s:TypeId} (hs:e.own=some s) {rs:List eT}:
 Yields P K M β g {e:=some e,hs:=[(q,setAt cs off [{d:=e.d}])],rs} o m w:=by
 let⟨r⟩:=et b2 aa;let⟨b,hb,hv⟩:=qF<|ez (ds:=[]) h hp ha;let⟨bc,vs,T,v,bV,bf,e_,cz⟩:=Sp h.bB am he;rw[hb]at bV;cases bV;have hc:w.cell? ⟨b,off,none⟩=some v:=by rw[cell_of_heap bf,e_]
 have b1:off<cs.length:=(eR.1 he).1
 have kn:=λl0=>h.bB.acy am he hs (U0:=setAt cs off [{d:=e.d}]) (pP cs off _ (by simp;omega)).1 (λj a7 hj=>by
  rw[acV b1]at hj;by_cases SO:j=off
  ·subst SO;simp at hj;subst hj;exact⟨e,he,rfl,by simp⟩
  ·rw[de SO]at hj;exact⟨a7,hj,rfl,λT av=>⟨av,SO⟩⟩) l0
 refine .inl ⟨v,w,?_,M,β,Mem.le_refl _,λ_ _ h=>h,λ_ _ h=>.inl h,(kn<|.slot 0).1,λe1 pQ=>?_⟩
 ·simp only[execOp,an];rw[hv];exact ko _<|Sz (P:=P) r hc hG
 ·cases pQ;refine⟨?_,λT l0 av=>?_⟩
  ·have:=h.bB.dp (.cell q off) e (by simp[aA.at,am,he])
   rwa [cz]at this
  ·rw[hs]at av;cases av;have:=(kn l0).2
   rwa [cz]at this
def am5(h:fP P K N M β g m w)(hp:f_ m p)(b2:eP P tt=true){t:TypeId}{aK:ep}(aa:look tt t=some aK){a:Operand}(an:o.op = .load t a){x:V}(ha:rd g.env g.cf p tt o.type a=some (.fD x))
 (hG:x.isAgg=aK.k.isAgg) (hs:x.cells.length=aK.size):Yields P K M β g {e:=some {d:=.v x},rs:=g.rs} o m w:=by
 let⟨r⟩:=et b2 aa;let⟨u,h1,h2⟩:=amK (w:=w) r h.bB.mem (ez (ds:=[]) h hp ha) hG hs;exact fI h (v:=u) (by simp only[execOp,an];exact ko _ h1) (.v _ _ h2)
def FV{t:TypeId}{a:ep}(r:Row P t a){b off:Nat}{vs:List Value}{T:TypeId}(h:w.heap[b]? = some (.cells ⟨vs⟩ T (0,0))){v:Value}(c:v.cells.size=a.size)(e:∀u,u∈v.cells.toList->u.oneCell'=true)
 (d:off+a.size<=vs.length):(Instr.storeAt t (.pointer<|some ⟨b,off,none⟩) v).run P w = .ok () (w.setRow b (vs.take off++v.cells.toList++vs.drop (off+a.size)).toArray):=by
 have:=run_storeCells_at P b off T v.cells.toList 0 ⟨vs⟩ w h (by simpa[c]using d) e
 simp only[sa,Array.length_toList,c]at this;simp[Instr.storeAt,Instr.sureAddr,storeVar,r.run_sizeOf,c,this]
def yx{vs us:List Value}{off:Nat}(a:off+us.length<=vs.length)(i:Nat):(vs.take off++us++vs.drop (off+us.length))[i]? = if off<=i/\i<off+us.length then us[i-off]? else vs[i]? := by
 have c:(vs.take off).length=off:=by simp;omega
 by_cases b:i<off
 ·rw[de<|by omega,eO,iw<|by omega,ix,eI b]
 ·by_cases d:i<off+us.length
  ·rw[eI<|by omega,eO,jE<|by omega,c,iw<|by omega]
  ·rw[de<|by omega,jE (by simp;omega),jl]
   congr 1
   simp;omega
def yy{vs us:List Value}{off:Nat}(a:off+us.length<=vs.length):(vs.take off++us++vs.drop (off+us.length)).length=vs.length:=by
 simp;omega
def SP{vs us:List Value}{off:Nat}(a:∀v,v∈vs->v.oneCell'=true)(b:∀v,v∈us->v.oneCell'=true):∀v,v∈vs.take off++us++vs.drop (off+us.length)->v.oneCell'=true:=by
 intro v hv;rcases jN.1 hv with hv|hv
 ·rcases jN.1 hv with hv|hv
  ·exact a v<|mI hv
  ·exact b v hv
 ·exact a v (lE hv)
def SQ{v:Value}{t:TypeId}{a x:Operand}(e:o.op = .store t a x)(c:(⟨m,[]⟩:Act).eval x=v){b:Value}(d:(⟨m,[]⟩:Act).eval a=b){w':World}(h:(Instr.storeAt t b v).run P w = .ok () w'):
 (execOp (Act.eval ⟨m,[]⟩) o).run P w = .ok .skip w':=by
 simp only[execOp,e,c,d];simp[h]
def mR.set{T:TypeId}{n:Nat}{cs ds:List aS}{off:Nat}(h:mR P T n cs)(hn:∀e,e∈ds->∀r o u,e.d ≠ .cn r o u)(b:off+ds.length<=cs.length):mR P T n (setAt cs off ds):=λe j r o u hd=>by
 obtain⟨i,c,rfl⟩:=qN j;have a:(setAt cs off ds)[i]? = some (setAt cs off ds)[i]:=ed c;rw[(pP cs off ds b).2 i]at a;split at a
 ·exact absurd hd<|hn _ (hA a) r o u
 ·exact h _ (hA a) r o u hd
def am6(h:fP P K N M β g m w)(O:f_ m p)(b2:eP P tt=true){t:TypeId}{n:ep}(aa:look tt t=some n){a x:Operand}(an:o.op = .store t a x){q off:Nat}(ha:rd g.env g.cf p tt o.type a=some (.ptr q off))
 {cs:List aS} (J:look g.H q=some cs) {d:D} (hx:rd g.env g.cf p tt t x=some d) (az:s8 d=false) (Y:uS (cellsD d)=true) (hs:(cellsD d).length=n.size) (hle:off+n.size<=cs.length):
 Yields P K M β g {e:=none,hs:=[(q,setAt cs off<|(cellsD d).map λd=>{d})],rs:=g.rs} o m w:=by
 let⟨r⟩:=et b2 aa;let⟨b,F,hv⟩:=qF<|ez (ds:=[]) h O ha;let⟨R,L,T,S,s,hlen,_,_,hF,Z⟩:=h.bB.box q cs J;rw[F]at S;cases S;let⟨Q,I,U⟩:=(ez (ds:=[]) h O hx).cells az;generalize hu:(⟨m,[]⟩:Act).eval x=u at Q I U
 have W:u.cells.size=n.size:=by simp at Q;omega
 have X:u.cells.toList.length=n.size:=by simpa using W
 have k:=FV (P:=P) r (off:=off) s W I (by omega)
 rw[<-X]at k;refine .inr<|.inl ⟨rfl,_,SQ an hu hv k,M,β,Mem.le_refl _,λ_ _ h=>h,λ_ _ h=>.inl h,?_,λe B=>by cases B⟩
 have z:=pP cs off ((cellsD d).map λd=>({d}:aS)) (by simp;omega)
 refine h.bB.K8 J F s (vs':=L.take off++u.cells.toList++L.drop (off+u.cells.toList.length)) (by rw[yy<|by omega,z.1,hlen]) (SP hF I) (λ_=>by
  rw[yy<|by omega]
  refine Z.set (λe B=>?_) (by simp;omega)
  obtain⟨c,E,rfl⟩:=jk.1 B;exact FM Y c E) z.1
  (setRow_heap w b _ _ T (0,0) s) (λR A=>setRow_other w b R _ A) cs.length (λi v e l j=>?_)
 rw[yx<|by omega]at l
 rw[z.2]at j;simp only[jz]at j;by_cases hi:off<=i/\i<off+n.size
 ·rw[eI<|by omega]at l
  rw[eI<|by omega,gV,dC]at j
  obtain⟨c,E,rfl⟩:=j;exact⟨U _ v c l E,by simp⟩
 ·rw[de<|by omega]at l
  rw[de<|by omega]at j
  have FW:i<cs.length:=(eR.1 j).1;refine⟨?_,λT av=>.inl ⟨by omega,⟨e,j,av⟩,l⟩⟩
  have:=h.bB.dp (.cell q i) e (by simp[aA.at,J,j])
  simpa[ch,F,cell_of_heap s,l]using this
def acW(ty:Nat->Option TypeId):∀(l:List aS) (n:Nat),(rK ty n l).length=l.length/\∀(i:Nat) b,(rK ty n l)[i]? = some b->∃e,l[i]? = some e/\((e.d=b.d/\∀T,b.own=some T->e.own=some T)\/∃k g,e.d = .v (.qz k g)/\b.d = .v (.bP k 0 g))
 |[],n=>by simp[rK]
 |e::l,n=>by
  let⟨j,c⟩:=acW ty l<|n+1;refine⟨by simp[rK,j],λi b a=>?_⟩
  cases i with
  |zero=>
   simp only[rK,sy,hL]at a;refine⟨e,rfl,?_⟩
   split at a
   ·rename_i k g hd;subst a;exact .inr ⟨k,g,hd,rfl⟩
   ·subst a;exact .inl ⟨rfl,λ_ h=>h⟩
  |succ i=>simp only[rK,kW]at a ⊢;exact c i b a
def acX(h:fP P K N M β g m w)(S:f_ m p)(b2:eP P tt=true){t:TypeId}{F:ep}(aa:look tt t=some F){a x:Operand}(an:o.op = .store t a x){q off:Nat}(W:rd g.env g.cf p tt o.type a=some (.ptr q off))
 {cs:List aS} (am:look g.H q=some cs) {d:D} (R:rd g.env g.cf p tt t x=some d) (az:s8 d=false) (L:uS (cellsD d)=true) (hs:(cellsD d).length=F.size) (z:off+F.size<=cs.length) (ty:Nat->Option TypeId):
 Yields P K M β g {e:=none,hs:=[(q,rK ty 0<|setAt cs off<|(cellsD d).map λd=>{d})],rs:=g.rs} o m w:=by
 have up:∀{M':Mem} {β':Nat->Option Nat} {v:Value} {w':World},BN P K M β g {e:=none,hs:=[(q,setAt cs off<|(cellsD d).map λd=>{d})],rs:=g.rs} m v w'->
  BN P K M β g {e:=none,hs:=[(q,rK ty 0<|setAt cs off<|(cellsD d).map λd=>{d})],rs:=g.rs} m v w':=by
  rintro M' β' v w' ⟨Q,O,k,j,E,B,_⟩
  refine⟨Q,O,k,j,λr b U=>?_,?_,λe T=>by cases T⟩
  ·rcases E r b U with aO|aO
   ·exact .inl aO
   ·right
    simp only[du]at aO ⊢;split at aO
    ·rename_i c;simp[c]
    ·cases aO
  ·let⟨Z,Y⟩:=acW ty (setAt cs off<|(cellsD d).map λd=>({d}:aS)) 0
   refine B.amy rfl (λl I n=>?_)<|λr A u=>?_
   ·cases l with
    |slot s=>exact⟨I,n,.inl ⟨rfl,λ_ h=>h⟩⟩
    |cell r i=>
     simp only[aA.at,after,gk,iK,du]at n ⊢;by_cases c:q=r
     ·simp only[c,nY,sO]at n ⊢;exact Y i I n
     ·simp only[c,nE]at n ⊢;exact⟨I,n,.inl ⟨rfl,λ_ h=>h⟩⟩
   ·simp only[after,gk,iK,du]at u ⊢;by_cases c:q=r
    ·simp only[c,nY,hL]at u ⊢;subst u;exact⟨_,rfl,Z.symm⟩
    ·simp only[c,nE]at u ⊢;exact⟨A,u,rfl⟩
 rcases am6 h S b2 aa an W am R az L hs z with⟨v,w',k,j⟩|⟨X,w',k,j⟩|⟨fn,J,k,j⟩
 ·exact .inl ⟨v,w',k,up (M':=M) (β':=β) j⟩
 ·exact .inr<|.inl ⟨X,w',k,up (M':=M) (β':=β) j⟩
 ·exact .inr (.inr ⟨fn,J,k,j.mono λe w' ⟨v,E,B⟩=>⟨v,E,up (M':=M) (β':=β) B⟩⟩)
def acY(h:fP P K N M β g m w)(U:f_ m p)(b2:eP P tt=true){t:TypeId}{R:ep}(aa:look tt t=some R){a x:Operand}(an:o.op = .store t a x){q off:Nat}(ha:rd g.env g.cf p tt o.type a=some (.ptr q off))
 {cs:List aS} (Q:look g.H q=some cs) {k n:Nat} {get:Nat->V} (hx:rd g.env g.cf p tt t x=some (.v<|.bP k n get)) (hs:R.size=1) (hle:off+R.size<=cs.length) {s:TypeId} {l:List Nat}
 (W:oA P K M β {env:=hX l g.env,H:=g.H,aD:=g.aD} m w (.cell q off) ((⟨m,[]⟩:Act).eval x) s):
 Yields P K M β g {e:=none,ik:=l,hs:=[(q,setAt cs off [{d:=.v<|.bP k n get,own:=some s}])],rs:=g.rs} o m w:=by
 let⟨r⟩:=et b2 aa;let⟨b,L,hv⟩:=qF<|ez (ds:=[]) h U ha;have Z:=h.bB.ik l;let⟨X,S,T,Y,B,hlen,_,_,hF,mr⟩:=h.bB.box q cs Q;rw[L]at Y;cases Y;have E:=ez (ds:=[]) h U hx;generalize hu:(⟨m,[]⟩:Act).eval x=u at E W
 have A:u.cells = #[u]/\u.oneCell'=true:=by
  obtain⟨a,cap,rfl,_⟩:=yv E;exact⟨rfl,rfl⟩
 have c:=FV (P:=P) r (off:=off) B (v:=u) (by rw[A.1,hs];rfl) (by rw[A.1];simpa using A.2) (by omega)
 rw[A.1,hs]at c;have b1:off<cs.length:=by omega
 refine .inr<|.inl ⟨rfl,_,SQ an hu hv c,M,β,Mem.le_refl _,λ_ _ h=>h,λ_ _ h=>.inl h,?_,λe J=>by cases J⟩
 refine Z.K8 (st:={env:=hX l g.env,H:=g.H,aD:=g.aD}) Q L B (vs':=S.take off++[u]++S.drop (off+1)) (by rw[show off+1=off+[u].length by rfl,yy (by simp;omega),(pP cs off _ (by simp;omega)).1,hlen])
  (SP (us:=[u]) hF<|by simpa using A.2) (λ_=>by
   rw[show off+1=off+[u].length by rfl,yy (by simp;omega)]
   refine mr.set (λe J=>?_) (by simp;omega)
   obtain rfl:=lZ.1 J;exact λ_ _ _ e=>by cases e) (pP cs off _ (by simp;omega)).1 (setRow_heap w b _ _ T (0,0) B) (λX F=>setRow_other w b X _ F) off (λi v e z j=>?_)
 rw[show off+1=off+[u].length by rfl,yx (by simp;omega)]at z
 rw[acV b1]at j;by_cases I:i=off
 ·subst I;simp at z j
  subst z;subst j;refine⟨E,λT O=>.inr ⟨rfl,?_⟩⟩
  cases O;exact W
 ·rw[de I]at j;rw[de (by simp;omega)]at z
  refine⟨?_,λT O=>.inl ⟨I,⟨e,j,O⟩,z⟩⟩
  have:=h.bB.dp (.cell q i) e (by simp[aA.at,Q,j])
  simpa[ch,L,cell_of_heap B,z]using this
end
section
variable {P:Program} {K:Ctx} {M:Mem} {β:Nat->Option Nat} {st:aA} {f:Array Value} {w:World}
def bh.acZ(h:bh P K M β st f w){r off size T b:Nat}{cs U0:List aS}{vs:List Value}{dI:TypeId}(S:look st.H r=some cs)(hb:β r=some b)(bf:w.heap[b]? = some (.cells ⟨vs⟩ dI (0,0)))
 (hF:∀v,v∈vs->v.oneCell'=true) (hlen:vs.length=cs.length)
 (hm:∀x,x∈marks T->x.1<size/\∃e,cs[off+x.1]? = some e/\e.own=some x.2)
 (er:U0.length=cs.length) (kn:∀(j:Nat) k,U0[j]? = some k->∃m,cs[j]? = some m/\m.d=k.d/\(∀U,k.own=some U->m.own=some U/\∀x,x∈marks T->j≠off+x.1)) (l0:Loc):
 bh P K M β {st with H:=(r,U0)::st.H} f w/\oA P K M β {st with H:=(r,U0)::st.H} f w l0 (.agg ⟨(vs.drop off).take size⟩) T:=by
 have fA:∀l k,({st with H:=(r,U0)::st.H}:aA).at l=some k->∃m,st.at l=some m/\m.d=k.d/\∀U,k.own=some U->m.own=some U/\∀x,x∈marks T->l ≠ .cell r (off+x.1):=by
  intro l k t;cases l with
  |slot s=>exact⟨k,t,rfl,λU h=>⟨h,λ_ _=>by simp⟩⟩
  |cell q j=>
   by_cases A:r=q
   ·subst A;simp[aA.at,du]at t;let⟨m,g,p,z⟩:=kn j k t;exact⟨m,by simp[aA.at,S,g],p,λU Z=>⟨(z U Z).1,λx n=>by simp[(z U Z).2 x n]⟩⟩
   ·refine⟨k,by simpa[aA.at,du,A]using t,rfl,λU h=>⟨h,λ_ _=>by simp[Ne.symm A]⟩⟩
 have dT:∀q c,look ((r,U0)::st.H) q=some c->∃L,look st.H q=some L/\L.length=c.length:=by
  intro q c u;by_cases A:r=q
  ·subst A;simp[du]at u;subst u;exact⟨cs,S,er.symm⟩
  ·exact⟨c,by simpa[du,A]using u,rfl⟩
 -- Lh SR at a mark
 have mk:∀x,x∈marks T->∃e,st.at (.cell r<|off+x.1)=some e/\e.own=some x.2/\ch f w β (.cell r<|off+x.1)=(Array.mk<|(vs.drop off).take size).getD x.1 undef/\nm P K.F M w x.2 ((Array.mk<|(vs.drop off).take size).getD x.1 undef)/\
  ∀o,km x.2 (ch f w β<|.cell r<|off+x.1) o↔lj ((Array.mk<|(vs.drop off).take size).getD x.1 undef)=some o:=by
  intro x n;let⟨b1,e,Y,N⟩:=hm x n;have aa:st.at (.cell r<|off+x.1)=some e:=by simp[aA.at,S,Y]
  have X:off+x.1<vs.length:=by rw[hlen];exact(eR.1 Y).1
  have Q:ch f w β (.cell r<|off+x.1)=vs[off+x.1]:=by simp only[ch,hb,cell_of_heap bf,ed X,nB]
  have R:(Array.mk<|(vs.drop off).take size).getD x.1 undef=vs[off+x.1]:=by
   have:((vs.drop off).take size)[x.1]? = some vs[off+x.1]:=by rw[ix,eI b1,jl,ed X]
   simp[fi,this]
  have O:=h.own _ e x.2 aa N;have g:=hF vs[off+x.1]<|pj X;refine⟨e,aa,N,Q.trans R.symm,?_,?_⟩
  ·rw[R];rw[Q]at O;rcases O.cases with⟨c,u⟩|⟨p,_⟩
   ·rw[u]at g;cases g
   ·exact p
  ·rw[R];rw[Q]at O ⊢;rcases O.cases with⟨c,u⟩|⟨_,p⟩
   ·rw[u]at g;cases g
   ·exact p
 refine⟨h.sub rfl (λl k t=>?_) dT,⟨λx n=>?_,λx n y b9 oC o g p=>?_⟩,λl k W o t ey _ i bV=>?_,λo q c i fr=>?_⟩
 ·let⟨m,g,p,z⟩:=fA l k t;exact⟨m,g,p,λT N=>(z T N).1⟩
 ·let⟨_,_,_,_,g,_⟩:=mk x n;exact g
 ·let⟨B,J,I,_,_,E⟩:=mk x n;let⟨e2,c1,c2,_,_,c3⟩:=mk y b9;have:=h.uniq _ _ B e2 x.2 y.2 o J I c1 c2 ((E o).2 g)<|(c3 o).2 p
  simp only[Loc.cell.injEq]at this;omega
 ·let⟨x,n,i⟩:=i;let⟨B,J,I,_,_,E⟩:=mk x n;let⟨m,g,_,z⟩:=fA l k t;exact(z W ey).2 x n<|h.uniq l _ m B W x.2 o g (z W ey).1 J I bV<|(E o).2 i
 ·let⟨x,n,i⟩:=i;let⟨B,J,I,_,_,E⟩:=mk x n;let⟨L,g,_⟩:=dT q c fr;exact h.unbox _ B x.2 o q L J I ((E o).2 i) g
def bh.am7(h:bh P K M β st f w){s r off T:Nat}{e:aS}{cs U0:List aS}{us:List Value}(hs:look st.env s=some e)(av:e.own=some T)(hu:f.getD s undef = .agg ⟨us⟩)
 (af:look st.H r=some cs) (I:∀x,x∈marks T->ch f w β (.cell r<|off+x.1)=(Array.mk us).getD x.1 undef) (er:U0.length=cs.length)
 (hF:∀x,x∈marks T->∀c,(Array.mk us).getD x.1 undef ≠ .agg c)
 (kn:∀(j:Nat) k,U0[j]? = some k->∃p,cs[j]? = some p/\p.d=k.d/\∀U,k.own=some U->p.own=some U\/∃x,x∈marks T/\j=off+x.1/\U=x.2):
 bh P K M β {st with env:=hX [s] st.env,H:=(r,U0)::st.H} f w:=by
 have F:st.at (.slot s)=some e:=hs;have an:=h.own (.slot s) e T F av;have cz:ch f w β (.slot s) = .agg ⟨us⟩:=hu;rw[cz]at an
 have E:∀l k,({st with env:=hX [s] st.env,H:=(r,U0)::st.H}:aA).at l=some k->∃p,st.at l=some p/\p.d=k.d/\∀U,k.own=some U->(p.own=some U/\l ≠ .slot s)\/∃x,x∈marks T/\l = .cell r (off+x.1)/\U=x.2:=by
  intro l k q;cases l with
  |slot rS=>
   simp only[aA.at,o6]at q ⊢;by_cases nS:rS=s
   ·subst nS;simp at q
    obtain⟨L,m,rfl⟩:=q;exact⟨L,m,rfl,λU n=>by simp at n⟩
   ·simp[nS]at q;exact⟨k,q,rfl,λU n=>.inl ⟨n,by simp[nS]⟩⟩
  |cell o j=>
   by_cases J:r=o
   ·subst J;simp[aA.at,du]at q;let⟨p,m,t,N⟩:=kn j k q;refine⟨p,by simp[aA.at,af,m],t,λU n=>?_⟩
    rcases N U n with A|⟨x,g,A,aO⟩
    ·exact .inl ⟨A,by simp⟩
    ·exact .inr ⟨x,g,by rw[A],aO⟩
   ·exact⟨k,by simpa[aA.at,du,J]using q,rfl,λU n=>.inl ⟨n,by simp⟩⟩
 have dT:∀o c,look ((r,U0)::st.H) o=some c->∃u,look st.H o=some u/\u.length=c.length:=by
  intro o c hc;by_cases J:r=o
  ·subst J;simp[du]at hc;subst hc;exact⟨cs,af,er.symm⟩
  ·exact⟨c,by simpa[du,J]using hc,rfl⟩
 have Li:∀x,x∈marks T->∀b,km x.2 ((Array.mk us).getD x.1 undef) b↔lj ((Array.mk us).getD x.1 undef)=some b:=by
  intro x g b;have:=hF x g
  generalize (Array.mk us).getD x.1 undef=v at this
  cases v<;>first
   |exact Iff.rfl
   |exact absurd rfl (this _)
 have ST:∀x,x∈marks T->∀b,lj ((Array.mk us).getD x.1 undef)=some b->km T (ch f w β<|.slot s) b:=λx g b a=>by rw[cz];exact⟨x,g,a⟩
 -- jX state am8 any marks, first
 have base:bh P K M β {st with env:=hX [s] st.env,H:=(r,U0)::st.H} f w↔True:=by
  refine⟨λ_=>trivial,λ_=>?_⟩
  constructor
  ·intro l k q;let⟨p,m,t,_⟩:=E l k q;rw[<-t];exact h.dp l p m
  ·intro l k U q n;let⟨p,m,_,N⟩:=E l k q;rcases N U n with⟨A,_⟩|⟨x,g,rfl,rfl⟩
   ·exact h.own l p U m A
   ·rw[I x g];exact(an.1 x g).at
  ·intro l cl L e2 U Lj b fC n hl2 R a i;let⟨Z,B,_,df⟩:=E l L fC;let⟨f2,X,_,ak⟩:=E cl e2 hl2;rcases df U n with⟨S,Q⟩|⟨x,g,rfl,rfl⟩
   ·rcases ak Lj R with⟨m2,O⟩|⟨y,z,rfl,rfl⟩
    ·exact h.uniq l cl Z f2 U Lj b B S X m2 a i
    ·rw[I y z,Li y z]at i;exact absurd (h.uniq l (.slot s) Z e U T b B S F av a<|ST y z b i) Q
   ·rw[I x g,Li x g]at a;rcases ak Lj R with⟨m2,O⟩|⟨y,z,rfl,rfl⟩
    ·exact absurd (h.uniq cl (.slot s) f2 e Lj T b X m2 F av i<|ST x g b a) O
    ·rw[I y z,Li y z]at i;by_cases oC:x.1=y.1
     ·rw[oC]
     ·exact absurd i<|an.2 x g y z oC b a
  ·intro l L U b o c fC n a Y;let⟨Z,B,_,df⟩:=E l L fC;let⟨u,m,_⟩:=dT o c Y;rcases df U n with⟨S,Q⟩|⟨x,g,rfl,rfl⟩
   ·exact h.unbox l Z U b o u B S a m
   ·rw[I x g,Li x g]at a;exact h.unbox (.slot s) e T b o u F av (ST x g b a) m
  ·intro o c Y;let⟨u,W,hlen⟩:=dT o c Y;let⟨b,vs,fB,m,t,N,A,aO,bG,cG⟩:=h.box o u W
   exact⟨b,vs,fB,m,t,N.trans hlen,A,aO,bG,cG.So W Y λl k F=>by
    let⟨e,B,X,_⟩:=E l k F;exact⟨e,B,.inl X⟩⟩
  ·intro r1 r2 b c1 c2 W iV a i;let⟨d1,m,_⟩:=dT r1 c1 W;let⟨d2,t,_⟩:=dT r2 c2 iV;exact h.inj r1 r2 b d1 d2 m t a i
  ·exact h.lt
  ·exact h.mem
  ·exact h.m0
  ·exact h.frame
  ·exact h.ia
  ·exact h.il
  ·exact h.gz
 exact base.2 trivial
end
def FY:∀(l:List aS) (i:Nat) (x:Nat×TypeId),x∈marksOf i l->i<=x.1/\∃e,l[x.1-i]? = some e/\e.own=some x.2
 |[],i,x,h=>by simp[marksOf]at h
 |e::l,i,x,h=>by
  have next:x∈marksOf (i+1) l->i<=x.1/\∃a,(e::l)[x.1-i]? = some a/\a.own=some x.2:=λh=>by
   let⟨f,a,b,d⟩:=FY l (i+1) x h;refine⟨by omega,a,?_,d⟩
   rw[show x.1-i=(x.1-(i+1))+1 by omega,kW];exact b
  unfold marksOf at h;split at h
  ·rename_i T c;rcases gh.1 h with rfl|h
   ·exact⟨fS _,e,by simp,c⟩
   ·exact next h
  ·exact next h
def SU:∀{l m:List (Nat×TypeId)},wB l m=true->l=m
 |[],[],_=>rfl
 |x::l,y::m,h=>by
  simp only[wB,cb,kb]at h;rw[SU h.2];let⟨a,b⟩:=x;let⟨c,d⟩:=y;simp only at h
  rw[h.1.1,h.1.2]
 |[],_::_,h=>by simp[wB]at h
 |_::_,[],h=>by simp[wB]at h
def ac3:∀{a:List (Nat×TypeId)} {i:Nat} {U:TypeId},Bz a i=some U->∃x,x∈a/\x.1=i/\U=x.2
 |[],i,U,h=>by simp[Bz]at h
 |x::l,i,U,h=>by
  unfold Bz at h;rw[fe]at h;split at h
  ·rename_i b;cases h;exact⟨x,by simp,by simpa using b,rfl⟩
  ·let⟨y,e,d,c⟩:=ac3 h;exact⟨y,by simp[e],d,c⟩
def ac4(a:List<|Nat×TypeId):∀(ds:List D) (i:Nat),(rL a i ds).length=ds.length/\∀(j:Nat),(rL a i ds)[j]? = (ds[j]?).map λd=>{d,own:=Bz a (i+j)}
 |[],i=>by simp[rL]
 |d::ds,i=>by
  let⟨c,b⟩:=ac4 a ds<|i+1;refine⟨by simp[rL,c],λj=>?_⟩
  cases j with
  |zero=>simp[rL]
  |succ j=>simp only[rL,kW];rw[b j,show i+1+j=i+(j+1)by omega]
def am9{M:Mem}{β:Nat->Option Nat}{v:Value}{d:D}(h:cg M β v d)(hd:Sk d=true):∃a,v = .agg ⟨a⟩:=by
 cases h<;>first
  |(cases hd;done)
  |(rename_i b;cases b<;>first |(cases hd;done) |exact⟨_,rfl⟩)
  |exact⟨_,rfl⟩
section
variable {P:Program} {K:Ctx} {N:Nat} {M:Mem} {β:Nat->Option Nat} {g:dt} {f:Array Value} {w:World} {o:Oper} {p:Path} {tt:dI}
def am'(h:fP P K N M β g f w)(hp:f_ f p)(b2:eP P tt=true){t:TypeId}{l:ep}(aa:look tt t=some l){a:Operand}(an:o.op = .load t a){q off:Nat}(ha:rd g.env g.cf p tt o.type a=some (.ptr q off))
 {cs:List aS} (Q:look g.H q=some cs) (hG:l.k.isAgg=true) (E:off+l.size<=cs.length) {c:Nat} (hm:wB (marks c) (marksOf 0<|(cs.drop off).take l.size)=true) {rs:List eT}:
 Yields P K M β g {e:=some {d:=ox<|((cs.drop off).take l.size).map (·.d),own:=some c},hs:=[(q,setAt cs off<|((cs.drop off).take l.size).map λe=>{d:=e.d})],rs} o f w:=by
 let⟨r⟩:=et b2 aa;let⟨b,I,m⟩:=qF<|ez (ds:=[]) h hp ha;let⟨bc,vs,T,bV,L,hlen,_,_,Z,mr⟩:=h.bB.box q cs Q;rw[I]at bV;cases bV;have y:=K_ (P:=P) (w:=w) r (off:=off) L (by omega) hG
 have S:=SU hm;have z:((cs.drop off).take l.size).length=l.size:=by simp;omega
 have W:=pP cs off (((cs.drop off).take l.size).map λe=>({d:=e.d}:aS)) (by rw[jz,z];exact E)
 have R:∀j,j<l.size->((cs.drop off).take l.size)[j]? = cs[off+j]? := λj n=>by rw[ix,eI n,jl]
 have X:=λB=>h.bB.acZ (T:=c) (size:=l.size) (off:=off) Q I L Z hlen (U0:=setAt cs off<|((cs.drop off).take l.size).map λe=>{d:=e.d}) (λx u=>by
  rw[S]at u;let⟨_,e,s,ah⟩:=FY _ 0 x u;rw[pN]at s;have O:x.1<l.size:=by rw[<-z];exact(eR.1 s).1
  exact⟨O,e,by rw[<-R x.1 O];exact s,ah⟩) W.1 (λj a7 n=>by
  rw[W.2]at n;rw[jz,z]at n;by_cases A:off<=j/\j<off+l.size
  ·rw[eI A,gV,dC]at n;obtain⟨bN,h1,rfl⟩:=n;rw[R _<|by omega,show off+(j-off)=j by omega]at h1
   exact⟨bN,h1,rfl,λU J=>by cases J⟩
  ·rw[de A]at n;refine⟨a7,n,rfl,λU J=>⟨J,λx u am_=>?_⟩⟩
   rw[S]at u;let⟨_,e,s,_⟩:=FY _ 0 x u;rw[pN]at s;have O:x.1<l.size:=by rw[<-z];exact(eR.1 s).1
   omega) B
 refine .inl ⟨.agg ⟨(vs.drop off).take l.size⟩,w,?_,M,β,Mem.le_refl _,λ_ _ h=>h,λ_ _ h=>.inl h,(X<|.slot 0).1,λe1 pQ=>?_⟩
 ·simp only[execOp,an];rw[m];exact ko _ y
 ·cases pQ;refine⟨?_,λT B av=>?_⟩
  ·refine BK (by simp;omega) (λv m=>Z v<|lE<|mI m)<|λi v c m Y=>?_
   rw[gV,dC]at Y;obtain⟨e,F,rfl⟩:=Y;rw[ix]at m F;split at m
   ·rename_i A;rw[eI A,jl]at F;rw[jl]at m;have:=h.bB.dp (.cell q<|off+i) e (by simp[aA.at,Q,F])
    simpa[ch,I,cell_of_heap L,m]using this
   ·cases m
  ·cases av;exact(X B).2
def ana(h:fP P K N M β g f w)(hp:f_ f p)(b2:eP P tt=true){t:TypeId}{B:ep}(aa:look tt t=some B){a:Operand}{u:Nat}(an:o.op = .store t a (.tmp u)){q off:Nat}(ha:rd g.env g.cf p tt o.type a=some (.ptr q off))
 {cs:List aS} (am:look g.H q=some cs) {d:D} (z:rd g.env g.cf p tt t (.tmp u)=some d) (az:s8 d=false) (qH:uS (cellsD d)=true) (hs:(cellsD d).length=B.size) (hle:off+B.size<=cs.length)
 (hG:Sk d=true) {BQ:aS} {s:TypeId} (yz:look g.env u=some BQ) (av:BQ.own=some s) (nV:∀x,x∈marks s->x.1<B.size) {rs:List eT}:
 Yields P K M β g {e:=none,ik:=[u],hs:=[(q,setAt cs off<|rL (marks s) 0<|cellsD d)],rs} o f w:=by
 let⟨r⟩:=et b2 aa;let⟨b,Q,hv⟩:=qF<|ez (ds:=[]) h hp ha;let⟨bc,k,T,bV,W,hlen,_,_,hF,mr⟩:=h.bB.box q cs am;rw[Q]at bV;cases bV;have f':=ez (ds:=[]) h hp z;let⟨us,SV⟩:=am9 f' hG;let⟨h1,L,ah⟩:=f'.cells az;rw[SV]at h1 L ah;have X:(Value.agg ⟨us⟩).cells.toList=us:=rfl;rw[X]at L
 have tg:us.length=B.size:=by
  have:(Value.agg ⟨us⟩).cells.toList.length=(cellsD d).length:=by simpa using h1
  rw[X]at this;omega
 have n:=FV (P:=P) r (off:=off) W (v:=.agg ⟨us⟩) tg L (by omega)
 rw[X,<-tg]at n;have F:=pP cs off ((cellsD d).map λd=>({d}:aS)) (by simp;omega)
 have SW:=ac4 (marks s) (cellsD d) 0;have O:=pP cs off (rL (marks s) 0<|cellsD d) (by rw[SW.1];omega)
 have tf:=setRow_heap w b _ (k.take off++us++k.drop (off+us.length)).toArray T (0,0) W
 have anb:bh P K M β {env:=g.env,H:=(q,setAt cs off<|(cellsD d).map λd=>{d})::g.H,aD:=g.aD} f (w.setRow b (k.take off++us++k.drop (off+us.length)).toArray):=by
  refine h.bB.K8 am Q W (vs':=k.take off++us++k.drop (off+us.length)) (by rw[yy<|by omega,F.1,hlen]) (SP hF L) (λ_=>by
   rw[yy<|by omega]
   refine mr.set (λe Z=>?_) (by simp;omega)
   obtain⟨c,y,rfl⟩:=jk.1 Z;exact FM qH c y) F.1 tf (λbc Y=>setRow_other w b bc _ Y) cs.length<|λi v e A m=>?_
  rw[yx<|by omega]at A
  rw[F.2]at m;simp only[jz]at m;by_cases J:off<=i/\i<off+B.size
  ·rw[eI<|by omega]at A
   rw[eI<|by omega,gV,dC]at m
   obtain⟨c,y,rfl⟩:=m;exact⟨ah _ v c (by rw[X];exact A) y,by simp⟩
  ·rw[de<|by omega]at A
   rw[de<|by omega]at m
   have FW:i<cs.length:=(eR.1 m).1;refine⟨?_,λT av=>.inl ⟨by omega,⟨e,m,av⟩,A⟩⟩
   have:=h.bB.dp (.cell q i) e (by simp[aA.at,am,m])
   simpa[ch,Q,cell_of_heap W,A]using this
 have anc:=anb.am7 (s:=u) (r:=q) (off:=off) (T:=s) (us:=us) (cs:=setAt cs off<|(cellsD d).map λd=>{d}) (U0:=setAt cs off<|rL (marks s) 0<|cellsD d) yz av SV (by simp[du]) (λx z=>by
  have b1:=nV x z
  have:(k.take off++us++k.drop (off+us.length))[off+x.1]? = us[x.1]? := by
   rw[yx<|by omega,eI<|by omega];congr 1;omega
  simp only[ch,Q,cell_of_heap tf,this];simp[fi]) (by rw[O.1,F.1]) (λx z c y=>by
  have b1:=nV x z;have ay:(Array.mk us).getD x.1 undef=us[x.1]'(by omega):=by simp[fi,ed (show x.1<us.length by omega)]
  have aO:=L (us[x.1]'(by omega))<|pj _
  rw[ay]at y;rw[y]at aO;cases aO) (λj a7 I=>by
  rw[O.2,SW.1]at I;rw[F.2,jz];by_cases J:off<=j/\j<off+(cellsD d).length
  ·rw[eI J,SW.2,dC]at I;obtain⟨c,y,rfl⟩:=I;refine⟨{d:=c},by rw[eI J,gV,y];rfl,rfl,λU R=>.inr ?_⟩
   simp only[mE]at R;let⟨x,z,aO,bG⟩:=ac3 R;exact⟨x,z,by omega,bG⟩
  ·rw[de J]at I;exact⟨a7,by rw[de J];exact I,rfl,λU R=>.inl R⟩)
 refine .inr<|.inl ⟨rfl,_,SQ an SV hv n,M,β,Mem.le_refl _,λ_ _ h=>h,λ_ _ h=>.inl h,?_,λe Z=>by cases Z⟩
 refine anc.sub rfl (λl a7 S=>⟨a7,?_,rfl,λ_ h=>h⟩)<|λr U0 af=>⟨U0,?_,rfl⟩
 ·cases l with
  |slot rS=>exact S
  |cell cI j=>
   simp only[aA.at,after,gk,iK,du]at S ⊢;by_cases E:q=cI
   ·simpa[E]using S
   ·simpa[E]using S
 ·simp only[after,gk,iK,du]at af ⊢;by_cases E:q=r
  ·simpa[E]using af
  ·simpa[E]using af
end
section
variable {P:Program} {K:Ctx} {N:Nat} {M:Mem} {β:Nat->Option Nat} {g:dt} {A:Array Value} {w:World} {o:Oper} {f:mO} {p:Path} {tt:dI} {B:hC} {ops:List Oper}
structure mV(M:Mem)(k m:Nat)(get:Nat->V)(news:List Value):Prop where
 len:news.length=m*k
 hk:∀i,i<m->(get i).cells.length=k
 one:∀u,u∈news->u.oneCell'=true
 rep:∀(i j:Nat) c u,i<m->(get i).cells[j]? = some c->news[i*k+j]? = some u->cY M u c
def flat(k m:Nat)(val:Nat->Nat->Value):List Value:=(List.range<|m*k).map λq=>val (q / k) (q % k)
def ti(k m:Nat)(val:Nat->Nat->Value):(flat k m val).length=m*k:=by simp[flat]
def ane{k m:Nat}{val:Nat->Nat->Value}{i j:Nat}(hi:i<m)(b:j<k):(flat k m val)[i*k+j]? = some (val i j):=by
 have d:i*k+j<m*k:=by
  have a:(i+1)*k<=m*k:=qi k hi;rw[qQ]at a;omega
 have a:(i*k+j) / k=i:=by rw[Nat.mul_comm,Nat.mul_add_div<|by omega,Nat.div_eq_of_lt b];omega
 have c:(i*k+j) % k=j:=by rw[Nat.mul_comm,Nat.mul_add_mod,tv b]
 simp[flat,d,a,c]
def ac6{k m:Nat}{val:Nat->Nat->Value}{q:Nat}{u:Value}(h:(flat k m val)[q]? = some u):q / k<m/\q % k<k/\q=q / k*k+q % k/\u=val (q / k) (q % k):=by
 have a:q<m*k:=by have:=(eR.1 h).1;rwa [ti]at this
 have b:0<k:=by
  rcases Nat.eq_zero_or_pos k with rfl|h;· simp at a
  ·exact h
 refine⟨(Nat.div_lt_iff_lt_mul b).2 a,Nat.mod_lt _ b,(Nat.div_add_mod' q k).symm,?_⟩
 simp[flat,a]at h;exact h.symm
def SX{v:Value}{k n:Nat}{get:Nat->V}(h:cg M β v<|.v<|.bP k n get):((v = .slice none 0 0\/∃a,v = .slice (some a) 0 0)/\n=0)\/
 ∃(b off cap:Nat) (t:List Value),v = .slice (some ⟨b,off,none⟩) n cap/\n<=cap/\mV M k n get t/\∀(q:Nat) u,t[q]? = some u->M b (off+q)=some u:=by
 rcases u1 h with h|⟨b,off,cap,val,rfl,e,s,z,y,F⟩
 ·exact .inl h
 ·refine .inr ⟨b,off,cap,flat k n val,rfl,e,⟨ti k n val,s,?_,?_⟩,?_⟩
  ·refine acP λq u d=>?_
   obtain⟨m,r,_,rfl⟩:=ac6 d;exact y _ _ m r
  ·intro i j c u l e d;have x:j<k:=by rw[<-s i l];exact(eR.1 e).1
   rw[ane l x]at d;cases d;exact F i j c l e
  ·intro q u d;obtain⟨m,r,E,rfl⟩:=ac6 d;have:=z _ _ m r
   rwa [pR,<-E]at this
def BR(k:Nat)(get:Nat->V):mV M k 0 get []:=⟨by simp,by simp,by simp,by simp⟩
def mV.app{k n m:Nat}{get e:Nat->V}{q news:List Value}(h:mV M k n get q)(l:mV M k m e news):mV M k (n+m) (λi=>bif Nat.blt i n then get i else e (i-n)) (q++news):=by
 have r:∀i,(bif Nat.blt i n then get i else e (i-n))=if i<n then get i else e (i-n):=by
  intro i;by_cases b:i<n
  ·have:Nat.blt i n=true:=by simpa using b
   simp[this,b]
  ·have:Nat.blt i n=false:=by rw[sw];simpa using b
   simp[this,b]
 refine⟨by simp[h.len,l.len,qQ],λi b=>?_,λu hu=>?_,λi j c u b d hu=>?_⟩
 ·rw[r];split
  ·exact h.hk i (by assumption)
  ·exact l.hk _ (by omega)
 ·rcases jN.1 hu with hu|hu
  ·exact h.one u hu
  ·exact l.one u hu
 ·rw[r]at d;by_cases a:i<n
  ·rw[eI a]at d;have x:j<k:=by rw[<-h.hk i a];exact(eR.1 d).1
   have t:i*k+j<q.length:=by
    rw[h.len];have s:(i+1)*k<=n*k:=qi k a;rw[qQ]at s;omega
   rw[iw t]at hu;exact h.rep i j c u a d hu
  ·rw[de a]at d;have y:n*k<=i*k:=qi k (by omega)
   rw[jE (by rw[h.len];omega),h.len]at hu
   have:i*k+j-n*k=(i-n)*k+j:=by rw[Nat.sub_mul];omega
   rw[this]at hu;exact l.rep (i-n) j c u (by omega) d hu
def mV.mono{M':Mem}(l:M.le M'){k n:Nat}{get:Nat->V}{a:List Value}(h:mV M k n get a):mV M' k n get a:=
 ⟨h.len,h.hk,h.one,λi j c u d e b=>(h.rep i j c u d e b).mono l⟩
def mV.bP{k n cap b off:Nat}{get:Nat->V}{e:List Value}(h:mV M k n get e)(m:n<=cap)(r:∀(q:Nat) u,e[q]? = some u->M b (off+q)=some u):
 cY M (.slice (some ⟨b,off,none⟩) n cap) (.bP k n get):=by
 have hin:∀i j,i<n->j<k->e[i*k+j]? = some (e.getD (i*k+j) undef):=λi j a d=>amY h.len a d
 refine .bP b off k n cap get (λi j=>e.getD (i*k+j) undef) m h.hk (λi j a d=>?_) (λi j a d=>Ld h.one<|hin i j a d)<|λi j c a l=>?_
 ·rw[pR];exact r _ _<|hin i j a d
 ·have d:j<k:=by rw[<-h.hk i a];exact(eR.1 l).1
  exact h.rep i j c _ a l (hin i j a d)
def anf(t k ty e:TypeId)(i:TypeInfo)(q:P.underlying t=some (.slice e))(hi:P.info? e=some i)(b a h:Nat)(x:Value)(n:Nat)(news:List Value)(d:Src P i.size k x n news w)
 (c:a+n<=h) {vs:List Value} {T:TypeId} (m:w.heap[b]? = some (.cells ⟨vs⟩ T (0,0))) (j:a*i.size+news.length<=vs.length):
 (Builtin.append_ #[t,k] ty #[.slice (some ⟨b,0,none⟩) a h,x]).run P w = .ok (.slice (some ⟨b,0,none⟩) (a+n) h) (w.setRow b (vs.take (a*i.size)++news++vs.drop (a*i.size+news.length)).toArray):=by
 have l:=run_storeCells_at P b (a*i.size) T news 0 ⟨vs⟩ w m (by simpa using j) d.one
 simp only[sa]at l;rcases d.kind with⟨r,hk⟩|hk<;>simp[Builtin.append_,run_underlying q,run_underlying hk,sizeOf,typeInfo,hi,d.len,c,d.cells,addr_add,l]
def ang(t b ty e:TypeId)(i:TypeInfo)(c:P.underlying t=some (.slice e))(hi:P.info? e=some i)(x:Value)(news:List Value)(a:Src P i.size b x 0 news w):
 (Builtin.append_ #[t,b] ty #[.slice none 0 0,x]).run P w = .ok (.slice none 0 0) w:=by
 rcases a.kind with⟨d,hk⟩|hk<;>simp[Builtin.append_,run_underlying c,run_underlying hk,sizeOf,typeInfo,hi,a.len,a.cells]
def Ll{t d:TypeId}{a x:Operand}{c:Call}(y:o.op = .call c)(n:c.callee = .builtin .append)(u:c.args.toList=[a,x])(l:c.argTypes.toList[0]? = some t)(k:c.argTypes.toList[1]? = some d)
 {e i:Value} (q:(⟨A,[]⟩:Act).eval a=e) (m:(⟨A,[]⟩:Act).eval x=i) {v:Value} {w':World}
 (h:∀b,(Builtin.append_ #[t,d] b #[e,i]).run P w = .ok v w'):
 (execOp (Act.eval ⟨A,[]⟩) o).run P w = .ok (.value v) w':=by
 have j:c.args = #[a,x]:=by apply va;simpa using u
 have z:∀b,(Builtin.append_ c.argTypes b #[e,i]).run P w = .ok v w':=by
  intro b;have s:c.argTypes[0]? = some t:=by simpa using l
  have r:c.argTypes[1]? = some d:=by simpa using k
  have:=h b
  simp only[Builtin.append_,s,r]at this ⊢;exact this
 simp only[execOp,y,resolve,n,j,Sem.run_bind,Sem.run_pure,Result.andThen_ok,invoke,builtin,xS,kz,rf,q,m];simp[z]
def anh(h:fP P K N M β g A w)(hp:f_ A p)(b2:eP P tt=true){t S e:TypeId}{aK l:ep}(aa:look tt t=some aK)(hk:aK.k = .bP e)(Y:look tt e=some l){s:Nat}{x:Operand}{c:Call}
 (an:o.op = .call c) (hc:c.callee = .builtin .append) (fE:c.args.toList=[.tmp s,x]) (ic:c.argTypes.toList[0]? = some t) (qJ:c.argTypes.toList[1]? = some S)
 {n m:Nat} {get nQ:Nat->V} (hs:rd g.env g.cf p tt o.type (.tmp s)=some (.full l.size n get)) (FZ:1<=l.bytes) (hm:1<=m)
 {news:List Value} (iI:Src P l.size S ((⟨A,[]⟩:Act).eval x) m news w) (mW:mV M l.size m nQ news) (J:(n+m)*l.bytes<=140737488355328)
 {y:V} (b9:ij (.bP l.size (n+m) λi=>bif Nat.blt i n then get i else nQ (i-n)) y) {rs:List eT} {aC:List Prop}:
 Yields P K M β g {e:=some {d:=.v y,own:=some e},ik:=[s],rs,aC} o A w:=by
 let⟨r⟩:=et b2 aa;let⟨d_⟩:=et b2 Y;have qI:=h.bB.ik [s];have fa:=ez (ds:=[]) h hp hs;have F0:P.underlying t=some (.slice e):=by rw[r.hd,qG r hk]
 have u5:(⟨A,[]⟩:Act).eval (.tmp s)=A.getD s undef:=rfl;rw[u5]at fa
 have tj:∃base,A.getD s undef = .slice base n n/\cY M (.slice base n n) (.bP l.size n get):=by
  generalize A.getD s undef=fZ at fa
  cases fa with
  |full base k n get h=>exact⟨base,rfl,h⟩
 let⟨base,hv,f'⟩:=tj;have b1:n<n+m:=by omega
 have U:∃E:List Value,mV M l.size n get E/\∀H:World,H.heap=w.heap->(Builtin.firstCells l.size n<|.slice base n n).run P H = .ok E.toArray H:=by
  rcases SX (cg.v _ _ f':cg M β _ _) with⟨I|⟨a,I⟩,iC⟩|⟨b,X,cap,E,I,F,holds,hold⟩
  ·simp only[Value.slice.injEq]at I;obtain⟨rfl,rfl,_⟩:=I;exact⟨[],BR _ _,λH _=>run_firstCells_none H l.size 0 0 0⟩
  ·simp only[Value.slice.injEq]at I;obtain⟨rfl,rfl,_⟩:=I;refine⟨[],BR _ _,λH L=>?_⟩
   exact run_firstCells_some (P:=P) H l.size 0 a 0 0 [] (by simp) (λj u Z=>by simp at Z)
  ·simp only[Value.slice.injEq]at I;obtain⟨rfl,_,rfl⟩:=I;refine⟨E,holds,λH L=>?_⟩
   refine run_firstCells_some (P:=P) H l.size n ⟨b,X,none⟩ n n E (by rw[holds.len])<|λj u Z=>?_
   rw[addr_add,uZ (w:=w)<|by rw[L]]
   exact h.bB.mem _ _ _<|hold j u Z
 let⟨E,holds,U⟩:=U
 have S0:((n+m:Nat):Int)<=9223372036854775807:=by
  have:n+m<=(n+m)*l.bytes:=Nat.le_mul_of_pos_right _ FZ
  omega
 have yC:=growslice_fits (need:=n+m) (old:=n) (bytes:=l.bytes) b1 J;have F:=grownCap_ge w (n+m) n e;have R:=holds.app mW
 have pT:d_.z.cells.size=l.size:=by
  let⟨mS,_⟩:=BI (M:=M) d_.FQ;have:=d_.Sw
  simp at mS;omega
 generalize yw:(Builtin.zeroCells d_.z.cells<|grownCap w (n+m) n e-(n+m)).toList=zs
 have S1:Builtin.zeroCells d_.z.cells (grownCap w (n+m) n e-(n+m))=zs.toArray:=by rw[<-yw]
 have S2:zs.length=(grownCap w (n+m) n e-(n+m))*l.size:=by
  rw[<-yw];simp[Builtin.zeroCells,pT]
 have O:∀W,(Builtin.append_ #[t,S] W #[A.getD s undef,(⟨A,[]⟩:Act).eval x]).run P w =
  .ok (.slice (some ⟨w.heap.size,0,none⟩) (n+m)<|grownCap w (n+m) n e) (w.drew.alloc<|.cells ⟨E++news++zs⟩ e (0,0)):=by
  intro W;have:=run_append_grow_src (P:=P) w t S W e d_.info d_.z F0 d_.hi d_.dQ base n n E (by rw[d_.size];exact U w.drew rfl) _ m news (by rw[d_.size];exact iI) b1 S0 (by rw[d_.bytes];exact yC)
  rw[hv,this,S1];simp
 have L:(w.drew.alloc<|.cells ⟨E++news++zs⟩ e (0,0)).heap=w.heap.push (.cells ⟨E++news++zs⟩ e (0,0)):=rfl
 have S3:(E++news++zs).length=grownCap w (n+m) n e*l.size:=by
  rw[kv,R.len,S2,<-qQ];congr 1;omega
 let⟨dc,Q⟩:=qI.newRow (vs:=E++news++zs) (T:=e) (n:=(n+m)*l.size) L
 have FU:(E++news++zs).take ((n+m)*l.size)=E++news:=by
  rw[sx (by rw[R.len];exact fS _),re (by rw[R.len];exact fS _)]
 refine .inl ⟨_,_,Ll an hc fE ic qJ u5 rfl O,_,β,Q,λ_ _ h=>h,λ_ _ h=>.inl h,dc,λe1 he=>?_⟩
 cases he;refine⟨.v _ _<|b9 _ _<|(R.mono Q).bP F λq u hu=>?_,λT l0 av=>?_⟩
 ·rw[FU];exact Lg hu
 ·cases av;have:=SM (l0:=l0) (T:=e) qI (vs:=E++news++zs) (T':=e) (n:=n+m) (cap:=grownCap w (n+m) n e) rfl L F (by rw[d_.cellsOf,S3];exact fS _)
  rw[d_.cellsOf]at this;exact this
def ac7(h:fP P K N M β g A w)(hp:f_ A p)(b2:eP P tt=true){t ib e:TypeId}{aK E:ep}(aa:look tt t=some aK)(hk:aK.k = .bP e)(W:look tt e=some E){s:Nat}{x:Operand}{c:Call}
 (an:o.op = .call c) (hc:c.callee = .builtin .append) (fE:c.args.toList=[.tmp s,x]) (ic:c.argTypes.toList[0]? = some t) (qJ:c.argTypes.toList[1]? = some ib)
 {n m:Nat} {get nQ:Nat->V} (hs:rd g.env g.cf p tt o.type (.tmp s)=some (.v<|.bP E.size n get)) {BQ:aS} (yz:look g.env s=some BQ) (gA:BQ.own=some e) (FZ:1<=E.bytes)
 {news:List Value} (iI:Src P E.size ib ((⟨A,[]⟩:Act).eval x) m news w) (mW:mV M E.size m nQ news) (hroom:(n+m)*E.bytes<=140737488355328)
 {y:V} (b9:ij (.bP E.size (n+m) λi=>bif Nat.blt i n then get i else nQ (i-n)) y) {rs:List eT} {aC:List Prop}:
 Yields P K M β g {e:=some {d:=.v y,own:=some e},ik:=[s],rs,aC} o A w:=by
 let⟨r⟩:=et b2 aa;let⟨d_⟩:=et b2 W;have qI:=h.bB.ik [s];have fa:=ez (ds:=[]) h hp hs;have F0:P.underlying t=some (.slice e):=by rw[r.hd,qG r hk]
 have u5:(⟨A,[]⟩:Act).eval (.tmp s)=A.getD s undef:=rfl;rw[u5]at fa;have F1:=h.bB.own (.slot s) BQ e yz gA;simp only[ch]at F1;have F2:=h.bB.hand yz gA
 -- jX row ac8 is grown
 have ac9:∀(base:Option Addr) (O:Nat) (F:List Value),A.getD s undef = .slice base n O->mV M E.size n get F->
  (∀Z:World,Z.heap=w.heap->(Builtin.firstCells E.size n<|.slice base n O).run P Z = .ok F.toArray Z)->O<n+m->
  Yields P K M β g {e:=some {d:=.v y,own:=some e},ik:=[s],rs,aC} o A w:=by
  intro base O F I holds yB b1
  have S0:((n+m:Nat):Int)<=9223372036854775807:=by
   have:n+m<=(n+m)*E.bytes:=Nat.le_mul_of_pos_right _ FZ
   omega
  have yC:=growslice_fits (need:=n+m) (old:=O) (bytes:=E.bytes) b1 hroom;have R:=grownCap_ge w (n+m) O e;have u6:=holds.app mW
  have pT:d_.z.cells.size=E.size:=by
   let⟨mS,_⟩:=BI (M:=M) d_.FQ;have:=d_.Sw
   simp at mS;omega
  generalize yw:(Builtin.zeroCells d_.z.cells<|grownCap w (n+m) O e-(n+m)).toList=zs
  have S1:Builtin.zeroCells d_.z.cells (grownCap w (n+m) O e-(n+m))=zs.toArray:=by rw[<-yw]
  have S2:zs.length=(grownCap w (n+m) O e-(n+m))*E.size:=by
   rw[<-yw];simp[Builtin.zeroCells,pT]
  have L:∀U,(Builtin.append_ #[t,ib] U #[A.getD s undef,(⟨A,[]⟩:Act).eval x]).run P w =
   .ok (.slice (some ⟨w.heap.size,0,none⟩) (n+m)<|grownCap w (n+m) O e) (w.drew.alloc<|.cells ⟨F++news++zs⟩ e (0,0)):=by
   intro U;have:=run_append_grow_src (P:=P) w t ib U e d_.info d_.z F0 d_.hi d_.dQ base n O F (by rw[d_.size];exact yB w.drew rfl) _ m news (by rw[d_.size];exact iI) b1 S0 (by rw[d_.bytes];exact yC)
   rw[I,this,S1];simp
  have pO:(w.drew.alloc<|.cells ⟨F++news++zs⟩ e (0,0)).heap=w.heap.push (.cells ⟨F++news++zs⟩ e (0,0)):=rfl
  have S3:(F++news++zs).length=grownCap w (n+m) O e*E.size:=by
   rw[kv,u6.len,S2,<-qQ];congr 1;omega
  let⟨dc,J⟩:=qI.newRow (vs:=F++news++zs) (T:=e) (n:=(n+m)*E.size) pO
  have FU:(F++news++zs).take ((n+m)*E.size)=F++news:=by
   rw[sx (by rw[u6.len];exact fS _),re (by rw[u6.len];exact fS _)]
  refine .inl ⟨_,_,Ll an hc fE ic qJ u5 rfl L,_,β,J,λ_ _ h=>h,λ_ _ h=>.inl h,dc,λe1 he=>?_⟩
  cases he;refine⟨.v _ _<|b9 _ _<|(u6.mono J).bP R λq u X=>?_,λT l0 av=>?_⟩
  ·rw[FU];exact Lg X
  ·cases av;have:=SM (l0:=l0) (T:=e) qI (vs:=F++news++zs) (T':=e) (n:=n+m) (cap:=grownCap w (n+m) O e) rfl pO R (by rw[d_.cellsOf,S3];exact fS _)
   rw[d_.cellsOf]at this;exact this
 replace F1:=lk.bP F1 fa
 have bU:(A.getD s undef = .slice none 0 0/\n=0)\/∃(b off cap:Nat) (F:List Value),A.getD s undef = .slice (some ⟨b,off,none⟩) n cap/\n<=cap/\mV M E.size n get F/\∀(q:Nat) u,F[q]? = some u->M b (off+q)=some u:=by
  rcases SX fa with⟨I|⟨a,I⟩,iC⟩|hx
  ·exact .inl ⟨I,iC⟩
  ·subst iC;rcases F1 with h0|⟨bc,n',cap',vs,T',h1,_⟩
   ·exact .inl ⟨h0,rfl⟩
   ·rw[I]at h1;simp only[Value.slice.injEq,hL]at h1;obtain⟨rfl,rfl,rfl⟩:=h1;exact .inr ⟨bc,0,0,[],I,fS _,BR _ _,λq u X=>by simp at X⟩
  ·exact .inr hx
 rcases bU with⟨I,iC⟩|⟨b,off,cap,F,I,R,holds,hold⟩
 ·subst iC;by_cases hm:m=0
  ·subst hm;refine .inl ⟨_,_,Ll an hc fE ic qJ (u5.trans I) rfl<|λU=>ang (w:=w) t ib U e d_.info F0 d_.hi _ news (by rw[d_.size];exact iI),M,β,Mem.le_refl _,λ_ _ h=>h,λ_ _ h=>.inl h,qI,λe1 he=>?_⟩
   cases he;exact⟨.v _ _<|b9 _ _<|.mp _ _,λT l0 _=>Sr l0 T⟩
  ·refine ac9 none 0 [] I (BR _ _) (λZ _=>run_firstCells_none Z E.size 0 0 0) (by omega)
 ·by_cases b1:cap<n+m
  ·refine ac9 (some ⟨b,off,none⟩) cap F I holds (λZ pO=>?_) b1
   refine run_firstCells_some (P:=P) Z E.size n ⟨b,off,none⟩ n cap F (by rw[holds.len])<|λj u hj=>?_
   rw[addr_add,uZ (w:=w)<|by rw[pO]]
   exact h.bB.mem _ _ _<|hold j u hj
  · -- there is room
   rcases F1 with h0|⟨bc,n',cap',vs,T',h1,Lm,bf,hvs,lT,dS,SN⟩
   ·rw[I]at h0;simp at h0
   ·rw[I]at h1;simp only[Value.slice.injEq,hL,Addr.mk.injEq,lY]at h1;obtain⟨⟨rfl,rfl⟩,rfl,rfl⟩:=h1;rw[d_.cellsOf]at hvs lT
    have hlen:n*E.size+news.length<=vs.length:=by
     rw[mW.len,<-qQ];exact xb (qi _<|by omega) hvs
    have L:∀U,(Builtin.append_ #[t,ib] U #[A.getD s undef,(⟨A,[]⟩:Act).eval x]).run P w =
     .ok (.slice (some ⟨b,0,none⟩) (n+m) cap) (w.setRow b (vs.take (n*E.size)++news++vs.drop (n*E.size+news.length)).toArray):=by
     intro U;have:=anf (P:=P) (w:=w) t ib U e d_.info F0 d_.hi b n cap _ m news (by rw[d_.size];exact iI) (by omega) bf (by rw[d_.size];exact hlen)
     rw[d_.size]at this;rw[I,this]
    generalize ac':vs.take (n*E.size)++news++vs.drop (n*E.size+news.length)=vs' at L
    have Ln:vs'.length=vs.length:=by rw[<-ac',yy hlen]
    have tf:(w.setRow b vs'.toArray).heap[b]? = some (.cells ⟨vs'⟩ T' (0,0)):=setRow_heap w b _ _ T' (0,0) bf;have J:M.le (kr M b (n*E.size) news):=SL lT;have lP:∀T,km T (A.getD s undef) b:=λT=>by rw[I];rfl
    have dc:bh P K (kr M b (n*E.size) news) β {env:=hX [s] g.env,H:=g.H,aD:=g.aD} A (w.setRow b vs'.toArray):=by
     refine qI.free b dS (λr cs af hb=>(F2<|.slot s).unbox b r cs (lP _) af hb) (λl e1 fB Y wK=>?_) (λbc Q _=>setRow_other w b bc _ Q) J (λbc o' Q=>?_)<|λo' ku qK=>?_
     ·by_cases Lo:l = .slot s
      ·subst Lo;simp only[aA.at,o6,lZ,nY,dC]at Y;obtain⟨_,_,rfl⟩:=Y;simp at wK
      ·exact(F2<|.slot s).apart l e1 fB b Y wK Lo<|lP _
     ·simp[kr,Q]
     ·rw[cell_of_heap tf,<-ac',yx hlen];unfold kr at qK;split at qK
      ·rename_i ln;rw[eI ⟨ln.2.1,ln.2.2⟩];exact qK
      ·rename_i ln;rw[de<|λF3=>ln ⟨rfl,F3.1,F3.2⟩]
       have:=h.bB.mem _ _ _ qK
       rwa [cell_of_heap bf]at this
    refine .inl ⟨_,_,Ll an hc fE ic qJ u5 rfl L,_,β,J,λ_ _ h=>h,λ_ _ h=>.inl h,dc,λe1 he=>?_⟩
    cases he;refine⟨.v _ _<|b9 _ _<|((holds.app mW).mono J).bP (by omega) λq u X=>?_,λT l0 av=>?_⟩
    ·by_cases am:q<F.length
     ·rw[iw am]at X;exact J _ _ _<|hold q u X
     ·rw[jE<|by omega]at X
      have:=Lg (M:=M) (b:=b) (lo:=n*E.size) X
      rw[holds.len]at this;rw[mE];have rW:n*E.size+(q-n*E.size)=q:=by rw[holds.len]at am;omega
      rwa [rW]at this
    ·cases av;refine⟨.inr ⟨b,n+m,cap,vs',T',rfl,by omega,tf,by rw[d_.cellsOf,Ln];exact hvs,λo' lm=>?_,dS,SN⟩,λl e1 fB bj Y wK _ S=>?_,λbj r cs S af=>?_⟩
     ·rw[d_.cellsOf,qQ]at lm;unfold kr;rw[de (λF3=>by rw[mW.len]at F3;omega)]
      exact lT o' (by omega)
     ·simp[km,lj]at S;subst S
      have Lo:l ≠ .slot s:=by
       rintro rfl
       simp only[after,aA.at,o6,lZ,nY,dC]at Y;obtain⟨_,_,rfl⟩:=Y;simp at wK
      have ani:ch A (w.setRow b vs'.toArray) β l=ch A w β l:=by
       cases l with
       |slot rS=>rfl
       |cell r i=>
        have W:=Y;simp only[after,aA.at]at W;cases af:look g.H r with
        |none=>simp[af]at W
        |some cs=>
         let⟨jq,anj,rQ,hb2,ac_,_⟩:=h.bB.box r cs af;have Q:jq≠b:=by rintro rfl;exact(F2<|.slot s).unbox jq r cs (lP _) af hb2
         simp only[ch,hb2];rw[uZ (w:=w)<|setRow_other w b jq _ Q]
      rw[ani];exact(F2<|.slot s).apart l e1 fB b Y wK Lo<|lP _
     ·simp[km,lj]at S;subst S;exact(F2<|.slot s).unbox b r cs (lP _) af
def ada(h:bh P K M β {env:=g.env,H:=g.H,aD:=g.aD} A w)(E:eP P tt=true){e s:TypeId}{t:ep}(F:look tt e=some t)(y:t.k = .bP s){v:Value}{k m:Nat}{get:Nat->V}
 (x:cg M β v<|.v<|.bP k m get):∃news,Src P k e v m news w/\mV M k m get news:=by
 let⟨r⟩:=et E F;have i:P.underlying e=some (.slice s):=by rw[r.hd,qG r y]
 rcases SX x with⟨rfl|⟨a,rfl⟩,rfl⟩|⟨b,c,q,n,rfl,_,d,hold⟩
 ·exact⟨[],Src.ofNil w i 0,BR _ _⟩
 ·exact⟨[],Src.ofSlice w i a 0 0 [] (by simp) (λj u l=>by simp at l)<|by simp,BR _ _⟩
 ·have z:∀(j:Nat) u,n[j]? = some u->w.cell? ((⟨b,c,none⟩:Addr).add j)=some u:=λj u l=>by rw[addr_add];exact h.mem _ _ _<|hold j u l
  exact⟨n,Src.ofSlice w i _ m q n d.len z d.one,d⟩
def ank(q:eP P tt=true){d:TypeId}{h:ep}(s:look tt d=some h)(m:h.k = .str)(l:UB)(M:Mem):
 ∃news,Src P 1 d (.string ⟨⟨l⟩⟩) l.length news w/\mV M 1 l.length (λi=>.int .u8 (l.getD i 0).toNat) news:=by
 let⟨r⟩:=et q s;have b:P.underlying d=some .string:=by rw[r.hd,te r m]
 refine⟨byteCells ⟨⟨l⟩⟩,Src.ofString w b ⟨⟨l⟩⟩,⟨by simp[byteCells],λi _=>rfl,λu b=>?_,λi j c u t e b=>?_⟩⟩
 ·obtain⟨_,_,rfl⟩:=jk.1 b;rfl
 ·cases j with
  |succ j=>simp[V.cells]at e
  |zero=>
   simp[V.cells]at e;subst e;simp only[byteCells,Nat.mul_one,sa,gV,dC]at b;obtain⟨a,n,rfl⟩:=b;have:l[i]? = some a:=n
   simp[this];exact .int _ _
end
end Go.Ab

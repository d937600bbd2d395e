/- The abstract machine: a step of code over plain data, proved against the model. -/
import Derived.Orders
import Derived.KernelRfl
import Derived.Laws.Sem
import Derived.Laws.Entries
import Derived.ChangeKeysEq
import Derived.Laws.Cells
import Derived.Laws.CopyRow
import Derived.Laws.Slices
import Derived.Laws.Strings2
import Derived.Deep.AppendSrc
set_option linter.all false
namespace Go.Ab
abbrev ano:=List UInt8
inductive V where
 |int (k:IntKind) (n:Int)
 |bool (b:Bool)
 |str (s:ano)
 |agg (cs:List V)
 |bq (k n:Nat) (get:Nat→V)
 |iface (t:TypeId) (x:V)
 |dW |h9 |aI
 |any
 |om (k:Nat) (get:Nat→V)
def V.cells:V→List V
 |.agg cs=>cs
 |x=>[x]
inductive D where
 |v (x:V)
 |ptr (r off:Nat)
 |cb (r off:Nat) (u:TypeId)
 |eE (x:V)
 |full (k n:Nat) (get:Nat→V)
 |fn (f:FuncId) (eN:List D)
 |agg (cs:List D)
 |cn (cs:List D)
structure aP where
 d:D
 own:Option TypeId:=none
structure aC where
 env:List (Nat×aP)
 H:List (Nat×List aP)
 aK:Nat
inductive lN where
 |int (k:IntKind) |bool |str
 |bT (cd:List (Nat×TypeId×Nat))
 |bq (e:TypeId) |arr (n:Nat) (e:TypeId) |ptr |aS |oo
deriving DecidableEq
structure en where
 k:lN
 size:Nat
 bytes:Nat
 zero:List V
 jl:List (Nat×TypeId):=[]
abbrev dq:=List (TypeId×en)
def look{α:Type}:List (Nat×α)→Nat→Option α
 |[],_=>none
 |(j,x)::l,i=>bif Nat.beq j i then some x else look l i
def del{α:Type}:List (Nat×α)→Nat→List (Nat×α)
 |[],_=>[]
 |(j,x)::l,i=>bif Nat.beq j i then del l i else(j,x)::del l i
def lN.isAgg:lN→Bool
 |.bT _ |.arr _ _=>true
 |_=>false
abbrev Path:=List (Nat×Bool)
def Path.has(p:Path)(x:Nat×Bool):Bool:=p.any λy=>Nat.beq y.1 x.1&&(y.2 == x.2)
def Path.sub(q p:Path):Bool:=q.all p.has
inductive Out where
 |ret (d:D) (own:Option TypeId)
 |az (x:V)
inductive e6 where
 |val (x:V)
 |raw
 |own
 |call (o:Out) (H:Option (List (List aP))) (os:List Nat)
def aH(i:Int)(n:Nat):Bool:=decide (0≤i)&&decide (i<n)
def gG(i:Int)(n:Nat):Bool:=decide (0≤i)&&decide (i≤n)
def lm(a b:Int)(n:Nat):Bool:=decide (0≤a)&&(decide (a≤b)&&decide (b≤n))
def D8(a:Int):Bool:=!decide (a=0)
def room(n b:Nat):Bool:=decide (n*b≤140737488355328)
def bM(n:Nat):Bool:=decide (n≤9223372036854775807)
structure c8 where
 env:List (Nat×aP)
 bO:List (Nat×Path×D)
 H:List (Nat×List aP)
 aK:Nat
 rs:List e6
 aO:List Prop
 ids:List (Nat×Nat):=[]
def JP:Value→Option V
 |.int k n=>some (.int k n)
 |.bool b=>some (.bool b)
 |.string s=>some (.str s.data.toList)
 |.pointer none=>some .dW
 |.nilIface=>some .h9
 |.nilFunc=>some .aI
 |_=>none
def rd(env:List (Nat×aP))(bO:List (Nat×Path×D))(p:Path)(tt:dq)(ty:TypeId):Operand→Option D
 |.tmp t=>match look bO t with
  |some (q,d)=>bif q.sub p then some d else none
  |none=>(look env t).map (·.d)
 |.const (.slice none 0 0)=>match look tt ty with
  |some {k:=.bq _,zero:=[.bq k 0 get],..}=>some (.v (.bq k 0 get))
  |_=>none
 |.const v=>(JP v).map .v
 |.func f=>some (.fn f [])
 |.global _=>none
def ln(f:TypeId→Operand→Option D):List Operand→List TypeId→Option (List D)
 |[],_=>some []
 |x::xs,t::ts=>match f t x,ln f xs ts with
  |some d,some ds=>some (d::ds)
  |_,_=>none
 |_::_,[]=>none
def zU:List D→Option (List V)
 |[]=>some []
 |.v x::l=>(zU l).map (x :: ·)
 |_::_=>none
def p1(cs:List D):D:=match zU cs with|some vs=>.v (.agg vs)|none=>.agg cs
def cellsD:D→List D
 |.v x=>x.cells.map .v
 |.agg cs=>cs
 |d=>[d]
def sy:List D→Bool
 |[]=>true
 |.cb _ _ _::_=>false
 |_::l=>sy l
def q9:D→Bool
 |.cn _=>true
 |_=>false
def setAt{α:Type}:List α→Nat→List α→List α
 |cs,0,[]=>cs
 |_::cs,0,x::xs=>x::setAt cs 0 xs
 |c::cs,n+1,xs=>c::setAt cs n xs
 |[],_,_=>[]
def q_(place:Nat→Option (Nat×Nat))(cells:List D):List (Nat×D)→Option (List D)
 |[]=>some cells
 |(i,d)::rest=>match place i with
  |none=>none
  |some (off,size)=>
   bif Nat.beq (cellsD d).length size&&Nat.ble (off+size) cells.length && !q9 d then q_ place (setAt cells off (cellsD d)) rest else none
abbrev Mem:=Nat→Nat→Option Value
def Mem.le(M M':Mem):Prop:=∀b o v,M b o=some v→M' b o=some v
def Mem.le_refl(M:Mem):M.le M:=λ_ _ _ h=>h
def Mem.le_trans{A B C:Mem}(h:A.le B)(cq:B.le C):A.le C:=λb o v e=>cq b o v (h b o v e)
inductive cP(M:Mem):Value→V→Prop where
 |int (k:IntKind) (n:Int):cP M (.int k n) (.int k n)
 |bool (b:Bool):cP M (.bool b) (.bool b)
 |str (l:ano):cP M (.string ⟨⟨l⟩⟩) (.str l)
 |agg (vs:List Value) (cs:List V) (hn:vs.length=cs.length) (Z:∀v,v∈vs→v.oneCell'=true)
  (h:∀(i:Nat) v c,vs[i]? = some v→cs[i]? = some c→cP M v c):cP M (.agg ⟨vs⟩) (.agg cs)
 |mh (k:Nat) (get:Nat→V):cP M (.slice none 0 0) (.bq k 0 get)
 |p2 (a:Addr) (k:Nat) (get:Nat→V):cP M (.slice (some a) 0 0) (.bq k 0 get)
 |bq (b off k n cap:Nat) (get:Nat→V) (val:Nat→Nat→Value) (hc:n≤cap)
  (hk:∀i,i<n→(get i).cells.length=k)
  (cF:∀i j,i<n→j<k→M b (off+i*k+j)=some (val i j)) (Z:∀i j,i<n→j<k→(val i j).oneCell'=true)
  (h:∀(i j:Nat) c,i<n→(get i).cells[j]? = some c→cP M (val i j) c):cP M (.slice (some ⟨b,off,none⟩) n cap) (.bq k n get)
 |iface (t:TypeId) (v:Value) (x:V) (h:cP M v x):cP M (.iface t v) (.iface t x)
 |dW:cP M (.pointer none) .dW
 |h9:cP M .nilIface .h9
 |aI:cP M .nilFunc .aI
 |any (v:Value) (Z:v.oneCell'=true):cP M v .any
 |om (k:Nat) (get:Nat→V):cP M (.slice none 0 0) (.om k get)
def gM(raw x:V):Prop:=∀(M:Mem) (v:Value),cP M v raw→cP M v x
def o7(k:IntKind)(a b:Int):Int:=k.wrap (BitVec.ofInt k.bits a &&& BitVec.ofInt k.bits b).toNat
def p3(k:IntKind)(a b:Int):Int:=k.wrap (BitVec.ofInt k.bits a |||BitVec.ofInt k.bits b).toNat
def mi(k:IntKind)(a b:Int):Int:=k.wrap (BitVec.ofInt k.bits a ^^^ BitVec.ofInt k.bits b).toNat
def JQ(k:IntKind)(a b:Int):Int:=k.wrap (BitVec.ofInt k.bits a &&& ~~~BitVec.ofInt k.bits b).toNat
def oq(k:IntKind)(x y:Int):Int:=k.wrap (x*2 ^ min y.toNat k.bits)
def mN(k:IntKind)(x y:Int):Int:=x.fdiv (2 ^ min y.toNat k.bits)
def nA(y:Int):Bool:=decide (0≤y)
def JR(op:BinOp)(k:IntKind)(x y:Int):Option (V×List Prop):=
 match op with
 |.shl=>some (.int k (oq k x y),[nA y=true])
 |.shr=>some (.int k (mN k x y),[nA y=true])
 |_=>none
def JS(op:BinOp)(k:IntKind)(a b:Int):Option (V×List Prop):=
 match op with
 |.add=>some (.int k (k.wrap (a+b)),[])
 |.sub=>some (.int k (k.wrap (a-b)),[])
 |.mul=>some (.int k (k.wrap (a*b)),[])
 |.quo=>some (.int k (k.wrap (a.tdiv b)),[D8 b=true])
 |.rem=>some (.int k (a.tmod b),[D8 b=true])
 |.eql=>some (.bool (decide (a=b)),[])
 |.neq=>some (.bool (!decide (a=b)),[])
 |.lss=>some (.bool (decide (a<b)),[])
 |.leq=>some (.bool (decide (a≤b)),[])
 |.gtr=>some (.bool (decide (b<a)),[])
 |.geq=>some (.bool (decide (b≤a)),[])
 |.and=>some (.int k (o7 k a b),[])
 |.or=>some (.int k (p3 k a b),[])
 |.xor=>some (.int k (mi k a b),[])
 |.andNot=>some (.int k (JQ k a b),[])
 |_=>none
def JT(op:BinOp)(a b:ano):Option (V×List Prop):=
 match op with
 |.add=>some (.str (a++b),[bM (a.length+b.length)=true])
 |.eql=>some (.bool (decide (a=b)),[])
 |.neq=>some (.bool (!decide (a=b)),[])
 |.lss=>some (.bool (Op.bytesLess a b),[])
 |.leq=>some (.bool (Op.bytesLess a b||decide (a=b)),[])
 |.gtr=>some (.bool (!(Op.bytesLess a b||decide (a=b))),[])
 |.geq=>some (.bool (!Op.bytesLess a b),[])
 |_=>none
def isNil:lN→D→Option Bool
 |.ptr,.v .dW=>some true
 |.ptr,.ptr _ _=>some false
 |.ptr,.eE _=>some false
 |.oo,.v .h9=>some true
 |.oo,.v (.iface _ _)=>some false
 |.aS,.v .aI=>some true
 |.aS,.fn _ _=>some false
 |_,_=>none
def D9:lN→D→Bool
 |.ptr,.v .dW=>true
 |.oo,.v .h9=>true
 |.aS,.v .aI=>true
 |_,_=>false
def iI:List (Option lN)→List V→List V→Option Bool
 |[],[],[]=>some true
 |some (.int _)::ks,.int k a::l,.int k' b::m=>bif decide (k=k') then(iI ks l m).map λr=>decide (a=b)&&r else none
 |some .str::ks,.str a::l,.str b::m=>(iI ks l m).map λr=>decide (a=b)&&r
 |some .bool::ks,.bool a::l,.bool b::m=>(iI ks l m).map λr=>(a == b)&&r
 |_,_,_=>none
def mj(tt:dq):Nat→List (Nat×TypeId×Nat)→List (Option lN)
 | 0,cd=>cd.map λf=>(look tt f.2.1).map (·.k)
 |d+1,cd=>cd.flatMap λf=>match look tt f.2.1 with
  |some {k:=.bT gs,..}=>mj tt d gs
  |o=>[o.map (·.k)]
def RB(k:Option lN)(ZY:Bool)(op:BinOp)(a b:D):Option (V×List Prop):=
 match a,b with
 |.v (.int k x),.v (.int k' y)=>match JR op k x y with
  |some z=>some z
  |none=>bif decide (k=k')then JS op k x y else none
 |.v (.str x),.v (.str y)=>JT op x y
 |.v (.bool x),.v (.bool y)=>match k,op with
  |some .bool,.eql=>some (.bool (x == y),[])
  |some .bool,.neq=>some (.bool (!(x == y)),[])
  |_,_=>none
 |a,b=>match k with
  |some k=>bif D9 k b&&ZY then match isNil k a,op with
   |some t,.eql=>some (.bool t,[])
   |some t,.neq=>some (.bool (!t),[])
   |_,_=>none
   else none
  |none=>none
def isConst:Operand→Bool
 |.const _=>true
 |_=>false
def RC(op:UnOp)(a:V):Option V:=
 match op,a with
 |.not,.bool b=>some (.bool (!b))
 |.neg,.int k n=>some (.int k (k.wrap (0-n)))
 |_,_=>none
def zV(env:List (Nat×aP))(bO:List (Nat×Path×D))(t:Nat):Option Bool:=
 match look bO t with
 |some (_,.v (.bool b))=>some b
 |some _=>none
 |none=>match look env t with
  |some ⟨.v (.bool b),_⟩=>some b
  |_=>none
def under(g:c8):Path→Prop→Prop
 |[],q=>q
 |(t,w)::p,q=>match zV g.env g.bO t with
  |some b=>b=w→under g p q
  |none=>under g p q
structure kR where
 e:Option aP
 g0:List Nat:=[]
 hs:List (Nat×List aP):=[]
 eZ:Nat:=0
 rs:List e6
 aO:List Prop:=[]
def o8(g:c8):Operand→Option TypeId
 |.tmp t=>(look g.env t).bind (·.own)
 |_=>none
def ZZ(t:Nat)(o:Oper):Bool:=
 match o.op with
 |.assign (.tmp u)=>Nat.beq u t
 |.store _ _ (.tmp u)=>Nat.beq u t
 |.call {callee:=.builtin .append,args,..}=>match args.toList with
  |.tmp u::_=>Nat.beq u t
  |_=>false
 |_=>false
def Z0(ops:List Oper)(dst:Option Nat):Bool:=
 match dst with
 |some t=>ops.any (ZZ t)
 |none=>false
def refs:D→List Nat
 |.ptr r _=>[r]
 |.cb r _ _=>[r]
 |.fn _ eN=>eN.flatMap fun |.ptr r _=>[r] |_=>[]
 |.agg cs=>cs.flatMap fun |.ptr r _=>[r] |.cb r _ _=>[r] |.fn _ eN=>(eN.flatMap fun |.ptr r _=>[r] |_=>[]) |_=>[]
 |_=>[]
def idx(l:List Nat)(r:Nat):Option Nat:=
 match l with
 |[]=>none
 |x::l=>bif Nat.beq x r then some 0 else(idx l r).map (· + 1)
def dedup:List Nat→List Nat
 |[]=>[]
 |x::l=>bif (dedup l).any (Nat.beq x)then dedup l else x::dedup l
mutual
def dX(f:Nat→Option Nat):D→Option D
 |.v x=>some (.v x)
 |.ptr r off=>(f r).map (.ptr · off)
 |.cb r off u=>(f r).map (.cb · off u)
 |.eE x=>some (.eE x)
 |.full k n get=>some (.full k n get)
 |.fn g eN=>(kS f eN).map (.fn g)
 |.agg cs=>(kS f cs).map .agg
 |.cn cs=>(kS f cs).map .cn
def kS(f:Nat→Option Nat):List D→Option (List D)
 |[]=>some []
 |d::l=>match dX f d,kS f l with
  |some dv,some cr=>some (dv::cr)
  |_,_=>none
end
def D'(f:Nat→Option Nat)(e:aP):Option aP:=(dX f e.d).map λd=>{d,own:=e.own}
def mO(f:Nat→Option Nat):List aP→Option (List aP)
 |[]=>some []
 |e::l=>match D' f e,mO f l with
  |some aX,some cr=>some (aX::cr)
  |_,_=>none
def jE(f:Nat→Option Nat):List (List aP)→Option (List (List aP))
 |[]=>some []
 |b::l=>match mO f b,jE f l with
  |some bo,some cr=>some (bo::cr)
  |_,_=>none
def boxes(H:List (Nat×List aP)):List Nat→Option (List (List aP))
 |[]=>some []
 |r::l=>match look H r,boxes H l with
  |some b,some bs=>some (b::bs)
  |_,_=>none
def cy{α:Type}:Nat→List α→List (Nat×α)
 |_,[]=>[]
 |n,x::l=>(n,x)::cy (n+1) l
def kT:List Nat→List (List aP)→List (Nat×List aP)
 |r::l,b::bs=>(r,b)::kT l bs
 |_,_=>[]
def mapM'{α β:Type}(f:α→Option β):List α→Option (List β)
 |[]=>some []
 |x::l=>match f x,mapM' f l with
  |some y,some ys=>some (y::ys)
  |_,_=>none
structure ge where
 call:FuncId→List D→List (Nat×TypeId)→List (List aP)→Out→List (List aP)→Prop
 eq:TypeId→Bool
inductive nB where
 |go (e:kR)
 |az (x:V) (hs:List (Nat×List aP)) (aO:List Prop)
def ot(H:List (Nat×List aP)):Nat→List Nat→List Nat
 | 0,l=>l
 |n+1,l=>ot H n (dedup (l++l.flatMap λr=>((look H r).getD []).flatMap λe=>refs e.d))
def mP:List Nat→Bool
 |[]=>true
 |x::l=>!l.any (Nat.beq x)&&mP l
def handed(tt:dq)(g:c8)(xs:List Operand)(ts:List TypeId):List Nat→Option (List (Nat×Option Nat×TypeId))
 |[]=>some []
 |i::os=>match xs[i]?,handed tt g xs ts os with
  |some (.tmp t),some l=>match look g.env t with
   |some ⟨_,some e⟩=>bif (look g.bO t).isNone&&l.all (λx=>!(match x.2.1 with |some u=>Nat.beq u t |none=>false) && !Nat.beq x.1 i)then some ((i,some t,e)::l)else none
   |_=>none
  |some (.const (.slice none 0 0)),some l=>match(ts[i]?).bind (look tt) with
   |some {k:=.bq e,..}=>bif l.all (λx=>!Nat.beq x.1 i)then some ((i,none,e)::l)else none
   |_=>none
  |_,_=>none
def w1(bZ:ge)(tt:dq)(g:c8)(p:Path)(xs:List Operand)(ts:List TypeId)(f:FuncId)(args:List D):Option nB:=
 let ρ:=ot g.H 2 (dedup (args.flatMap refs))
 match g.rs with
 |.call out cu os::rs=>
  match kS (idx ρ) args,(boxes g.H ρ).bind (jE (idx ρ)),handed tt g xs ts os with
  |some jm,some H1,some hd=>bif !mP ρ || !(p.isEmpty||os.isEmpty)then none else
   let dN:=hd.map λx=>(x.1,x.2.2)
   let g0:=hd.filterMap λx=>x.2.1
   match out,cu with
   |.ret d own,none=>(dX (λj=>ρ[j]?) d).map λdv=>.go {e:=some {d:=dv,own},g0,rs,aO:=[bZ.call f jm dN H1 out H1]}
   |.ret d own,some cu=>match dX (λj=>ρ[j]?) d,jE (λj=>ρ[j]?) cu with
    |some dv,some iu=>bif Nat.beq cu.length ρ.length then some (.go {e:=some {d:=dv,own},g0,hs:=kT ρ iu,rs,aO:=[bZ.call f jm dN H1 out cu]})else none
    |_,_=>none
   |.az x,none=>some (.az x [] [bZ.call f jm dN H1 out H1])
   |.az x,some cu=>match jE (λj=>ρ[j]?) cu with
    |some iu=>bif Nat.beq cu.length ρ.length then some (.az x (kT ρ iu) [bZ.call f jm dN H1 out cu])else none
    |none=>none
  |_,_,_=>none
 |_=>none
def D_:V→Option TypeId→Option TypeId
 |.bq _ _ _,t=>t
 |_,_=>none
def RD(tt:dq):Nat→List (Nat×TypeId×Nat)→Nat→Option TypeId
 | 0,_,_=>none
 |d+1,cd,j=>match cd.find? λf=>Nat.ble f.1 j&&Nat.blt j (f.1+f.2.2) with
  |some f=>match look tt f.2.1 with
   |some {k:=.bq e,..}=>some e
   |some {k:=.bT gs,..}=>RD tt d gs (j-f.1)
   |_=>none
  |none=>none
def JU(tt:dq):lN→Nat→Option TypeId
 |.bT cd,j=>RD tt 5 cd j
 |.bq e,0=>some e
 |_,_=>none
def RE(tt:dq)(jl:List (Nat×TypeId))(k:lN)(i:Nat):Option TypeId:=
 match JU tt k i with
 |some e=>some e
 |none=>(jl.find? λy=>Nat.beq (y.1+1) i).bind λy=>match look tt y.2 with |some {k,..}=>JU tt k 1 |none=>none
def zW(jl:List (Nat×TypeId))(id i:Nat)(x:V):D:=
 match x with
 |.dW=>match jl.find? λy=>Nat.beq y.1 i with
  |some y=>.cb id i y.2
  |none=>.v x
 |_=>.v x
def Ea(tt:dq)(t:TypeId)(id:Nat):Option (List aP):=
 match look tt t with
 |some {k:=.bq e,zero,..}=>some (zero.map λx=>{d:=.v x,own:=D_ x (some e)})
 |some {k:=.bT cd,zero,jl,..}=>some ((cy 0 zero).map fun(i,x)=>
  {d:=zW jl id i x,own:=D_ x (RE tt jl (.bT cd) i)})
 |some {zero,..}=>some (zero.map λx=>{d:=.v x})
 |none=>none
def V.isAgg:V→Bool
 |.agg _=>true
 |_=>false
def JV:V→V
 |.bq k 0 g=>.om k g
 |x=>x
def p4(ty:Nat→Option TypeId):Nat→List aP→List aP
 |_,[]=>[]
 |i,e::l=>(match e.d with
  |.v (.om k g)=>{d:=.v (.bq k 0 g),own:=ty i}
  |_=>e)::p4 ty (i+1) l
def elems(isAgg:Bool)(size:Nat):Nat→List (Nat×D)→Option (List V)
 |_,[]=>some []
 |i,(j,.v x)::bi=>bif Nat.beq i j&&Nat.beq x.cells.length size&&(x.isAgg == isAgg) then(elems isAgg size (i+1) bi).map (x :: ·)else none
 |_,_=>none
def ra(tt:dq)(t:TypeId)(i:Nat):TypeId:=
 match look tt t with
 |some {k:=.bT cd,..}=>match cd[i]? with
  |some f=>f.2.1
  |none=>0
 |some {k:=.arr _ e,..}=>e
 |some {k:=.bq e,..}=>e
 |_=>0
def w2(tt:dq)(aE:en)(id i:Nat)(d:D):aP:=
 match d with
 |.v .dW=>{d:=zW aE.jl id i .dW}
 |.v (.om k g)=>match RE tt aE.jl aE.k i with
  |some T=>{d:=.v (.bq k 0 g),own:=some T}
  |none=>{d}
 |d=>{d}
def p5(tt:dq)(aE:en)(id:Nat):Nat→List D→List aP
 |_,[]=>[]
 |i,d::l=>w2 tt aE id i d::p5 tt aE id (i+1) l
def nC(g:c8)(o:Oper):Option (Nat×Nat):=
 match o.dst.bind (look g.ids) with
 |some id=>bif (look g.H id).isNone&&Nat.blt id g.aK then some (id,0)else none
 |none=>some (g.aK,1)
def step1(bZ:ge)(tt:dq)(ops:List Oper)(g:c8)(p:Path)(o:Oper):Option nB:=
 let r:=rd g.env g.bO p tt o.type
 let val (d:Option D):Option nB:=d.map λd=>.go {e:=some {d},rs:=g.rs}
 let zX (x:Option (V×List Prop)):Option nB:=x.map fun(x,aO)=>.go {e:=some {d:=.v x},rs:=g.rs,aO}
 let Eb (raw:V) (mk:V→D) (aO:List Prop):Option nB:=match g.rs with
  |.val x::rs=>some (.go {e:=some {d:=mk x},rs,aO:=gM raw x::aO})
  |.raw::rs=>some (.go {e:=some {d:=mk raw},rs,aO:=aO})
  |_=>none
 match o.op with
 |.move x=>match r x with
  |some d=>match o8 g x,x with
   |some e,.tmp t=>match g.rs with
    |.own::rs=>bif p.isEmpty then some (.go {e:=some {d,own:=some e},g0:=[t],rs})else none
    |_=>bif p.isEmpty&&Z0 ops o.dst then some (.go {e:=some {d,own:=some e},g0:=[t],rs:=g.rs})else some (.go {e:=some {d},rs:=g.rs})
   |_,_=>some (.go {e:=some {d},rs:=g.rs})
  |none=>none
 |.assign x=>match r x with
  |some d=>match o8 g x,x with
   |some e,.tmp t=>bif p.isEmpty then some (.go {e:=some {d,own:=some e},g0:=[t],rs:=g.rs})else some (.go {e:=some {d},rs:=g.rs})
   |_,.const (.slice none 0 0)=>match look tt o.type with
    |some {k:=.bq e,..}=>bif p.isEmpty then some (.go {e:=some {d,own:=some e},rs:=g.rs})else some (.go {e:=some {d},rs:=g.rs})
    |_=>none
   |_,_=>some (.go {e:=some {d},rs:=g.rs})
  |none=>none
 |.pick (.tmp c) a b=>match r (.tmp c),rd g.env g.bO ((c,true)::p) tt o.type a,rd g.env g.bO ((c,false)::p) tt o.type b with
  |some (.v (.bool sz)),some (.v (.bool zY)),some (.v (.bool p6))=>val (some (.v (.bool (bif sz then zY else p6))))
  |_,_,_=>none
 |.alloc t=>match nC g o with
  |some (id,eZ)=>match Ea tt t id with
   |some z=>some (.go {e:=some {d:=.ptr id 0},hs:=[(id,z)],eZ,rs:=g.rs})
   |none=>none
  |none=>none
 |.box t x=>match r x,nC g o,look tt t with
  |some d,some (id,eZ),some aE=>bif q9 d || !sy (cellsD d) || !Nat.beq (cellsD d).length aE.size then none else some (.go {e:=some {d:=.ptr id 0},hs:=[(id,p5 tt aE id 0 (cellsD d))],eZ,rs:=g.rs})
  |_,_,_=>none
 |.build t parts=>match look tt t,mapM' (fun(i,x)=>(rd g.env g.bO p tt (ra tt t i) x).map λd=>(i,d)) parts.toList with
  |some {k:=.bT cd,zero,..},some bi=>bif cd.all (λf=>Nat.ble 1 f.2.2)then match g.rs with
   |.own::rs=>((q_ (λi=>(cd[i]?).map λf=>(f.1,f.2.2)) (zero.map λx=>.v (JV x)) bi).map p1).map λd=>.go {e:=some {d},rs}
   |_=>val ((q_ (λi=>(cd[i]?).map λf=>(f.1,f.2.2)) (zero.map .v) bi).map p1)
   else none
  |some {k:=.arr _ e,zero,..},some bi=>match look tt e with
   |some {size,..}=>val ((q_ (λi=>some (i*size,size)) (zero.map .v) bi).map p1)
   |none=>none
  |_,_=>none
 |.buildSlice t len parts=>match look tt t,mapM' (fun(i,x)=>(rd g.env g.bO p tt (ra tt t i) x).map λd=>(i,d)) parts.toList with
  |some {k:=.bq e,..},some bi=>match look tt e with
   |some {k,size,..}=>
    match elems k.isAgg size 0 bi,g.rs with
    |some xs,.val x::rs=>bif Nat.ble (len*size) 16777216&&Nat.ble 1 size&&Nat.beq xs.length len then some (.go {e:=some {d:=.v x,own:=some e},rs,aO:=[gM (.bq size len λi=>xs.getD i .dW) x]})else none
    |_,_=>none
   |none=>none
  |_,_=>none
 |.load t a=>match r a,look tt t with
  |some (
   .ptr q off),some aE=>match look g.H q with
   |some cs=>bif aE.k.isAgg then
    bif Nat.ble (off+aE.size) cs.length then val (some (p1 (((cs.drop off).take aE.size).map (·.d))))else none
    else match cs[off]? with
     |some e=>match e.own,g.rs with
      |some _,.own::rs=>bif p.isEmpty then some (.go {e:=some e,hs:=[(q,setAt cs off [{d:=e.d}])],rs})else none
      |_,_=>val (some e.d)
     |none=>none
   |none=>none
  |some (.eE x),some aE=>bif x.isAgg == aE.k.isAgg&&Nat.beq x.cells.length aE.size then val (some (.v x))else none
  |_,_=>none
 |.store t a x=>match r a,rd g.env g.bO p tt t x,look tt t with
  |some (
   .ptr q off),some d,some aE=>match look g.H q with
   |some cs=>bif Nat.beq (cellsD d).length aE.size&&Nat.ble (off+aE.size) cs.length&&p.isEmpty && !q9 d&&sy (cellsD d) then
    match x,o8 g x,d with
    |.tmp u,some s,.v (.bq ..)=>some (.go {e:=none,g0:=[u],hs:=[(q,setAt cs off [{d,own:=some s}])],rs:=g.rs})
    |.const (.slice none 0 0),_,_=>match aE.k with
     |.bq s=>some (.go {e:=none,hs:=[(q,setAt cs off [{d,own:=some s}])],rs:=g.rs})
     |_=>none
    |_,_,_=>some (.go {e:=none,hs:=[(q,p4 (λi=>JU tt aE.k (i-off)) 0 (setAt cs off ((cellsD d).map λd=>{d})))],rs:=g.rs})
    else none
   |none=>none
  |_,_,_=>none
 |.nilCheck x=>match r x with
  |some (.ptr q off)=>val (some (.ptr q off))
  |some (.eE x)=>val (some (.eE x))
  |_=>none
 |.binOp op t x y _=>match r x,r y with
  |some (.v (.agg xs)),some (.v (.agg ys))=>match look tt t with
   |some {k:=.bT cd,..}=>bif bZ.eq t then match op,iI (mj tt 4 cd) xs ys with
    |.eql,some r=>val (some (.v (.bool r)))
    |.neq,some r=>val (some (.v (.bool (!r))))
    |_,_=>none
    else none
   |_=>none
  |some a,some b=>zX (RB ((look tt t).map (·.k)) (isConst y) op a b)
  |_,_=>none
 |.unOp op _ x=>match r x with
  |some (.v a)=>val ((RC op a).map .v)
  |_=>none
 |.convert s t x=>match look tt s,look tt t,r x with
  |some {k:=.int _,..},some {k:=.int k,..},some (.v (.int _ n))=>val (some (.v (.int k (k.wrap n))))
  |some {k:=.str,..},some {k:=.str,..},some (.v (.str s))=>val (some (.v (.str s)))
  |some {k:=.bq e,..},some {k:=.str,..},some (.v (.bq 1 n get))=>match look tt e,g.rs with
   |some {k:=.int .u8,..},.val (.str l)::rs=>some (.go {e:=some {d:=.v (.str l)},rs,aO:=[l.length=n∧∀i,i<n→get i = .int .u8 ((l.getD i 0).toNat:Int)]})
   |_,_=>none
  |_,_,_=>none
 |.makeInterface t x=>match r x,look tt t with
  |some (.v x),some {k,..}=>match k with
   |.oo=>none
   |_=>val (some (.v (.iface t x)))
  |_,_=>none
 |.makeFunc (.func f) first eN=>bif first.isEmpty then(mapM' r eN.toList).map λds=>.go {e:=some {d:=.fn f ds},rs:=g.rs}else none
 |.slice t x lo hi jF=>match jF,look tt t with
  |none,some {k:=.str,..}=>match r x,lo.map r,hi.map r with
   |some (.v (.str s)),none,none=>val (some (.v (.str s)))
   |some (.v (.str s)),some (some (.v (.int _ a))),none=>zX (some (.str (s.drop a.toNat),[gG a s.length=true]))
   |some (.v (.str s)),none,some (some (.v (.int _ b)))=>zX (some (.str (s.take b.toNat),[gG b s.length=true]))
   |some (.v (.str s)),some (some (.v (.int _ a))),some (some (.v (.int _ b)))=>zX (some (.str ((s.take b.toNat).drop a.toNat),[lm a b s.length=true]))
   |_,_,_=>none
  |none,some {k:=.bq e,..}=>match look tt e,r x,lo.map r,hi.map r with
   |some {size,..},some (.v (.bq k n get)),some (some (.v (.int _ a))),none=>bif Nat.beq k size then Eb (.bq k (n-a.toNat) λi=>get (a.toNat+i)) .v [gG a n=true]else none
   |some {size,..},some (.v (.bq k n get)),none,some (some (.v (.int _ b)))=>bif Nat.beq k size then Eb (.bq k b.toNat get) .v [gG b n=true]else none
   |some {size,..},some (.v (.bq k n get)),some (some (.v (.int _ a))),some (some (.v (.int _ b)))=>bif Nat.beq k size then Eb (.bq k (b.toNat-a.toNat) λi=>get (a.toNat+i)) .v [lm a b n=true]else none
   |some {size,..},some (.v (.bq k n get)),none,none=>bif Nat.beq k size then val (some (.v (.bq k n get)))else none
   |_,_,_,_=>none
  |some _,some {k:=.bq e,..}=>match look tt e,r x,lo,hi.map r,jF.map r with
   |some {size,..},some (.v (.bq k n get)),none,some (some (.v (.int _ b))),some (some (.v (.int _ c)))=>bif Nat.beq k size then some (.go {e:=some {d:=.full k b.toNat get},rs:=g.rs,aO:=[b=c,gG b n=true]})else none
   |_,_,_,_,_=>none
  |_,_=>none
 |.fieldAddr s x f=>match r x,look tt s with
  |some (.ptr q off),some {k:=.bT cd,..}=>match cd[f]? with
   |some (dr,_,e0)=>bif Nat.ble 1 e0 then val (some (.ptr q (off+dr)))else none
   |none=>none
  |some (
   .eE (.agg cs)),some {k:=.bT cd,..}=>match cd[f]? with
   |some (
    dr,hF,e0)=>match look tt hF with
    |some aE=>bif Nat.ble 1 e0&&Nat.ble (dr+e0) cs.length then
     bif aE.k.isAgg then val (some (.eE (.agg ((cs.drop dr).take e0))))else bif Nat.beq e0 1 then match cs[dr]? with
      |some c=>bif c.isAgg then none else val (some (.eE c))
      |none=>none
     else none
     else none
    |none=>none
   |none=>none
  |_,_=>none
 |.field s x f=>match r x,look tt s with
  |some (
   .v (.agg cs)),some {k:=.bT cd,..}=>match cd[f]? with
   |some (dr,hF,e0)=>match look tt hF with
    |some aE=>bif Nat.ble (dr+e0) cs.length then bif aE.k.isAgg then val (some (.v (.agg ((cs.drop dr).take e0))))else match cs[dr]? with
     |some c=>val (some (.v c))
     |none=>none
     else none
    |none=>none
   |none=>none
  |some (.agg cs),some {k:=.bT cd,..}=>match cd[f]? with
   |some (dr,hF,e0)=>match look tt hF,cs[dr]? with
    |some aE,some c=>bif aE.k.isAgg || !Nat.beq e0 1||q9 c then none else val (some c)
    |_,_=>none
   |none=>none
  |_,_=>none
 |.indexAddr t x i=>match r x,r i,look tt t with
  |some (.v (.bq k n get)),some (.v (.int _ j)),some {k:=.bq e,..}=>match look tt e with
   |some {size,..}=>bif Nat.beq k size&&Nat.ble 1 size then Eb (get j.toNat) .eE [aH j n=true]else none
   |none=>none
  |_,_,_=>none
 |.index t x i=>match r x,r i,look tt t with
  |some (.v (.str s)),some (.v (.int _ j)),some {k:=.str,..}=>zX (some (.int .u8 (s.getD j.toNat 0).toNat,[aH j s.length=true]))
  |_,_,_=>none
 |.typeAssert x _ t ok=>match r x,look tt t with
  |some (.v (.iface bE y)),some {k,..}=>match k with
   |.oo=>none
   |_=>bif Nat.beq bE t then val (some (bif ok then .cn [.v y,.v (.bool true)]else .v y))else none
  |_,_=>none
 |.extract x i=>match r x with
  |some (.cn ds)=>val ds[i]?
  |_=>none
 |.call c=>match c.callee with
  |.value x=>match r x,ln (rd g.env g.bO p tt) c.args.toList c.argTypes.toList with
   |some (.fn f eN),some ds=>w1 bZ tt g p c.args.toList c.argTypes.toList f (ds++eN)
   |_,_=>none
  |.builtin .len=>match mapM' (λy=>r y) c.args.toList,(c.argTypes.toList[0]?).bind (look tt) with
   |some [.v (.str s)],some {k:=.str,..}=>val (some (.v (.int .i64 s.length)))
   |some [.v (.bq _ n _)],some {k:=.bq _,..}=>val (some (.v (.int .i64 n)))
   |_,_=>none
  |.builtin .append=>match c.args.toList,(c.argTypes.toList[0]?).bind (look tt),(c.argTypes.toList[1]?).bind (look tt) with
   |[.tmp t,x],some {k:=.bq e,..},some t2=>match look tt e,r (.tmp t),r x,look g.env t,g.rs with
    |some b1,some (.v (.bq k n get)),some d2,some ⟨_,some aX⟩,.val y::rs=>
     bif Nat.beq e aX&&Nat.beq k b1.size&&Nat.ble 1 b1.size&&Nat.ble 1 b1.bytes&&p.isEmpty then
      match d2,t2.k with
      |.v (.bq al m lO),.bq _=>bif Nat.beq al k then
       some (.go {e:=some {d:=.v y,own:=some e},g0:=[t],rs,aO:=[gM (.bq k (n+m) λi=>bif Nat.blt i n then get i else lO (i-n)) y,room (n+m) b1.bytes=true]})
       else none
      |.v (.str s),.str=>bif Nat.beq k 1 then
       some (.go {e:=some {d:=.v y,own:=some e},g0:=[t],rs,aO:=[gM (.bq k (n+s.length) λi=>bif Nat.blt i n then get i else .int .u8 (s.getD (i-n) 0).toNat) y,room (n+s.length) b1.bytes=true]})
       else none
      |_,_=>none
     else none
    |some b1,some (.full k n get),some d2,_,.val y::rs=>
     bif Nat.beq k b1.size&&Nat.ble 1 b1.size&&Nat.ble 1 b1.bytes&&p.isEmpty then
      match d2,t2.k with
      |.v (.bq al m lO),.bq _=>bif Nat.beq al k&&Nat.ble 1 m then
       some (.go {e:=some {d:=.v y,own:=some e},g0:=[t],rs,aO:=[gM (.bq k (n+m) λi=>bif Nat.blt i n then get i else lO (i-n)) y,room (n+m) b1.bytes=true]})
       else none
      |_,_=>none
     else none
    |_,_,_,_,_=>none
   |_,_,_=>none
  |.builtin .min=>match mapM' (λy=>r y) c.args.toList with
   |some [.v (.int k a),.v (.int al b)]=>bif decide (k=al)then val (some (.v (.int k (bif decide (b<a)then b else a))))else none
   |_=>none
  |.builtin .max=>match mapM' (λy=>r y) c.args.toList with
   |some [.v (.int k a),.v (.int al b)]=>bif decide (k=al)then val (some (.v (.int k (bif decide (a<b)then b else a))))else none
   |_=>none
  |_=>none
 |.panic x=>match r x with
  |some (.v (.iface t y))=>some (.az (.iface t y) [] [])
  |_=>none
 |_=>none
def gN:List Nat→List (Nat×aP)→List (Nat×aP)
 |[],env=>env
 |t::l,env=>match look env t with
  |some e=>(t,{e with own:=none})::gN l env
  |none=>gN l env
inductive zZ where
 |go (g:c8)
 |az (x:V) (st:aC) (aO:List Prop)
def o9:List (Nat×aP)→List (Nat×aP)
 |[]=>[]
 |(t,e)::l=>(t,{d:=e.d})::o9 l
def o_(ops:List Oper)(g:c8)(o:Oper):Option Path:=
 match o.guard with
 |none=>some []
 |some (j,w)=>match(ops[j]?).bind (·.dst) with
  |some t=>match look g.bO t with
   |some (q,.v (.bool _))=>some (q++[(t,w)])
   |some _=>none
   |none=>match look g.env t with
    |some ⟨.v (.bool _),_⟩=>some [(t,w)]
    |_=>none
  |none=>none
def w3(bO:List (Nat×Path×D))(t:Nat):Bool:=bO.all λx=>Nat.beq x.1 t||x.2.1.all λy=>!Nat.beq y.1 t
def nD(
 bZ:ge) (tt:dq) (N:Nat) (ops:List Oper) (g:c8) (o:Oper):Option zZ:=
 match o_ ops g o with
 |none=>none
 |some p=>
  match step1 bZ tt ops g p o with
  |none=>none
  |some (.az x hs aO)=>bif p.isEmpty then some (.az x {env:=o9 g.env,H:=hs++g.H,aK:=g.aK} (aO++g.aO))else none
  |some (
   .go f)=>
   let ew:c8:={g with rs:=f.rs,aO:=f.aO.map (under g p)++g.aO}
   match o.dst with
   |none=>bif p.isEmpty then some (.go {ew with env:=gN f.g0 g.env,H:=f.hs++g.H,aK:=g.aK+f.eZ})else none
   |some t=>bif Nat.blt t N&&w3 g.bO t then
    match p with
    |[]=>some (.go {ew with
     env:=match f.e with|some e=>(t,e)::gN f.g0 g.env|none=>del (gN f.g0 g.env) t
     bO:=del g.bO t,H:=f.hs++g.H,aK:=g.aK+f.eZ})
    |_::_=>match f.e,f.hs,f.g0 with
     |some e,[],[]=>bif p.all (λy=>!Nat.beq y.1 t)&&Nat.beq f.eZ 0 then some (.go {ew with env:=del g.env t,bO:=(t,p,e.d)::del g.bO t})else none
     |_,_,_=>none
    else none
def sA(bZ:ge)(tt:dq)(N:Nat)(ops:List Oper):List Oper→c8→Option zZ
 |[],g=>some (.go g)
 |o::l,g=>match nD bZ tt N ops g o with
  |some (.go ew)=>sA bZ tt N ops l ew
  |x=>x
mutual
def below(n:Nat):D→Bool
 |.v _ |.eE _ |.full _ _ _=>true
 |.ptr r _=>Nat.blt r n
 |.cb r _ _=>Nat.blt r n
 |.fn _ eN=>uv n eN
 |.agg cs |.cn cs=>uv n cs
def uv(n:Nat):List D→Bool
 |[]=>true
 |d::l=>below n d&&uv n l
end
def sB(n:Nat):List aP→Bool
 |[]=>true
 |e::l=>below n e.d&&sB n l
def z1(env:List (Nat×aP)):List Nat→Option (List (Nat×aP))
 |[]=>some []
 |t::l=>match look env t,z1 env l with
  |some e,some cr=>some ((t,e)::cr)
  |_,_=>none
def z6(H:List (Nat×List aP)):List Nat→Option (List (Nat×List aP))
 |[]=>some []
 |r::l=>match look H r,z6 H l with
  |some e,some cr=>some ((r,e)::cr)
  |_,_=>none
def uw(live:List Nat)(boxes:List Nat)(n:Nat)(env:List (Nat×aP))(H:List (Nat×List aP))(aK:Nat):Option aC:=
 match z1 env live,z6 H boxes with
 |some nE,some bB=>bif Nat.ble n aK&&nE.all (λx=>below n x.2.d)&&bB.all (λx=>Nat.blt x.1 n&&sB n x.2)then some {env:=nE,H:=bB,aK:=n}else none
 |_,_=>none
inductive Fin where
 |go (st:aC) (aO:List Prop)
 |az (x:V) (st:aC) (aO:List Prop)
def cP.mono{M M':Mem}(cF:M.le M'){v:Value}{x:V}(h:cP M v x):cP M' v x:=by
 induction h with
 |int k n=>exact .int k n
 |bool b=>exact .bool b
 |str l=>exact .str l
 |agg vs cs hn Z _ aF=>exact .agg vs cs hn Z aF
 |mh k get=>exact .mh k get
 |p2 a k get=>exact .p2 a k get
 |bq b off k n cap get val hc hk hm Z _ aF=>exact .bq b off k n cap get val hc hk (λi j hi hj=>cF _ _ _ (hm i j hi hj)) Z aF
 |iface t v x _ aF=>exact .iface t v x aF
 |dW=>exact .dW
 |h9=>exact .h9
 |aI=>exact .aI
 |any v Z=>exact .any v Z
 |om k get=>exact .om k get
inductive ce(M:Mem)(β:Nat→Option Nat):Value→D→Prop where
 |v (u:Value) (x:V) (h:cP M u x):ce M β u (.v x)
 |ptr (r off b:Nat) (h:β r=some b):ce M β (.pointer (some ⟨b,off,none⟩)) (.ptr r off)
 |lp (r off:Nat) (u:TypeId):ce M β (.pointer none) (.cb r off u)
 |cb (r off b:Nat) (u:TypeId) (h:β r=some b):ce M β (.pointer (some ⟨b,off,none⟩)) (.cb r off u)
 |eE (b off:Nat) (x:V) (val:Nat→Value) (cF:∀j,j<x.cells.length→M b (off+j)=some (val j)) (Z:∀j,j<x.cells.length→(val j).oneCell'=true)
  (h:∀(j:Nat) c,x.cells[j]? = some c→cP M (val j) c):ce M β (.pointer (some ⟨b,off,none⟩)) (.eE x)
 |full (base:Option Addr) (k n:Nat) (get:Nat→V) (h:cP M (.slice base n n) (.bq k n get)):ce M β (.slice base n n) (.full k n get)
 |fn (f:FuncId) (vs:List Value) (cs:List D) (hn:vs.length=cs.length)
  (h:∀(i:Nat) v c,vs[i]? = some v→cs[i]? = some c→ce M β v c):ce M β (.func (.func f) #[] ⟨vs⟩) (.fn f cs)
 |agg (vs:List Value) (cs:List D) (hn:vs.length=cs.length) (Z:∀v,v∈vs→v.oneCell'=true)
  (h:∀(i:Nat) v c,vs[i]? = some v→cs[i]? = some c→ce M β v c):ce M β (.agg ⟨vs⟩) (.agg cs)
 |cn (vs:List Value) (cs:List D) (hn:vs.length=cs.length)
  (h:∀(i:Nat) v c,vs[i]? = some v→cs[i]? = some c→ce M β v c):ce M β (.tuple ⟨vs⟩) (.cn cs)
def ce.mono{M M':Mem}{β:Nat→Option Nat}(cF:M.le M'){v:Value}{d:D}(h:ce M β v d):ce M' β v d:=by
 induction h with
 |v u x h=>exact .v u x (h.mono cF)
 |ptr r off b h=>exact .ptr r off b h
 |lp r off u=>exact .lp r off u
 |cb r off b u h=>exact .cb r off b u h
 |eE b off x val hm Z h=>exact .eE b off x val (λj hj=>cF _ _ _ (hm j hj)) Z (λj c hc=>(h j c hc).mono cF)
 |full b k n get h=>exact .full b k n get (h.mono cF)
 |fn f vs cs hn _ aF=>exact .fn f vs cs hn aF
 |agg vs cs hn Z _ aF=>exact .agg vs cs hn Z aF
 |cn vs cs hn _ aF=>exact .cn vs cs hn aF
def sC{n:Nat}:∀{l:List D} {i:Nat} {d:D},uv n l=true→l[i]? = some d→below n d=true
 |[],_,_,_,h=>by simp at h
 |d::l,0,_,hb,h=>by simp [uv]at hb;simp at h;exact h ▸ hb.1
 |d::l,i+1,_,hb,h=>by simp [uv]at hb;simp at h;exact sC hb.2 h
def ce.RF{M:Mem}{β β':Nat→Option Nat}{n:Nat}(gO:∀r,r<n→β' r=β r){v:Value}{d:D}(h:ce M β v d):Ab.below n d=true→ce M β' v d:=by
 induction h with
 |v u x h=>intro _;exact .v u x h
 |ptr r off b h=>intro hb;exact .ptr r off b (by rw [gO r (by simpa [Ab.below,Nat.blt_eq]using hb)];exact h)
 |lp r off u=>intro hb;exact .lp r off u
 |cb r off b u h=>intro hb;exact .cb r off b u (by rw [gO r (by simpa [Ab.below,Nat.blt_eq]using hb)];exact h)
 |eE b off x val hm Z h=>intro _;exact .eE b off x val hm Z h
 |full b k n get h=>intro _;exact .full b k n get h
 |fn f vs cs hn _ aF=>intro hb;exact .fn f vs cs hn λi v c am hc=>aF i v c am hc (sC (by simpa [Ab.below]using hb) hc)
 |agg vs cs hn Z _ aF=>intro hb;exact .agg vs cs hn Z λi v c am hc=>aF i v c am hc (sC (by simpa [Ab.below]using hb) hc)
 |cn vs cs hn _ aF=>intro hb;exact .cn vs cs hn λi v c am hc=>aF i v c am hc (sC (by simpa [Ab.below]using hb) hc)
def w4{f:Nat→Option Nat}:∀{l cr:List D},kS f l=some cr→l.length=cr.length∧∀(i:Nat) d,l[i]? = some d→∃dv,cr[i]? = some dv∧dX f d=some dv
 |[],cr,h=>by simp [kS]at h;subst h;simp
 |d::l,cr,h=>by
  simp only [kS]at h;split at h<;>simp at h
  rename_i dv g' hd ab;subst h;obtain⟨Z,aa⟩:=w4 ab;refine⟨by simp [Z],λi x hx=>?_⟩
  cases i with
  |zero=>simp at hx;subst hx;exact⟨dv,by simp,hd⟩
  |succ i=>simp at hx;simpa using aa i x hx
def ce.dX{M:Mem}{β β':Nat→Option Nat}{f:Nat→Option Nat}(gO:∀r s b,f r=some s→β r=some b→β' s=some b){v:Value}{d:D}(h:ce M β v d):
 ∀{dv},dX f d=some dv→ce M β' v dv:=by
 induction h with
 |v u x h=>intro dv hd;simp [Ab.dX]at hd;subst hd;exact .v u x h
 |ptr r off b h=>
  intro dv hd;simp only [Ab.dX,Option.map_eq_some_iff]at hd;obtain⟨s,hs,rfl⟩:=hd;exact .ptr s off b (gO r s b hs h)
 |lp r off u=>
  intro dv hd;simp only [Ab.dX,Option.map_eq_some_iff]at hd;obtain⟨s,hs,rfl⟩:=hd;exact .lp s off u
 |cb r off b u h=>
  intro dv hd;simp only [Ab.dX,Option.map_eq_some_iff]at hd;obtain⟨s,hs,rfl⟩:=hd;exact .cb s off b u (gO r s b hs h)
 |eE b off x val hm Z h=>intro dv hd;simp [Ab.dX]at hd;subst hd;exact .eE b off x val hm Z h
 |full b k n get h=>intro dv hd;simp [Ab.dX]at hd;subst hd;exact .full b k n get h
 |fn f vs cs hn _ aF=>
  intro dv hd;simp only [Ab.dX,Option.map_eq_some_iff]at hd;obtain⟨cs',dQ,rfl⟩:=hd;obtain⟨Z,aa⟩:=w4 dQ;refine .fn f vs cs' (by omega) λi v c am hc=>?_
  have hi:i<cs.length:=by have:=(List.getElem?_eq_some_iff.1 hc).1;omega
  obtain⟨d1,gf,ah⟩:=aa i cs[i] (List.getElem?_eq_getElem hi);rw [hc]at gf;cases gf;exact aF i v _ am (List.getElem?_eq_getElem hi) ah
 |agg vs cs hn Z _ aF=>
  intro dv hd;simp only [Ab.dX,Option.map_eq_some_iff]at hd;obtain⟨cs',dQ,rfl⟩:=hd;obtain⟨h0,aa⟩:=w4 dQ;refine .agg vs cs' (by omega) Z λi v c am hc=>?_
  have hi:i<cs.length:=by have:=(List.getElem?_eq_some_iff.1 hc).1;omega
  obtain⟨d1,gf,ah⟩:=aa i cs[i] (List.getElem?_eq_getElem hi);rw [hc]at gf;cases gf;exact aF i v _ am (List.getElem?_eq_getElem hi) ah
 |cn vs cs hn _ aF=>
  intro dv hd;simp only [Ab.dX,Option.map_eq_some_iff]at hd;obtain⟨cs',dQ,rfl⟩:=hd;obtain⟨Z,aa⟩:=w4 dQ;refine .cn vs cs' (by omega) λi v c am hc=>?_
  have hi:i<cs.length:=by have:=(List.getElem?_eq_some_iff.1 hc).1;omega
  obtain⟨d1,gf,ah⟩:=aa i cs[i] (List.getElem?_eq_getElem hi);rw [hc]at gf;cases gf;exact aF i v _ am (List.getElem?_eq_getElem hi) ah
def ce.JW{M:Mem}{β β':Nat→Option Nat}(gO:∀r b,β r=some b→β' r=some b){v:Value}{d:D}(h:ce M β v d):ce M β' v d:=by
 induction h with
 |v u x h=>exact .v u x h
 |ptr r off b h=>exact .ptr r off b (gO r b h)
 |lp r off u=>exact .lp r off u
 |cb r off b u h=>exact .cb r off b u (gO r b h)
 |eE b off x val hm Z h=>exact .eE b off x val hm Z h
 |full b k n get h=>exact .full b k n get h
 |fn f vs cs hn _ aF=>exact .fn f vs cs hn aF
 |agg vs cs hn Z _ aF=>exact .agg vs cs hn Z aF
 |cn vs cs hn _ aF=>exact .cn vs cs hn aF
def ce.Z1{M:Mem}{β β':Nat→Option Nat}{n:Nat}(gO:∀r,r<n→∀b,β r=some b→β' r=some b){v:Value}{d:D}(h:ce M β v d):Ab.below n d=true→ce M β' v d:=by
 induction h with
 |v u x h=>intro _;exact .v u x h
 |ptr r off b h=>intro hb;exact .ptr r off b (gO r (by simpa [Ab.below,Nat.blt_eq]using hb) b h)
 |lp r off u=>intro hb;exact .lp r off u
 |cb r off b u h=>intro hb;exact .cb r off b u (gO r (by simpa [Ab.below,Nat.blt_eq]using hb) b h)
 |eE b off x val hm Z h=>intro _;exact .eE b off x val hm Z h
 |full b k n get h=>intro _;exact .full b k n get h
 |fn f vs cs hn _ aF=>intro hb;exact .fn f vs cs hn λi v c am hc=>aF i v c am hc (sC (by simpa [Ab.below]using hb) hc)
 |agg vs cs hn Z _ aF=>intro hb;exact .agg vs cs hn Z λi v c am hc=>aF i v c am hc (sC (by simpa [Ab.below]using hb) hc)
 |cn vs cs hn _ aF=>intro hb;exact .cn vs cs hn λi v c am hc=>aF i v c am hc (sC (by simpa [Ab.below]using hb) hc)
structure Ctx where
 z7:Mem
 F:Nat→Option Obj
 kU:Nat→Option Nat
 hG:Os×Array (Nat×ByteArray)
 ds:List Deferred:=[]
inductive Loc where
 |slot (s:Nat)
 |cell (r i:Nat)
deriving DecidableEq
def aC.at(st:aC):Loc→Option aP
 |.slot s=>look st.env s
 |.cell r i=>(look st.H r).bind (·[i]?)
def cc(tmps:Array Value)(w:World)(β:Nat→Option Nat):Loc→Value
 |.slot s=>tmps.getD s undef
 |.cell r i=>match β r with
  |some b=>(w.cell? ⟨b,i,none⟩).getD undef
  |none=>undef
def hH:Value→Option Nat
 |.slice (some a) _ _=>some a.block
 |_=>none
def pb(P:Program)(F:Nat→Option Obj)(M:Mem)(w:World)(T:TypeId)(v:Value):Prop:=
 v = .slice none 0 0∨∃b n cap vs T',v = .slice (some ⟨b,0,none⟩) n cap∧n≤cap∧w.heap[b]? = some (.cells ⟨vs⟩ T' (0,0))∧cap*P.cellsOf T≤vs.length∧
  (∀o,n*P.cellsOf T≤o→M b o=none)∧F b=none∧T'=T
def JX (P : Program) : List Nat := ["strconv.ErrSyntax", "strconv.ErrRange"].filterMap P.globalNamed
def JY:Array Value:=((List.range 20).map λi=>Value.int .u64 ((10 ^ i:Nat):Int)).toArray
def rb(P:Program)(F:Nat→Option Obj):Prop:=
 (∀g,g∈JX P→∃cs t kx fk,F g=some (.cells cs t kx)∧cs[0]? = some fk∧(fk = .nilIface∨∃b1 rc,fk = .iface b1 rc))∧
 ∀ g, P.globalNamed "internal/strconv.uint64pow10" = some g → ∃ t kx, F g = some (.cells JY t kx)
def rb.mono{P:Program}{F RG:Nat→Option Obj}(h:rb P F)(du:∀b aO,F b=some aO→RG b=some aO):rb P RG:=⟨λg hg=>by
 obtain⟨cs,t,kx,fk,Z,aa,aj⟩:=h.1 g hg;exact⟨cs,t,kx,fk,du _ _ Z,aa,aj⟩,λg hg=>by
 obtain⟨t,kx,Z⟩:=h.2 g hg;exact⟨t,kx,du _ _ Z⟩⟩
def kV(P:Program)(T:TypeId)(n:Nat)(cs:List aP):Prop:=∀e,e∈cs→∀r off u,e.d = .cb r off u→liesAt P P.depth T (n / P.cellsOf T) off u 1=true
def Z2(P:Program)(T:TypeId)(vs:List Value)(cs:List aP):Prop:=(∀v,v∈vs→v.oneCell'=true)∧kV P T vs.length cs
def kV.sub{P:Program}{T:TypeId}{n:Nat}{cs cs':List aP}(h:kV P T n cs)(hs:∀e,e∈cs'→∃bU,bU∈cs∧bU.d=e.d):kV P T n cs':=λe he r off u hd=>by
 obtain⟨bU,Z,aa⟩:=hs e he;exact h bU Z r off u (aa.trans hd)
structure bw(P:Program)(K:Ctx)(M:Mem)(β:Nat→Option Nat)(st:aC)(tmps:Array Value)(w:World):Prop where
 e7:∀l e,st.at l=some e→ce M β (cc tmps w β l) e.d
 own:∀l e T,st.at l=some e→e.own=some T→pb P K.F M w T (cc tmps w β l)
 uniq:∀l cr e aX T T' b,st.at l=some e→e.own=some T→st.at cr=some aX→aX.own=some T'→
  hH (cc tmps w β l)=some b→hH (cc tmps w β cr)=some b→l=cr
 unbox:∀l e T b r cs,st.at l=some e→e.own=some T→hH (cc tmps w β l)=some b→look st.H r=some cs→β r≠some b
 box:∀r cs,look st.H r=some cs→∃b vs T,β r=some b∧w.heap[b]? = some (.cells ⟨vs⟩ T (0,0))∧vs.length=cs.length∧(∀o,M b o=none)∧K.F b=none∧Z2 P T vs cs
 inj:∀r df b cs cs',look st.H r=some cs→look st.H df=some cs'→β r=some b→β df=some b→r=df
 lt:∀r b,β r=some b→r<st.aK
 mem:∀b o v,M b o=some v→w.cell? ⟨b,o,none⟩=some v
 m0:K.z7.le M
 frame:∀b aO,K.F b=some aO→w.heap[b]? = some aO∧∀o,M b o=K.z7 b o
 iv:∀r b,K.kU r=some b→β r=some b
 iX:rb P K.F
 hG:(w.os,w.output)=K.hG
def aC.JZ{st:aC}{r i:Nat}{cs:List aP}(h:look st.H r=some cs):st.at (.cell r i)=cs[i]? := by simp [aC.at,h]
def Ec:∀{l:List D},sy l=true→∀d,d∈l→∀r off u,d ≠ .cb r off u
 |[],h,d,hd=>by cases hd
 |x::l,h,d,hd=>by
  have aa:sy l=true:=by cases x<;>first|exact h|cases h
  rcases List.mem_cons.1 hd with rfl|iY
  ·intro r off u e;subst e;cases h
  ·exact Ec aa d iY
def kV.RH{P:Program}{T:TypeId}{n r:Nat}{st bR:aC}{cs cs':List aP}(h:kV P T n cs)(Z:look st.H r=some cs)(aa:look bR.H r=some cs')
 (he:∀l aX,bR.at l=some aX→∃e,st.at l=some e∧(e.d=aX.d∨∀q off u,aX.d ≠ .cb q off u)):kV P T n cs':=λe hm q off u hd=>by
 obtain⟨i,hi,rfl⟩:=List.getElem_of_mem hm;obtain⟨bU,g1,g2⟩:=he (.cell r i) cs'[i] (by rw [aC.JZ aa];exact List.getElem?_eq_getElem hi)
 rw [aC.JZ Z]at g1;rcases g2 with g2|g2
 ·exact h bU (List.mem_of_getElem? g1) q off u (g2.trans hd)
 ·exact absurd hd (g2 q off u)
def dC{α:Type}(j:Nat)(x:α)(l:List (Nat×α))(i:Nat):look ((j,x)::l) i=if j=i then some x else look l i:=by
 by_cases h:j=i
 ·simp [look,h]
 ·have:Nat.beq j i=false:=by rw [Bool.eq_false_iff];simpa using h
  simp [look,h,this]
def p7{α:Type}(l:List (Nat×α))(t i:Nat):look (del l t) i=if t=i then none else look l i:=by
 induction l with
 |nil=>simp [del,look]
 |cons x l aF=>
  obtain⟨j,x⟩:=x;by_cases h:j=t
  ·subst h;have:Nat.beq j j=true:=by simp
   simp only [del,this,cond_true,aF,dC];by_cases aa:j=i<;>simp [aa]
  ·have cq:Nat.beq j t=false:=by rw [Bool.eq_false_iff];simpa using h
   simp only [del,cq,cond_false,dC,aF];by_cases aa:j=i
   ·subst aa;simp [Ne.symm h]
   ·simp [aa]
def cell_of_heap{w:World}{b o:Nat}{vs:List Value}{T:TypeId}{ou:Nat×Nat}(h:w.heap[b]? = some (.cells ⟨vs⟩ T ou)):w.cell? ⟨b,o,none⟩=vs[o]? := by
 simp [World.cell?,h]
def lt_of_heap{w:World}{b:Nat}{aO:Obj}(h:w.heap[b]? = some aO):b<w.heap.size:=by
 rcases Nat.lt_or_ge b w.heap.size with cq|cq
 ·exact cq
 ·simp [Array.getElem?_eq_none cq]at h
def lt_of_cell{w:World}{b o:Nat}{v:Value}(h:w.cell? ⟨b,o,none⟩=some v):b<w.heap.size:=by
 unfold World.cell? at h;split at h
 ·rename_i bh;exact lt_of_heap bh
 ·cases h
def re{w w':World}{b o:Nat}(h:w'.heap[b]? = w.heap[b]?):w'.cell? ⟨b,o,none⟩=w.cell? ⟨b,o,none⟩:=by
 simp [World.cell?,h]
section
variable {P:Program} {K:Ctx} {M M':Mem} {β β':Nat→Option Nat} {st bR:aC} {tmps fs:Array Value} {w w':World}
def pb.lt{F:Nat→Option Obj}{T:TypeId}{v:Value}{b:Nat}(h:pb P F M w T v)(hb:hH v=some b):b<w.heap.size:=by
 rcases h with rfl|⟨bo,n,cap,vs,T',rfl,_,bh,_⟩
 ·simp [hH]at hb
 ·simp [hH]at hb;subst hb;exact lt_of_heap bh
def pb.free{F:Nat→Option Obj}{T:TypeId}{v:Value}{b:Nat}(h:pb P F M w T v)(hb:hH v=some b):F b=none:=by
 rcases h with rfl|⟨bo,n,cap,vs,T',rfl,_,bh,_,_,du,_⟩
 ·simp [hH]at hb
 ·simp [hH]at hb;subst hb;exact du
def pb.congr{F:Nat→Option Obj}{T:TypeId}{v:Value}(h:pb P F M w T v)(hw:∀b,hH v=some b→w'.heap[b]? = w.heap[b]?)(cF:∀b o,hH v=some b→M' b o=M b o):
 pb P F M' w' T v:=by
 rcases h with rfl|⟨bo,n,cap,vs,T',rfl,Z,bh,aa,aj,du⟩
 ·exact .inl rfl
 ·exact .inr ⟨bo,n,cap,vs,T',rfl,Z,(hw bo rfl).trans bh,aa,λo an=>(cF bo o rfl).trans (aj o an),du⟩
def J0(h:bw P K M β st tmps w){r i:Nat}{cs:List aP}{e:aP}(ah:look st.H r=some cs)(hi:cs[i]? = some e):
 ∃b vs T v,β r=some b∧w.heap[b]? = some (.cells ⟨vs⟩ T (0,0))∧vs[i]? = some v∧cc tmps w β (.cell r i)=v:=by
 obtain⟨b,vs,T,hb,bh,ab,_⟩:=h.box r cs ah;have J1:i<cs.length:=(List.getElem?_eq_some_iff.1 hi).1;have am:vs[i]? = some vs[i]:=List.getElem?_eq_getElem (by omega)
 exact⟨b,vs,T,_,hb,bh,am,by simp only [cc,hb,cell_of_heap bh,am,Option.getD_some]⟩
def bw.z8(h:bw P K M β st tmps w){r b:Nat}{cs:List aP}(ah:look st.H r=some cs)(hb:β r=some b):b<w.heap.size:=by
 obtain⟨bo,vs,T,bI,bh,_⟩:=h.box r cs ah;rw [hb]at bI;cases bI;exact lt_of_heap bh
def bw.free(h:bw P K M β st tmps w)(b:Nat)(du:K.F b=none)(ux:∀r cs,look st.H r=some cs→β r≠some b)
 (fW:∀l e T,st.at l=some e→e.own=some T→hH (cc tmps w β l)≠some b)
 (hw:∀bo,bo≠b→bo<w.heap.size→w'.heap[bo]? = w.heap[bo]?) (cF:M.le M') (Ed:∀bo o,bo≠b→M' bo o=M bo o)
 (w5:∀o v,M' b o=some v→w'.cell? ⟨b,o,none⟩=some v) (ov:(w'.os,w'.output)=(w.os,w.output):=by rfl):bw P K M' β st tmps w':=by
 have b':∀l e,st.at l=some e→cc tmps w' β l=cc tmps w β l:=by
  intro l e ab;cases l with
  |slot s=>rfl
  |cell r i=>
   simp only [aC.at]at ab;cases ah:look st.H r with
   |none=>simp [ah]at ab
   |some cs=>
    obtain⟨cG,vs,T,cZ,bh,_⟩:=h.box r cs ah;have dj:cG≠b:=λe=>ux r cs ah (e ▸ cZ)
    simp only [cc,cZ];rw [re (hw cG dj (lt_of_heap bh))]
 constructor
 ·intro l e ab;rw [b' l e ab];exact(h.e7 l e ab).mono cF
 ·intro l e T ab aA;rw [b' l e ab];refine(h.own l e T ab aA).congr (λcG cZ=>hw cG ?_ ((h.own l e T ab aA).lt cZ)) (λcG o cZ=>Ed cG o ?_) <;>
  ·rintro rfl;exact fW l e T ab aA cZ
 ·intro l cr e aX T T' cG ab aA dk dJ hb bI;rw [b' l e ab]at hb;rw [b' cr aX dk]at bI;exact h.uniq l cr e aX T T' cG ab aA dk dJ hb bI
 ·intro l e T cG r cs ab aA hb ah;rw [b' l e ab]at hb;exact h.unbox l e T cG r cs ab aA hb ah
 ·intro r cs ah;obtain⟨cG,vs,T,cZ,bh,Z,aa,aj⟩:=h.box r cs ah;have dj:cG≠b:=λe=>ux r cs ah (e ▸ cZ)
  exact⟨cG,vs,T,cZ,(hw cG dj (lt_of_heap bh)).trans bh,Z,λo=>(Ed cG o dj).trans (aa o),aj⟩
 ·exact h.inj
 ·exact h.lt
 ·intro cG o v am;by_cases dj:cG=b
  ·subst dj;exact w5 o v am
  ·rw [Ed cG o dj]at am;have:=h.mem cG o v am
   rw [re (hw cG dj (lt_of_cell this))];exact this
 ·exact Mem.le_trans h.m0 cF
 ·intro cG aO cZ;have dj:cG≠b:=by rintro rfl;rw [du]at cZ;cases cZ
  obtain⟨Z,aa⟩:=h.frame cG aO cZ;exact⟨(hw cG dj (lt_of_heap Z)).trans Z,λo=>(Ed cG o dj).trans (aa o)⟩
 ·exact h.iv
 ·exact h.iX
 ·exact ov.trans h.hG
def bw.grow(h:bw P K M β st tmps w)(hw:∀b,b<w.heap.size→w'.heap[b]? = w.heap[b]?)(ov:(w'.os,w'.output)=(w.os,w.output):=by rfl):bw P K M β st tmps w':=by
 have hn:∀b,w.heap.size≤b→K.F b=none:=by
  intro b hb;cases du:K.F b with
  |none=>rfl
  |some aO=>have:=lt_of_heap (h.frame b aO du).1;omega
 refine h.free w.heap.size (hn _ (Nat.le_refl _)) ?_ ?_ (λb _ hb=>hw b hb) (Mem.le_refl _) (λ_ _ _=>rfl) ?_ ov
 ·intro r cs ah hb;have:=h.z8 ah hb;omega
 ·intro l e T ab aA hb;have:=(h.own l e T ab aA).lt hb;omega
 ·intro o v am;have:=lt_of_cell (h.mem _ _ _ am);omega
def bw.sub(h:bw P K M β st tmps w)(hn:bR.aK=st.aK)
 (he:∀l aX,bR.at l=some aX→∃e,st.at l=some e∧e.d=aX.d∧∀T,aX.own=some T→e.own=some T)
 (eU:∀r cs',look bR.H r=some cs'→∃cs,look st.H r=some cs∧cs.length=cs'.length):bw P K M β bR tmps w:=by
 constructor
 ·intro l aX ab;obtain⟨e,Z,aa,_⟩:=he l aX ab;rw [←aa];exact h.e7 l e Z
 ·intro l aX T ab aA;obtain⟨e,Z,_,aj⟩:=he l aX ab;exact h.own l e T Z (aj T aA)
 ·intro l cr e aX T T' b ab aA dk dJ;obtain⟨e1,Z,_,aj⟩:=he l e ab;obtain⟨e2,mQ,_,Ee⟩:=he cr aX dk;exact h.uniq l cr e1 e2 T T' b Z (aj T aA) mQ (Ee T' dJ)
 ·intro l e T b r cs ab aA hb ah;obtain⟨e1,Z,_,aj⟩:=he l e ab;obtain⟨uy,iZ,_⟩:=eU r cs ah;exact h.unbox l e1 T b r uy Z (aj T aA) hb iZ
 ·intro r cs ah;obtain⟨uy,iZ,hlen⟩:=eU r cs ah;obtain⟨b,vs,T,Z,aa,aj,aD,aV,bP,dF⟩:=h.box r uy iZ
  exact⟨b,vs,T,Z,aa,aj.trans hlen,aD,aV,bP,dF.RH iZ ah λl aX ab=>by
   obtain⟨e,g1,g2,_⟩:=he l aX ab;exact⟨e,g1,.inl g2⟩⟩
 ·intro r df b cs cs' ah fJ hb bI;obtain⟨c1,Z,_⟩:=eU r cs ah;obtain⟨c2,aa,_⟩:=eU df cs' fJ;exact h.inj r df b c1 c2 Z aa hb bI
 ·intro r b hb;rw [hn];exact h.lt r b hb
 ·exact h.mem
 ·exact h.m0
 ·exact h.frame
 ·exact h.iv
 ·exact h.iX
 ·exact h.hG
def bw.Z3(h:bw P K M β st tmps w)(hn:bR.aK=st.aK)
 (he:∀l aX,bR.at l=some aX→∃e,st.at l=some e∧((e.d=aX.d∧∀T,aX.own=some T→e.own=some T)∨∃k g,e.d = .v (.om k g)∧aX.d = .v (.bq k 0 g)))
 (eU:∀r cs',look bR.H r=some cs'→∃cs,look st.H r=some cs∧cs.length=cs'.length):bw P K M β bR tmps w:=by
 have pc:∀l e k g,st.at l=some e→e.d = .v (.om k g)→cc tmps w β l = .slice none 0 0:=by
  intro l e k g ab hd;have:=h.e7 l e ab
  rw [hd]at this;generalize cc tmps w β l=u at this ⊢
  cases this with
  |v u x hx=>cases hx;rfl
 constructor
 ·intro l aX ab;obtain⟨e,Z,⟨aa,_⟩|⟨k,g,aa,aj⟩⟩:=he l aX ab
  ·rw [←aa];exact h.e7 l e Z
  ·rw [aj,pc l e k g Z aa];exact .v _ _ (.mh k g)
 ·intro l aX T ab aA;obtain⟨e,Z,⟨_,aj⟩|⟨k,g,aa,aj⟩⟩:=he l aX ab
  ·exact h.own l e T Z (aj T aA)
  ·exact .inl (pc l e k g Z aa)
 ·intro l cr e aX T T' b ab aA dk dJ hb bI;obtain⟨e1,Z,⟨_,aj⟩|⟨k,g,aa,aj⟩⟩:=he l e ab
  ·obtain⟨e2,mQ,⟨_,Ee⟩|⟨k,g,Z4,Ee⟩⟩:=he cr aX dk
   ·exact h.uniq l cr e1 e2 T T' b Z (aj T aA) mQ (Ee T' dJ) hb bI
   ·rw [pc cr e2 k g mQ Z4]at bI;cases bI
  ·rw [pc l e1 k g Z aa]at hb;cases hb
 ·intro l e T b r cs ab aA hb ah;obtain⟨uy,iZ,_⟩:=eU r cs ah;obtain⟨e1,Z,⟨_,aj⟩|⟨k,g,aa,aj⟩⟩:=he l e ab
  ·exact h.unbox l e1 T b r uy Z (aj T aA) hb iZ
  ·rw [pc l e1 k g Z aa]at hb;cases hb
 ·intro r cs ah;obtain⟨uy,iZ,hlen⟩:=eU r cs ah;obtain⟨b,vs,T,Z,aa,aj,aD,aV,bP,dF⟩:=h.box r uy iZ
  exact⟨b,vs,T,Z,aa,aj.trans hlen,aD,aV,bP,dF.RH iZ ah λl aX ab=>by
   obtain⟨e,g1,⟨g2,_⟩|⟨k,g,_,g3⟩⟩:=he l aX ab
   ·exact⟨e,g1,.inl g2⟩
   ·exact⟨e,g1,.inr λq off u ak=>by rw [g3]at ak;cases ak⟩⟩
 ·intro r df b cs cs' ah fJ hb bI;obtain⟨c1,Z,_⟩:=eU r cs ah;obtain⟨c2,aa,_⟩:=eU df cs' fJ;exact h.inj r df b c1 c2 Z aa hb bI
 ·intro r b hb;rw [hn];exact h.lt r b hb
 ·exact h.mem
 ·exact h.m0
 ·exact h.frame
 ·exact h.iv
 ·exact h.iX
 ·exact h.hG
structure mR(P:Program)(K:Ctx)(M:Mem)(β:Nat→Option Nat)(st:aC)(tmps:Array Value)(w:World)(l0:Loc)(v:Value)(T:TypeId):Prop where
 own:pb P K.F M w T v
 apart:∀l e T' b,st.at l=some e→e.own=some T'→l≠l0→hH v=some b→hH (cc tmps w β l)≠some b
 unbox:∀b r cs,hH v=some b→look st.H r=some cs→β r≠some b
def bw.put(h:bw P K M β st tmps w){t:Nat}{v:Value}{e:aP}(aB:t<tmps.size)(am:ce M β v e.d)
 (an:∀T,e.own=some T→mR P K M β st tmps w (.slot t) v T):
 bw P K M β {st with env:=(t,e)::st.env} (tmps.setIfInBounds t v) w:=by
 have fX:∀l,({st with env:=(t,e)::st.env}:aC).at l=if l = .slot t then some e else st.at l:=by
  intro l;cases l with
  |slot s=>
   simp only [aC.at,dC,Loc.slot.injEq];by_cases hs:t=s
   ·subst hs;simp
   ·simp [hs,Ne.symm hs]
  |cell r i=>simp [aC.at]
 have b':∀l,cc (tmps.setIfInBounds t v) w β l=if l = .slot t then v else cc tmps w β l:=by
  intro l;cases l with
  |slot s=>
   simp only [cc,Loc.slot.injEq];by_cases hs:s=t
   ·subst hs;simp [aB]
   ·simp [hs,Ne.symm hs]
  |cell r i=>simp [cc]
 constructor
 ·intro l e1 ab;rw [fX]at ab;rw [b'];by_cases h0:l = .slot t
  ·simp only [h0,if_true]at ab ⊢;cases ab;exact am
  ·simp only [h0,if_false]at ab ⊢;exact h.e7 l e1 ab
 ·intro l e1 T ab aA;rw [fX]at ab;rw [b'];by_cases h0:l = .slot t
  ·simp only [h0,if_true]at ab ⊢;cases ab;exact(an T aA).own
  ·simp only [h0,if_false]at ab ⊢;exact h.own l e1 T ab aA
 ·intro l cr e1 e2 T T' b ab aA dk dJ hb bI;rw [fX]at ab dk;rw [b']at hb bI;by_cases h0:l = .slot t<;>by_cases sD:cr = .slot t
  ·rw [h0,sD]
  ·simp only [h0,sD,if_true,if_false]at ab dk hb bI;cases ab;exact absurd bI ((an T aA).apart cr e2 T' b dk dJ sD hb)
  ·simp only [h0,sD,if_true,if_false]at ab dk hb bI;cases dk;exact absurd hb ((an T' dJ).apart l e1 T b ab aA h0 bI)
  ·simp only [h0,sD,if_false]at ab dk hb bI;exact h.uniq l cr e1 e2 T T' b ab aA dk dJ hb bI
 ·intro l e1 T b r cs ab aA hb ah;rw [fX]at ab;rw [b']at hb;by_cases h0:l = .slot t
  ·simp only [h0,if_true]at ab hb;cases ab;exact(an T aA).unbox b r cs hb ah
  ·simp only [h0,if_false]at ab hb;exact h.unbox l e1 T b r cs ab aA hb ah
 ·exact h.box
 ·exact h.inj
 ·exact h.lt
 ·exact h.mem
 ·exact h.m0
 ·exact h.frame
 ·exact h.iv
 ·exact h.iX
 ·exact h.hG
def bw.drop(h:bw P K M β st tmps w){t:Nat}{v:Value}:bw P K M β {st with env:=del st.env t} (tmps.setIfInBounds t v) w:=by
 have fX:∀l,({st with env:=del st.env t}:aC).at l=if l = .slot t then none else st.at l:=by
  intro l;cases l with
  |slot s=>
   simp only [aC.at,p7,Loc.slot.injEq];by_cases hs:t=s
   ·subst hs;simp
   ·simp [hs,Ne.symm hs]
  |cell r i=>simp [aC.at]
 have Z:bw P K M β {st with env:=del st.env t} tmps w:=by
  refine h.sub rfl (λl aX ab=>?_) (λr cs ah=>⟨cs,ah,rfl⟩)
  rw [fX]at ab;by_cases h0:l = .slot t
  ·simp [h0]at ab
  ·simp only [h0,if_false]at ab;exact⟨aX,ab,rfl,λ_ h=>h⟩
 have b':∀l e,({st with env:=del st.env t}:aC).at l=some e→cc (tmps.setIfInBounds t v) w β l=cc tmps w β l:=by
  intro l e ab;cases l with
  |slot s=>
   have hs:t≠s:=by rintro rfl;simp [aC.at,p7]at ab
   simp [cc,hs]
  |cell r i=>rfl
 constructor
 ·intro l e ab;rw [b' l e ab];exact Z.e7 l e ab
 ·intro l e T ab aA;rw [b' l e ab];exact Z.own l e T ab aA
 ·intro l cr e aX T T' b ab aA dk dJ hb bI;rw [b' l e ab]at hb;rw [b' cr aX dk]at bI;exact Z.uniq l cr e aX T T' b ab aA dk dJ hb bI
 ·intro l e T b r cs ab aA hb ah;rw [b' l e ab]at hb;exact Z.unbox l e T b r cs ab aA hb ah
 ·exact Z.box
 ·exact Z.inj
 ·exact Z.lt
 ·exact Z.mem
 ·exact Z.m0
 ·exact Z.frame
 ·exact Z.iv
 ·exact Z.iX
 ·exact Z.hG
def bw.Z5(h:bw P K M β st tmps w){gr n':Nat}(lP:∀b,β gr≠some b)(Z6:gr<n')(alT:st.aK≤n'){vs:List Value}{T:TypeId}{cs:List aP}(hlen:vs.length=cs.length)(iJ:∀v,v∈vs→v.oneCell'=true)(hlies:kV P T vs.length cs)
 (am:∀(i:Nat) v e,vs[i]? = some v→cs[i]? = some e→ce M β v e.d∧∀T,e.own=some T→v = .slice none 0 0):
 bw P K M (λr=>if r=gr then some w.heap.size else β r) {st with H:=(gr,cs)::st.H,aK:=n'} tmps {w with heap:=w.heap.push (.cells ⟨vs⟩ T (0,0))}:=by
 have RI:∀r b,β r=some b→r≠gr:=λr b hb e=>lP b (e ▸ hb)
 have cZ:∀r b,β r=some b→(λr=>if r=gr then some w.heap.size else β r) r=some b:=by
  intro r b hb;simp [RI r b hb,hb]
 have gj:∀{v d},ce M β v d→ce M (λr=>if r=gr then some w.heap.size else β r) v d:=by
  intro v d hd;refine hd.JW ?_;exact cZ
 have hg:=h.grow (w':={w with heap:=w.heap.push (.cells ⟨vs⟩ T (0,0))}) (λb hb=>by simp [Array.getElem?_push,Nat.ne_of_lt hb])
 have hold:∀r cs,r≠gr→look ((gr,cs)::st.H) r=look st.H r:=λr cs dj=>by simp [dC,Ne.symm dj]
 have Z7:∀r cs,look st.H r=some cs→r≠gr:=λr cs ah=>by obtain⟨b,_,_,hb,_⟩:=h.box r cs ah;exact RI r b hb
 have b':∀l e,st.at l=some e→cc tmps {w with heap:=w.heap.push (.cells ⟨vs⟩ T (0,0))} (λr=>if r=gr then some w.heap.size else β r) l=cc tmps {w with heap:=w.heap.push (.cells ⟨vs⟩ T (0,0))} β l:=by
  intro l e ab;cases l with
  |slot s=>rfl
  |cell r i=>
   simp only [aC.at]at ab;cases ah:look st.H r with
   |none=>simp [ah]at ab
   |some c=>simp [cc,Z7 r c ah]
 have RJ:∀i e,cs[i]? = some e→∃v,vs[i]? = some v∧cc tmps {w with heap:=w.heap.push (.cells ⟨vs⟩ T (0,0))} (λr=>if r=gr then some w.heap.size else β r) (.cell gr i)=v:=by
  intro i e hi;have J1:i<cs.length:=(List.getElem?_eq_some_iff.1 hi).1;have eH:vs[i]? = some vs[i]:=List.getElem?_eq_getElem (by omega)
  exact⟨_,eH,by simp [cc,World.cell?,hlen ▸ J1]⟩
 have fX:∀l e,({st with H:=(gr,cs)::st.H,aK:=n'}:aC).at l=some e→(∃i,l = .cell gr i∧cs[i]? = some e)∨(st.at l=some e∧∀i,l ≠ .cell gr i):=by
  intro l e ab;cases l with
  |slot s=>exact .inr ⟨ab,by simp⟩
  |cell r i=>
   by_cases ah:r=gr
   ·subst ah;simp [aC.at,dC]at ab;exact .inl ⟨i,rfl,ab⟩
   ·refine .inr ⟨?_,by simp [ah]⟩
    simpa [aC.at,dC,Ne.symm ah]using ab
 have j':∀l e T',({st with H:=(gr,cs)::st.H,aK:=n'}:aC).at l=some e→e.own=some T'→(∃i,l = .cell gr i)→cc tmps {w with heap:=w.heap.push (.cells ⟨vs⟩ T (0,0))} (λr=>if r=gr then some w.heap.size else β r) l = .slice none 0 0:=by
  rintro l e T' ab aA ⟨i,rfl⟩
  have hi:cs[i]? = some e:=by simpa [aC.at,dC]using ab
  obtain⟨v,Z,aa⟩:=RJ i e hi;rw [aa];exact(am i v e Z hi).2 T' aA
 constructor
 ·intro l e ab;rcases fX l e ab with⟨i,rfl,hi⟩|⟨an,_⟩
  ·obtain⟨v,Z,aa⟩:=RJ i e hi;rw [aa];exact gj (am i v e Z hi).1
  ·rw [b' l e an];exact gj (hg.e7 l e an)
 ·intro l e T' ab aA;rcases fX l e ab with⟨i,ml,hi⟩|⟨an,_⟩
  ·rw [j' l e T' ab aA ⟨i,ml⟩];exact .inl rfl
  ·rw [b' l e an];exact hg.own l e T' an aA
 ·intro l cr e aX gP pd b ab aA dk dJ hb bI;rcases fX l e ab with⟨i,ml,hi⟩|⟨an,_⟩
  ·rw [j' l e gP ab aA ⟨i,ml⟩]at hb;simp [hH]at hb
  ·rcases fX cr aX dk with⟨i,ml,hi⟩|⟨ky,_⟩
   ·rw [j' cr aX pd dk dJ ⟨i,ml⟩]at bI;simp [hH]at bI
   ·rw [b' l e an]at hb;rw [b' cr aX ky]at bI;exact hg.uniq l cr e aX gP pd b an aA ky dJ hb bI
 ·intro l e gP b r c ab aA hb ah;rcases fX l e ab with⟨i,ml,hi⟩|⟨an,_⟩
  ·rw [j' l e gP ab aA ⟨i,ml⟩]at hb;simp [hH]at hb
  ·rw [b' l e an]at hb
   have bm:b<w.heap.size:=by
    have Z:=(h.own l e gP an aA)
    have aa:cc tmps {w with heap:=w.heap.push (.cells ⟨vs⟩ T (0,0))} β l=cc tmps w β l:=by
     cases l with
     |slot s=>rfl
     |cell r i=>
      simp only [aC.at]at an;cases ah:look st.H r with
      |none=>simp [ah]at an
      |some c=>
       obtain⟨cG,kz,pd,fA,bh,_⟩:=h.box r c ah;simp only [cc,fA];rw [re (w:=w) (by simp [Array.getElem?_push,Nat.ne_of_lt (lt_of_heap bh)])]
    rw [aa]at hb;exact Z.lt hb
   by_cases jn:r=gr
   ·subst jn;simp;omega
   ·simp [jn];exact hg.unbox l e gP b r c an aA hb (by simpa [dC,Ne.symm jn]using ah)
 ·intro r c ah;by_cases jn:r=gr
  ·subst jn;simp [dC]at ah;subst ah;refine⟨w.heap.size,vs,T,by simp,by simp,hlen,λo=>?_,?_,iJ,hlies⟩
   ·cases hm:M w.heap.size o with
    |none=>rfl
    |some v=>have:=lt_of_cell (h.mem _ _ _ hm);omega
   ·cases du:K.F w.heap.size with
    |none=>rfl
    |some aO=>have:=lt_of_heap (h.frame _ aO du).1;omega
  ·obtain⟨b,kz,gP,Z,aa,aj⟩:=hg.box r c (by simpa [dC,Ne.symm jn]using ah)
   exact⟨b,kz,gP,by simp [jn,Z],aa,aj⟩
 ·intro r df b c lQ ah fJ hb bI;by_cases jn:r=gr<;>by_cases w6:df=gr
  ·rw [jn,w6]
  ·simp [jn]at hb;simp [w6]at bI;have:=h.z8 (by simpa [dC,Ne.symm w6]using fJ) bI
   omega
  ·simp [w6]at bI;simp [jn]at hb;have:=h.z8 (by simpa [dC,Ne.symm jn]using ah) hb
   omega
  ·simp [jn]at hb;simp [w6]at bI;exact h.inj r df b c lQ (by simpa [dC,Ne.symm jn]using ah) (by simpa [dC,Ne.symm w6]using fJ) hb bI
 ·intro r b hb;by_cases jn:r=gr
  ·subst jn;exact Z6
  ·simp [jn]at hb;have:=h.lt r b hb;simp;omega
 ·exact hg.mem
 ·exact hg.m0
 ·exact hg.frame
 ·intro r b hb;exact cZ r b (h.iv r b hb)
 ·exact hg.iX
 ·exact hg.hG
end
section
variable {P:Program} {K:Ctx} {M M':Mem} {β β':Nat→Option Nat} {st bR:aC} {tmps fs:Array Value} {w w':World}
def bw.J2(h:bw P K M β st tmps w){r b:Nat}{cs:List aP}(ah:look st.H r=some cs)(hb:β r=some b){vs vs':List Value}{T:TypeId}
 (bh:w.heap[b]? = some (.cells ⟨vs⟩ T (0,0))) {cs':List aP} (hlen:vs'.length=cs'.length) (iJ:∀v,v∈vs'→v.oneCell'=true) (hlies:kV P T vs.length cs→kV P T vs'.length cs') (dQ:cs'.length=cs.length)
 (nF:w'.heap[b]? = some (.cells ⟨vs'⟩ T (0,0))) (z':∀bo,bo≠b→w'.heap[bo]? = w.heap[bo]?) (i0:Nat)
 (am:∀(i:Nat) v e,vs'[i]? = some v→cs'[i]? = some e→ce M β v e.d∧∀T,e.own=some T→
  (i≠i0∧(∃bU,cs[i]? = some bU∧bU.own=some T)∧vs[i]? = some v)∨(i=i0∧mR P K M β st tmps w (.cell r i0) v T)) (ov:(w'.os,w'.output)=(w.os,w.output):=by rfl):
 bw P K M β {st with H:=(r,cs')::st.H} tmps w':=by
 have Ef:K.F b=none∧∀o,M b o=none:=by
  obtain⟨cG,_,_,Z,_,_,aa,aj,_⟩:=h.box r cs ah;rw [hb]at Z;cases Z;exact⟨aj,aa⟩
 have Z8:kV P T vs.length cs:=by
  obtain⟨cG,kz,gP,Z,aa,_,_,_,_,aj⟩:=h.box r cs ah;rw [hb]at Z;cases Z;rw [bh]at aa;cases aa;exact aj
 have hY:∀bo,bo≠b→∀o,w'.cell? ⟨bo,o,none⟩=w.cell? ⟨bo,o,none⟩:=λbo dj o=>re (z' bo dj)
 have dj:∀df c bo,look st.H df=some c→β df=some bo→df≠r→bo≠b:=λdf c bo fJ bI dj e=>dj (h.inj df r bo c cs fJ ah bI (e ▸ hb))
 have fX:∀l e,({st with H:=(r,cs')::st.H}:aC).at l=some e→(∃i v,l = .cell r i∧cs'[i]? = some e∧vs'[i]? = some v∧cc tmps w' β l=v)∨(st.at l=some e∧cc tmps w' β l=cc tmps w β l∧∀i,l ≠ .cell r i):=by
  intro l e ab;cases l with
  |slot s=>exact .inr ⟨ab,rfl,by simp⟩
  |cell df i=>
   by_cases kW:df=r
   ·subst kW;simp [aC.at,dC]at ab;have hi:i<cs'.length:=(List.getElem?_eq_some_iff.1 ab).1;have eH:vs'[i]? = some vs'[i]:=List.getElem?_eq_getElem (by omega)
    exact .inl ⟨i,_,rfl,ab,eH,by simp only [cc,hb,cell_of_heap nF,eH,Option.getD_some]⟩
   ·have dk:st.at (.cell df i)=some e:=by simpa [aC.at,dC,Ne.symm kW]using ab
    refine .inr ⟨dk,?_,by simp [kW]⟩
    simp only [aC.at]at dk;cases fJ:look st.H df with
    |none=>simp [fJ]at dk
    |some c=>
     obtain⟨cG,_,_,cZ,_⟩:=h.box df c fJ;simp only [cc,cZ];rw [hY cG (dj df c cG fJ cZ kW)]
 have fW:∀l e T,({st with H:=(r,cs')::st.H}:aC).at l=some e→e.own=some T→
  (l ≠ .cell r i0∧(∃bU,st.at l=some bU∧bU.own=some T)∧cc tmps w' β l=cc tmps w β l)∨(l = .cell r i0∧mR P K M β st tmps w (.cell r i0) (cc tmps w' β l) T):=by
  intro l e gP ab aA;rcases fX l e ab with⟨i,v,rfl,hi,eH,b'⟩|⟨an,b',iw⟩
  ·rcases(am i v e eH hi).2 gP aA with⟨Z9,⟨bU,J3,kA⟩,hold⟩|⟨rfl,hn⟩
   ·refine .inl ⟨by simp [Z9],⟨bU,by simp [aC.at,ah,J3],kA⟩,?_⟩
    rw [b'];simp only [cc,hb,cell_of_heap bh,hold,Option.getD_some]
   ·exact .inr ⟨rfl,by rw [b'];exact hn⟩
  ·exact .inl ⟨iw i0,⟨e,an,aA⟩,b'⟩
 have eU:∀df c,look ((r,cs')::st.H) df=some c→∃lQ,look st.H df=some lQ:=by
  intro df c hc;by_cases kW:r=df
  ·exact⟨cs,kW ▸ ah⟩
  ·exact⟨c,by simpa [dC,kW]using hc⟩
 constructor
 ·intro l e ab;rcases fX l e ab with⟨i,v,rfl,hi,eH,b'⟩|⟨an,b',iw⟩
  ·rw [b'];exact(am i v e eH hi).1
  ·rw [b'];exact h.e7 l e an
 ·intro l e gP ab aA;rcases fW l e gP ab aA with⟨_,⟨bU,h0,kA⟩,b'⟩|⟨rfl,hn⟩
  ·rw [b'];refine(h.own l bU gP h0 kA).congr (λcG cZ=>z' cG ?_) (λ_ _ _=>rfl)
   rintro rfl
   exact h.unbox l bU gP cG r cs h0 kA cZ ah hb
  ·refine hn.own.congr (λcG cZ=>z' cG ?_) (λ_ _ _=>rfl)
   rintro rfl
   exact hn.unbox cG r cs cZ ah hb
 ·intro l cr e aX gP pd cG ab aA dk dJ cZ uz;rcases fW l e gP ab aA with⟨hl0,⟨bU,h0,kA⟩,b'⟩|⟨rfl,hn⟩<;>rcases fW cr aX pd dk dJ with⟨Z',⟨w7,sD,z_⟩,p8⟩|⟨rfl,Eg⟩
  ·rw [b']at cZ;rw [p8]at uz;exact h.uniq l cr bU w7 gP pd cG h0 kA sD z_ cZ uz
  ·rw [b']at cZ;exact absurd cZ (Eg.apart l bU gP cG h0 kA hl0 uz)
  ·rw [p8]at uz;exact absurd uz (hn.apart cr w7 pd cG sD z_ Z' cZ)
  ·rfl
 ·intro l e gP cG df c ab aA cZ fJ;obtain⟨lQ,jG⟩:=eU df c fJ;rcases fW l e gP ab aA with⟨_,⟨bU,h0,kA⟩,b'⟩|⟨rfl,hn⟩
  ·rw [b']at cZ;exact h.unbox l bU gP cG df lQ h0 kA cZ jG
  ·exact hn.unbox cG df lQ cZ jG
 ·intro df c fJ;by_cases kW:r=df
  ·subst kW;simp [dC]at fJ;subst fJ;exact⟨b,vs',T,hb,nF,hlen,Ef.2,Ef.1,iJ,hlies Z8⟩
  ·have i7:look st.H df=some c:=by simpa [dC,kW]using fJ
   obtain⟨cG,kz,gP,Z,aa,aj⟩:=h.box df c i7;exact⟨cG,kz,gP,Z,(z' cG (dj df c cG i7 Z (Ne.symm kW))).trans aa,aj⟩
 ·intro r1 r2 cG c1 c2 iZ i7 cZ fA;obtain⟨Z_,Z⟩:=eU r1 c1 iZ;obtain⟨aaa,aa⟩:=eU r2 c2 i7;exact h.inj r1 r2 cG Z_ aaa Z aa cZ fA
 ·exact h.lt
 ·intro cG o v hm;by_cases p9:cG=b
  ·subst p9;rw [Ef.2 o]at hm;cases hm
  ·rw [hY cG p9];exact h.mem cG o v hm
 ·exact h.m0
 ·intro cG aO du;have p9:cG≠b:=by rintro rfl;rw [Ef.1]at du;cases du
  obtain⟨Z,aa⟩:=h.frame cG aO du;exact⟨(z' cG p9).trans Z,aa⟩
 ·exact h.iv
 ·exact h.iX
 ·exact ov.trans h.hG
def nG:∀(l:List Nat) (env:List (Nat×aP)) (s:Nat),
 look (gN l env) s=if s∈l then(look env s).map (λe=>{e with own:=none})else look env s
 |[],env,s=>by simp [gN]
 |t::l,env,s=>by
  have aF:=nG l env s;simp only [gN];cases aB:look env t with
  |none=>
   simp only [aF];by_cases hs:s=t
   ·subst hs;simp [aB]
   ·simp [hs]
  |some e=>
   simp only [dC];by_cases hs:t=s
   ·subst hs;simp [aB]
   ·simp [hs,Ne.symm hs,aF]
def bw.g0(h:bw P K M β st tmps w)(l:List Nat):bw P K M β {st with env:=gN l st.env} tmps w:=by
 refine h.sub rfl (λg' aX ab=>?_) (λr cs ah=>⟨cs,ah,rfl⟩)
 cases g' with
 |slot s=>
  simp only [aC.at,nG]at ab ⊢;by_cases hs:s∈l
  ·simp only [hs,if_true,Option.map_eq_some_iff]at ab;obtain⟨e,he,rfl⟩:=ab;exact⟨e,he,rfl,by simp⟩
  ·simp only [hs,if_false]at ab;exact⟨aX,ab,rfl,λ_ h=>h⟩
 |cell r i=>exact⟨aX,ab,rfl,λ_ h=>h⟩
def bw.hand(h:bw P K M β st tmps w){s:Nat}{e:aP}{T:TypeId}(hs:look st.env s=some e)(aA:e.own=some T)(l0:Loc):
 mR P K M β {st with env:=gN [s] st.env} tmps w l0 (tmps.getD s undef) T:=by
 have ab:st.at (.slot s)=some e:=hs;refine⟨h.own (.slot s) e T ab aA,λl aX T' b dk dJ _ hb bI=>?_,λb r cs hb ah=>h.unbox (.slot s) e T b r cs ab aA hb ah⟩
 have ep:∃e2,st.at l=some e2∧e2.own=some T'∧l ≠ .slot s:=by
  cases l with
  |slot sE=>
   simp only [aC.at,nG]at dk ⊢;by_cases J4:sE=s
   ·subst J4;simp at dk;obtain⟨_,_,rfl⟩:=dk;simp at dJ
   ·simp [J4]at dk;exact⟨aX,dk,dJ,by simp [J4]⟩
  |cell r i=>exact⟨aX,dk,dJ,by simp⟩
 obtain⟨e2,aa,ow,dj⟩:=ep;exact dj (h.uniq l (.slot s) e2 e T' T b aa ow ab aA bI hb)
def bw.RK(h:bw P K M β st tmps w){r i:Nat}{cs cs':List aP}{e:aP}{T:TypeId}(ah:look st.H r=some cs)(hi:cs[i]? = some e)(aA:e.own=some T)
 (dQ:cs'.length=cs.length) (mm:∀(j:Nat) aX,cs'[j]? = some aX→∃bU,cs[j]? = some bU∧bU.d=aX.d∧(∀T,aX.own=some T→bU.own=some T∧j≠i)) (l0:Loc):
 bw P K M β {st with H:=(r,cs')::st.H} tmps w∧mR P K M β {st with H:=(r,cs')::st.H} tmps w l0 (cc tmps w β (.cell r i)) T:=by
 have ab:st.at (.cell r i)=some e:=by simp [aC.at,ah,hi]
 have fX:∀l aX,({st with H:=(r,cs')::st.H}:aC).at l=some aX→∃bU,st.at l=some bU∧bU.d=aX.d∧∀T,aX.own=some T→bU.own=some T∧l ≠ .cell r i:=by
  intro l aX dk;cases l with
  |slot s=>exact⟨aX,dk,rfl,λT h=>⟨h,by simp⟩⟩
  |cell df j=>
   by_cases kW:r=df
   ·subst kW;simp [aC.at,dC]at dk;obtain⟨bU,Z,aa,aj⟩:=mm j aX dk;exact⟨bU,by simp [aC.at,ah,Z],aa,λT aA=>⟨(aj T aA).1,by simp [(aj T aA).2]⟩⟩
   ·refine⟨aX,by simpa [aC.at,dC,kW]using dk,rfl,λT h=>⟨h,by simp [Ne.symm kW]⟩⟩
 have eU:∀df c,look ((r,cs')::st.H) df=some c→∃lQ,look st.H df=some lQ∧lQ.length=c.length:=by
  intro df c hc;by_cases kW:r=df
  ·subst kW;simp [dC]at hc;subst hc;exact⟨cs,ah,dQ.symm⟩
  ·exact⟨c,by simpa [dC,kW]using hc,rfl⟩
 refine⟨h.sub rfl (λl aX dk=>?_) eU,h.own _ e T ab aA,λl aX T' b dk dJ _ hb bI=>?_,λb df c hb fJ=>?_⟩
 ·obtain⟨bU,Z,aa,aj⟩:=fX l aX dk;exact⟨bU,Z,aa,λT aA=>(aj T aA).1⟩
 ·obtain⟨bU,Z,_,aj⟩:=fX l aX dk;exact(aj T' dJ).2 (h.uniq l _ bU e T' T b Z (aj T' dJ).1 ab aA bI hb)
 ·obtain⟨lQ,Z,_⟩:=eU df c fJ;exact h.unbox _ e T b df lQ ab aA hb Z
def J5(l0:Loc)(T:TypeId):mR P K M β st tmps w l0 (.slice none 0 0) T:=
 ⟨.inl rfl,λ_ _ _ _ _ _ _ hb=>by simp [hH]at hb,λ_ _ _ hb=>by simp [hH]at hb⟩
def RL:∀{l:List Nat} {env nE:List (Nat×aP)},z1 env l=some nE→∀s e,look nE s=some e→look env s=some e
 |[],env,nE,h,s,e,he=>by simp [z1]at h;subst h;simp [look]at he
 |t::l,env,nE,h,s,e,he=>by
  simp only [z1]at h;split at h<;>simp at h
  rename_i e1 g' Z aa;subst h;rw [dC]at he;by_cases kX:t=s
  ·simp [kX]at he;subst he;rw [←kX];exact Z
  ·simp [kX]at he;exact RL aa s e he
def J6:∀{l:List Nat} {H bB:List (Nat×List aP)},z6 H l=some bB→∀s e,look bB s=some e→look H s=some e
 |[],env,nE,h,s,e,he=>by simp [z6]at h;subst h;simp [look]at he
 |t::l,env,nE,h,s,e,he=>by
  simp only [z6]at h;split at h<;>simp at h
  rename_i e1 g' Z aa;subst h;rw [dC]at he;by_cases kX:t=s
  ·simp [kX]at he;subst he;rw [←kX];exact Z
  ·simp [kX]at he;exact J6 aa s e he
def rf{α:Type}:∀{l:List (Nat×α)} {i:Nat} {x:α},look l i=some x→(i,x)∈l
 |[],_,_,h=>by simp [look]at h
 |(j,y)::l,i,x,h=>by
  rw [dC]at h;by_cases hj:j=i
  ·simp [hj]at h;subst h;simp [hj]
  ·simp [hj]at h;exact List.mem_cons_of_mem _ (rf h)
def J7{n:Nat}:∀{l:List aP} {i:Nat} {e:aP},sB n l=true→l[i]? = some e→below n e.d=true
 |[],_,_,_,h=>by simp at h
 |d::l,0,_,hb,h=>by simp [sB]at hb;simp at h;exact h ▸ hb.1
 |d::l,i+1,_,hb,h=>by simp [sB]at hb;simp at h;exact J7 hb.2 h
def bw.uw(h:bw P K M β st tmps w){live w8:List Nat}{n:Nat}(ah:Ab.uw live w8 n st.env st.H st.aK=some bR)(d9:∀r b,K.kU r=some b→r<n):
 ∃ β',bw P K M β' bR tmps w:=by
 unfold Ab.uw at ah;split at ah
 case h_2=>cases ah
 rename_i nE bB he eU;rw [Bool.cond_eq_ite]at ah;split at ah
 case isFalse=>cases ah
 rename_i hc;cases ah;simp only [Bool.and_eq_true,List.all_eq_true,Prod.forall,Nat.blt_eq,Nat.ble_eq]at hc;obtain⟨⟨hn,aab⟩,RM⟩:=hc
 have Z:bw P K M β {env:=nE,H:=bB,aK:=st.aK} tmps w:=by
  refine h.sub rfl (λl aX ab=>?_) (λr cs ah=>⟨cs,J6 eU _ _ ah,rfl⟩)
  refine⟨aX,?_,rfl,λ_ h=>h⟩
  cases l with
  |slot s=>exact RL he _ _ ab
  |cell r i=>
   simp only [aC.at]at ab ⊢;cases ah:look bB r with
   |none=>simp [ah]at ab
   |some c=>simp [ah]at ab;simp [J6 eU _ _ ah,ab]
 have mS:∀l e,({env:=nE,H:=bB,aK:=st.aK}:aC).at l=some e→below n e.d=true∧(∀r i,l = .cell r i→r<n):=by
  intro l e ab;cases l with
  |slot s=>exact⟨aab s e (rf ab),by simp⟩
  |cell r i=>
   simp only [aC.at]at ab;cases ah:look bB r with
   |none=>simp [ah]at ab
   |some c=>
    simp [ah]at ab;have:=RM r c (rf ah)
    exact⟨J7 this.2 ab,by rintro df mn h;cases h;exact this.1⟩
 refine⟨λr=>if r<n then β r else none,?_⟩
 have b':∀l e,({env:=nE,H:=bB,aK:=st.aK}:aC).at l=some e→cc tmps w (λr=>if r<n then β r else none) l=cc tmps w β l:=by
  intro l e ab;cases l with
  |slot s=>rfl
  |cell r i=>simp [cc,(mS _ _ ab).2 r i rfl]
 have jn:∀r c,look bB r=some c→r<n:=λr c ah=>(RM r c (rf ah)).1
 constructor
 ·intro l e ab;rw [b' l e ab];exact(Z.e7 l e ab).RF (λr ah=>by simp [ah]) (mS l e ab).1
 ·intro l e T ab aA;rw [b' l e ab];exact Z.own l e T ab aA
 ·intro l cr e aX T T' b ab aA dk dJ hb bI;rw [b' l e ab]at hb;rw [b' cr aX dk]at bI;exact Z.uniq l cr e aX T T' b ab aA dk dJ hb bI
 ·intro l e T b r cs ab aA hb ah;rw [b' l e ab]at hb;have:=Z.unbox l e T b r cs ab aA hb ah
  simpa [jn r cs ah]using this
 ·intro r cs ah;obtain⟨b,vs,T,aa,aj⟩:=Z.box r cs ah;exact⟨b,vs,T,by simpa [jn r cs ah]using aa,aj⟩
 ·intro r df b cs cs' ah fJ hb bI;exact Z.inj r df b cs cs' ah fJ (by simpa [jn r cs ah]using hb) (by simpa [jn df cs' fJ]using bI)
 ·intro r b hb;by_cases bm:r<n
  ·exact bm
  ·simp [bm]at hb
 ·exact Z.mem
 ·exact Z.m0
 ·exact Z.frame
 ·intro r b hb;simp [d9 r b hb,Z.iv r b hb]
 ·exact Z.iX
 ·exact Z.hG
end
def kY(P:Program):TypeDesc→Option lN
 |.int k=>some (.int k)
 |.bool=>some .bool
 |.string=>some .str
 |.struct cd=>some (.bT (cd.toList.map λf=>(f.offset,f.type,P.cellsOf f.type)))
 |.slice e=>some (.bq e)
 |.array n e=>some (.arr n e)
 |.pointer _=>some .ptr
 |.func _ _ _=>some .aS
 |.interface _=>some .oo
 |_=>none
def uA:Value→V→Bool
 |.int k n,.int k' n'=>decide (k=k')&&decide (n=n')
 |.bool a,.bool b=>a == b
 |.string s,.str l=>decide (s.data.toList=l)
 |.slice none 0 0,.bq _ n _=>Nat.beq n 0
 |.pointer none,.dW=>true
 |.nilIface,.h9=>true
 |.nilFunc,.aI=>true
 |_,_=>false
def uB:List Value→List V→Bool
 |[],[]=>true
 |v::vs,x::xs=>uA v x&&uB vs xs
 |_,_=>false
def w9(P:Program)(inner:TypeId→List Field→Bool):Nat→List Field→Bool
 |_,[]=>true
 | i, f :: l => Nat.beq f.offset i && !decide (f.name = "_") && (match P.underlying f.type with
  |some (.int _) |some .bool |some .string=>w9 P inner (i+1) l
  |some (.struct gs)=>inner f.type gs.toList&&w9 P inner (i+P.cellsOf f.type) l
  |_=>false)
def rh(P:Program):Nat→List Field→Nat
 | 0,cd=>cd.length
 |d+1,cd=>(cd.map λf=>match P.underlying f.type with
  |some (.struct gs)=>rh P d gs.toList
  |_=>1).sum
def uC(P:Program):Nat→Nat→List Field→Bool
 | 0=>w9 P λ_ _=>false
 |d+1=>w9 P λt gs=>!P.stoodInHeld t&&Nat.beq (P.cellsOf t) (rh P d gs)&&uC P d 0 gs
def J8(P:Program)(t:TypeId):Bool:=
 match P.underlying t with
 |some (.struct cd)=>!P.stoodInHeld t && !P.eqGuardType P.depth t&&uC P 4 0 cd.toList
 |_=>false
def RN(P:Program)(t:TypeId)(aE:en):Bool:=
 match P.info? t,P.underlying t with
 |some i,some d=>decide (kY P d=some aE.k)&&Nat.beq i.size aE.size&&Nat.beq i.bytes aE.bytes&&Nat.beq aE.zero.length aE.size &&
  aE.jl.all (λx=>liesAt P P.depth t (aE.size / P.cellsOf t) x.1 x.2 1) &&
  (match i.zero with|some z=>uB z.cells.toList aE.zero&&(match z with|.agg _=>aE.k.isAgg|.tuple _=>false|_=>!aE.k.isAgg)|none=>false)
 |_,_=>false
def e_(P:Program)(tt:dq):Bool:=tt.all λx=>RN P x.1 x.2
def J9{M:Mem}{v:Value}{x:V}(h:uA v x=true):cP M v x∧v.oneCell'=true:=by
 unfold uA at h;split at h<;>simp at h
 ·obtain⟨rfl,rfl⟩:=h;exact⟨.int _ _,rfl⟩
 ·subst h;exact⟨.bool _,rfl⟩
 ·rename_i s l;subst h;exact⟨by exact .str s.data.toList,rfl⟩
 ·subst h;exact⟨.mh _ _,rfl⟩
 ·exact⟨.dW,rfl⟩
 ·exact⟨.h9,rfl⟩
 ·exact⟨.aI,rfl⟩
def w_{M:Mem}:∀{vs:List Value} {xs:List V},uB vs xs=true→vs.length=xs.length∧(∀v,v∈vs→v.oneCell'=true)∧∀(i:Nat) v x,vs[i]? = some v→xs[i]? = some x→cP M v x∧uA v x=true
 |[],[],_=>by simp
 |[],_::_,h=>by simp [uB]at h
 |_::_,[],h=>by simp [uB]at h
 |v::vs,x::xs,h=>by
  simp [uB]at h;obtain⟨Z,aa,aj⟩:=w_ (M:=M) h.2;refine⟨by simp [Z],?_,?_⟩
  ·intro u hu;rcases List.mem_cons.1 hu with rfl|hu
   ·exact(J9 (M:=M) h.1).2
   ·exact aa u hu
  ·intro i u y hu bV;cases i with
   |zero=>simp at hu bV;subst hu;subst bV;exact⟨(J9 h.1).1,h.1⟩
   |succ i=>simp at hu bV;exact aj i u y hu bV
structure Row(P:Program)(t:TypeId)(aE:en) where
 info:TypeInfo
 desc:TypeDesc
 z:Value
 hi:P.info? t=some info
 hd:P.underlying t=some desc
 hk:kY P desc=some aE.k
 size:info.size=aE.size
 bytes:info.bytes=aE.bytes
 cx:info.zero=some z
 J':aE.zero.length=aE.size
 Aa:uB z.cells.toList aE.zero=true
 jl:(aE.jl.all λx=>liesAt P P.depth t (aE.size / P.cellsOf t) x.1 x.2 1)=true
 alU:match z with|.agg _=>aE.k.isAgg=true|.tuple _=>False|_=>aE.k.isAgg=false
theorem ee{P:Program}{tt:dq}(h:e_ P tt=true){t:TypeId}{aE:en}(aB:look tt t=some aE):Nonempty (Row P t aE):=by
 have hm:=rf aB;unfold e_ at h;rw [List.all_eq_true]at h;have:=h _ hm
 unfold RN at this
 dsimp only at this
 split at this
 case h_2=>cases this
 rename_i i d hi hd;simp only [Bool.and_eq_true,decide_eq_true_eq,Nat.beq_eq]at this;obtain⟨⟨⟨⟨⟨Z,aa⟩,aj⟩,aD⟩,mS⟩,aV⟩:=this;split at aV
 case h_2=>cases aV
 rename_i z cx;simp only [Bool.and_eq_true]at aV
 exact⟨⟨i,d,z,hi,hd,Z,aa,aj,cx,aD,aV.1,mS,by
  have:=aV.2
  cases z<;>simp at this<;>simp [this]⟩⟩
def Row.cellsOf{P:Program}{t:TypeId}{aE:en}(r:Row P t aE):P.cellsOf t=aE.size:=by
 simp [Program.cellsOf,r.hi,r.size]
section runs
variable {P:Program} {t:TypeId} {aE:en} (w:World)
def Row.run_sizeOf(r:Row P t aE):(sizeOf t).run P w = .ok aE.size w:=by
 rw [Go.run_sizeOf w r.hi,r.cellsOf]
def Row.Eh(r:Row P t aE):(zeroValue t).run P w = .ok r.z w:=by
 simp [zeroValue,typeInfo,r.hi,r.cx]
def Row.run_underlying(r:Row P t aE):(underlying t).run P w = .ok r.desc w:=Go.run_underlying r.hd w
def Row.xa(r:Row P t aE):(isAgg t).run P w = .ok aE.k.isAgg w:=by
 have hk:=r.hk;simp only [isAgg,Sem.run_bind,r.run_underlying,Result.andThen_ok];cases hd:r.desc<;>simp [hd,kY]at hk<;>simp [←hk,lN.isAgg]
end runs
def fB(tmps:Array Value)(p:Path):Prop:=∀x,x∈p→tmps.getD x.1 undef = .bool x.2
structure ft(P:Program)(K:Ctx)(N:Nat)(M:Mem)(β:Nat→Option Nat)(g:c8)(tmps:Array Value)(w:World):Prop where
 bd:bw P K M β {env:=g.env,H:=g.H,aK:=g.aK} tmps w
 size:tmps.size=N
 fresh:∀s id,look g.ids s=some id→look g.H id=none→∀b,β id≠some b
 cond:∀t q d,look g.bO t=some (q,d)→(fB tmps q→ce M β (tmps.getD t undef) d)∧(¬ fB tmps q→tmps.getD t undef=undef)
def Path.aac{q p:Path}(h:q.sub p=true){tmps:Array Value}(hp:fB tmps p):fB tmps q:=by
 intro x hx;unfold Path.sub at h;rw [List.all_eq_true]at h;have:=h x hx
 unfold Path.has at this;rw [List.any_eq_true]at this;obtain⟨y,bV,pe⟩:=this;simp at pe
 have Z:=hp y bV;rw [←pe.1,←pe.2];exact Z
def aad{M:Mem}{v:Value}{x:V}(h:JP v=some x):cP M v x:=by
 unfold JP at h;split at h<;>simp at h<;>subst h
 ·exact .int _ _
 ·exact .bool _
 ·rename_i s;exact .str s.data.toList
 ·exact .dW
 ·exact .h9
 ·exact .aI
def dK{P:Program}{K:Ctx}{N:Nat}{M:Mem}{β:Nat→Option Nat}{g:c8}{tmps:Array Value}{w:World}(h:ft P K N M β g tmps w){p:Path}(hp:fB tmps p){tt:dq}{ty:TypeId}{x:Operand}{d:D}
 (hx:rd g.env g.bO p tt ty x=some d) {ds:List Deferred}:ce M β ((⟨tmps,ds⟩:Act).eval x) d:=by
 cases x with
 |tmp t=>
  simp only [rd]at hx;split at hx
  ·rename_i q dv hc;rw [Bool.cond_eq_ite]at hx;split at hx<;>simp at hx
   subst hx;exact(h.cond t q dv hc).1 (Path.aac (by assumption) hp)
  ·simp only [Option.map_eq_some_iff]at hx;obtain⟨e,he,rfl⟩:=hx;exact h.bd.e7 (.slot t) e he
 |const v=>
  simp only [rd]at hx;split at hx
  ·rename_i heq;cases heq
  ·rename_i heq;cases heq;split at hx
   ·cases hx;exact .v _ _ (.mh _ _)
   ·cases hx
  ·rename_i heq;cases heq;simp only [Option.map_eq_some_iff]at hx;obtain⟨y,bV,rfl⟩:=hx;exact .v _ _ (aad bV)
  ·rename_i heq;cases heq
  ·rename_i heq;cases heq
 |global n=>simp [rd]at hx
 |func f=>
  simp [rd]at hx;subst hx;exact .fn f [] [] rfl (by simp)
def aae{v:Value}(h:v.oneCell'=true):v.cells = #[v]:=by
 cases v<;>first|rfl|(simp [Value.oneCell']at h)
def ce.cells{M:Mem}{β:Nat→Option Nat}{v:Value}{d:D}(h:ce M β v d)(aB:q9 d=false):
 v.cells.toList.length=(cellsD d).length∧(∀u,u∈v.cells.toList→u.oneCell'=true)∧∀(i:Nat) u c,v.cells.toList[i]? = some u→(cellsD d)[i]? = some c→ce M β u c:=by
 have single:∀{v:Value} {d:D},v.cells = #[v]→cellsD d=[d]→v.oneCell'=true→ce M β v d→
  v.cells.toList.length=(cellsD d).length∧(∀u,u∈v.cells.toList→u.oneCell'=true)∧∀(i:Nat) u c,v.cells.toList[i]? = some u→(cellsD d)[i]? = some c→ce M β u c:=by
  intro v d Z aa aj aD;rw [Z,aa];refine⟨rfl,by simpa using aj,λi u c hu hc=>?_⟩
  cases i with
  |zero=>simp at hu hc;subst hu;subst hc;exact aD
  |succ i=>simp at hu
 cases h with
 |v u x hx=>
  cases hx with
  |agg vs cs hn Z ah=>
   refine⟨by simp [Value.cells,cellsD,V.cells,hn],by simpa [Value.cells]using Z,λi u c hu hc=>?_⟩
   simp [Value.cells]at hu;simp [cellsD,V.cells]at hc;obtain⟨a,ha,rfl⟩:=hc;exact .v _ _ (ah i u a hu ha)
  |any v Z=>exact single (aae Z) rfl Z (.v _ _ (.any _ Z))
  |_=>exact single rfl rfl rfl (.v _ _ (by constructor<;>assumption))
 |ptr r off b hb=>exact single rfl rfl rfl (.ptr r off b hb)
 |lp r off u=>exact single rfl rfl rfl (.lp r off u)
 |cb r off b u hb=>exact single rfl rfl rfl (.cb r off b u hb)
 |eE b off x val cF Z ah=>exact single rfl rfl rfl (.eE b off x val cF Z ah)
 |full b k n get h=>exact single rfl rfl rfl (.full b k n get h)
 |fn f vs cs hn ah=>exact single rfl rfl rfl (.fn f vs cs hn ah)
 |agg vs cs hn Z ah=>exact⟨hn,Z,ah⟩
 |cn vs cs hn ah=>simp [q9]at aB
def aaf{cs:List D}:∀{xs:List V},zU cs=some xs→cs=xs.map .v:=by
 induction cs with
 |nil=>intro xs h;simp [zU]at h;subst h;rfl
 |cons d l aF=>
  intro xs h;cases d<;>simp [zU]at h
  obtain⟨ys,bV,rfl⟩:=h;simp [aF bV]
def Ei{M:Mem}{β:Nat→Option Nat}{vs:List Value}{cs:List D}(hn:vs.length=cs.length)(Z:∀v,v∈vs→v.oneCell'=true)
 (h:∀(i:Nat) v c,vs[i]? = some v→cs[i]? = some c→ce M β v c):ce M β (.agg ⟨vs⟩) (p1 cs):=by
 unfold p1;split
 ·rename_i xs hx;have:=aaf hx
  subst this;refine .v _ _ (.agg vs xs (by simpa using hn) Z λi v c am hc=>?_)
  have:=h i v (.v c) am (by simp [hc])
  cases this;assumption
 ·exact .agg vs cs hn Z h
section
variable {P:Program} {K:Ctx} {N:Nat} {M:Mem} {β:Nat→Option Nat} {st:aC} {g:c8} {tmps:Array Value} {w:World} {v:Value}
def lR{k:IntKind}{n:Int}(h:ce M β v (.v (.int k n))):v = .int k n:=by
 cases h with|v u x h=>cases h;rfl
def nH{x:V}(h:ce M β v (.v x)):cP M v x:=by
 cases h with|v u x h=>exact h
def uD{b:Bool}(h:ce M β v (.v (.bool b))):v = .bool b:=by
 cases h with|v u x h=>cases h;rfl
def mo{l:ano}(h:ce M β v (.v (.str l))):v = .string ⟨⟨l⟩⟩:=by
 cases h with|v u x h=>cases h;rfl
def ri{r off:Nat}(h:ce M β v (.ptr r off)):∃b,β r=some b∧v = .pointer (some ⟨b,off,none⟩):=by
 cases h with|ptr r off b h=>exact⟨b,h,rfl⟩
def J_{t:TypeId}{x:V}(h:ce M β v (.v (.iface t x))):∃u,v = .iface t u∧cP M u x:=by
 cases h with|v u x h=>cases h with|iface t u x h=>exact⟨u,rfl,h⟩
def aag{cs:List V}(h:ce M β v (.v (.agg cs))):∃vs:List Value,v = .agg ⟨vs⟩∧vs.length=cs.length∧(∀u,u∈vs→u.oneCell'=true)∧∀(i:Nat) u c,vs[i]? = some u→cs[i]? = some c→cP M u c:=by
 cases h with|v u x h=>cases h with|agg vs cs hn Z h=>exact⟨vs,rfl,hn,Z,h⟩
def aah{cs:List D}(h:ce M β v (.cn cs)):∃vs:List Value,v = .tuple ⟨vs⟩∧vs.length=cs.length∧∀(i:Nat) u c,vs[i]? = some u→cs[i]? = some c→ce M β u c:=by
 cases h with|cn vs cs hn h=>exact⟨vs,rfl,hn,h⟩
def RO{f:FuncId}{cs:List D}(h:ce M β v (.fn f cs)):∃vs:List Value,v = .func (.func f) #[] ⟨vs⟩∧vs.length=cs.length∧∀(i:Nat) u c,vs[i]? = some u→cs[i]? = some c→ce M β u c:=by
 cases h with|fn f vs cs hn h=>exact⟨vs,rfl,hn,h⟩
def sF{k n:Nat}{get:Nat→V}(h:ce M β v (.v (.bq k n get))):((v = .slice none 0 0∨∃a,v = .slice (some a) 0 0)∧n=0)∨
 ∃(b off cap:Nat) (val:Nat→Nat→Value),v = .slice (some ⟨b,off,none⟩) n cap∧n≤cap∧(∀i,i<n→(get i).cells.length=k)∧(∀i j,i<n→j<k→M b (off+i*k+j)=some (val i j))∧
  (∀i j,i<n→j<k→(val i j).oneCell'=true)∧(∀(i j:Nat) c,i<n→(get i).cells[j]? = some c→cP M (val i j) c):=by
 cases h with
 |v u x h=>
  cases h with
  |mh=>exact .inl ⟨.inl rfl,rfl⟩
  |p2 a=>exact .inl ⟨.inr ⟨a,rfl⟩,rfl⟩
  |bq b off k n cap get val hc hk cF Z h=>exact .inr ⟨b,off,cap,val,rfl,hc,hk,cF,Z,h⟩
def Ej{x:V}(h:ce M β v (.eE x)):∃(b off:Nat) (val:Nat→Value),v = .pointer (some ⟨b,off,none⟩)∧(∀j,j<x.cells.length→M b (off+j)=some (val j))∧(∀j,j<x.cells.length→(val j).oneCell'=true)∧
 (∀(j:Nat) c,x.cells[j]? = some c→cP M (val j) c):=by
 cases h with|eE b off x val cF Z h=>exact⟨b,off,val,rfl,cF,Z,h⟩
def uE{k n:Nat}{get:Nat→V}(h:ce M β v (.v (.bq k n get))):∃a cap,v = .slice a n cap∧n≤cap:=by
 rcases sF h with⟨rfl|⟨a,rfl⟩,rfl⟩|⟨b,off,cap,val,rfl,hc,_⟩
 ·exact⟨_,_,rfl,Nat.le_refl _⟩
 ·exact⟨_,_,rfl,Nat.le_refl _⟩
 ·exact⟨_,_,rfl,hc⟩
def addr_add(b off n:Nat):(⟨b,off,none⟩:Addr).add n=⟨b,off+n,none⟩:=by
 unfold Addr.add;split<;>simp_all
def xb{x:V}(hx:x.isAgg=false):x.cells=[x]:=by
 cases x<;>first|rfl|simp [V.isAgg]at hx
def RP{x:V}{val:Nat→Value}(Z:∀j,j<x.cells.length→(val j).oneCell'=true)(h:∀(j:Nat) c,x.cells[j]? = some c→cP M (val j) c):
 cP M (bif x.isAgg then .agg ⟨(List.range x.cells.length).map val⟩else val 0) x:=by
 cases hx:x.isAgg with
 |false=>
  have:=xb hx
  simpa using h 0 x (by simp [this])
 |true=>
  cases x<;>simp [V.isAgg]at hx
  rename_i cs;refine .agg _ cs (by simp [V.cells]) ?_ ?_
  ·intro u hu;obtain⟨j,hj,rfl⟩:=List.mem_map.1 hu;exact Z j (by simpa using hj)
  ·intro i u c hu hc;simp only [List.getElem?_map,Option.map_eq_some_iff]at hu;obtain⟨j,hj,rfl⟩:=hu
   have:j=i:=by
    rw [List.getElem?_eq_some_iff]at hj;obtain⟨_,h⟩:=hj;simpa using h.symm
   subst this;exact h j c hc
def aai{t:TypeId}{aE:en}(r:Row P t aE)(w5:∀b o v,M b o=some v→w.cell? ⟨b,o,none⟩=some v){x:V}(am:ce M β v (.eE x))(hx:x.isAgg=aE.k.isAgg)(hs:x.cells.length=aE.size):
 ∃u,(Instr.loadAt t v).run P w = .ok u w∧cP M u x:=by
 obtain⟨b,off,val,rfl,cF,Z,h⟩:=Ej am;refine⟨_,?_,RP Z h⟩
 have ab:∀j,j<aE.size→w.cell? ((⟨b,off,none⟩:Addr).add j)=some (val j):=λj hj=>by rw [addr_add];exact w5 _ _ _ (cF j (by omega))
 cases ha:x.isAgg with
 |true=>
  rw [ha]at hx;simp [Instr.loadAt,Instr.sureAddr,loadVar,r.xa,←hx,r.run_sizeOf,run_loadCells w ⟨b,off,none⟩ aE.size val ab,hs]
 |false=>
  rw [ha]at hx;have h0:=cF 0 (by rw [xb ha];simp)
  have:=w5 _ _ _ h0
  simp [Instr.loadAt,Instr.sureAddr,loadVar,r.xa,←hx,run_load];simp at this
  rw [this]
def RQ{t:TypeId}{aE:en}(r:Row P t aE){b off:Nat}{vs:List Value}{T:TypeId}{f:Nat×Nat}(bh:w.heap[b]? = some (.cells ⟨vs⟩ T f))(hle:off+aE.size≤vs.length)(ha:aE.k.isAgg=true):
 (Instr.loadAt t (.pointer (some ⟨b,off,none⟩))).run P w = .ok (.agg ⟨(vs.drop off).take aE.size⟩) w:=by
 have hlen:((vs.drop off).take aE.size).length=aE.size:=by simp;omega
 have:=run_loadCells_list (P:=P) w ⟨b,off,none⟩ ((vs.drop off).take aE.size) (λj u hj=>by
  rw [addr_add,cell_of_heap bh];rw [List.getElem?_take]at hj;split at hj
  ·simpa using hj
  ·cases hj)
 rw [hlen]at this;simp [Instr.loadAt,Instr.sureAddr,loadVar,r.xa,ha,r.run_sizeOf,this]
def Ka{t:TypeId}{aE:en}(r:Row P t aE){b off:Nat}{u:Value}(hc:w.cell? ⟨b,off,none⟩=some u)(ha:aE.k.isAgg=false):
 (Instr.loadAt t (.pointer (some ⟨b,off,none⟩))).run P w = .ok u w:=by
 simp [Instr.loadAt,Instr.sureAddr,loadVar,r.xa,ha,run_load,hc]
def Kb{t:TypeId}{aE:en}(r:Row P t aE){cd:List (Nat×TypeId×Nat)}(hk:aE.k = .bT cd):∃gs:Array Field,r.desc = .struct gs∧cd=gs.toList.map λf=>(f.offset,f.type,P.cellsOf f.type):=by
 have:=r.hk
 rw [hk]at this;cases hd:r.desc<;>simp [hd,kY]at this
 exact⟨_,rfl,this.symm⟩
def pf{t:TypeId}{aE:en}(r:Row P t aE){e:TypeId}(hk:aE.k = .bq e):r.desc = .slice e:=by
 have:=r.hk
 rw [hk]at this;cases hd:r.desc<;>simp [hd,kY]at this
 rw [this]
def p'{t:TypeId}{aE:en}(r:Row P t aE)(hk:aE.k = .str):r.desc = .string:=by
 have:=r.hk
 rw [hk]at this;cases hd:r.desc<;>simp [hd,kY]at this;rfl
def Ac{t:TypeId}{aE:en}(r:Row P t aE){k:IntKind}(hk:aE.k = .int k):r.desc = .int k:=by
 have:=r.hk
 rw [hk]at this;cases hd:r.desc<;>simp [hd,kY]at this
 rw [this]
def aaj{t:TypeId}{aE:en}(r:Row P t aE){n:Nat}{e:TypeId}(hk:aE.k = .arr n e):r.desc = .array n e:=by
 have:=r.hk
 rw [hk]at this;cases hd:r.desc<;>simp [hd,kY]at this
 rw [this.1,this.2]
def RR{s:TypeId}{aE:en}(r:Row P s aE){cd:List (Nat×TypeId×Nat)}(hk:aE.k = .bT cd){f dr hF e0:Nat}(bJ:cd[f]? = some (dr,hF,e0))(dR:1≤e0)(b off:Nat):
 (Instr.fieldAt s (.pointer (some ⟨b,off,none⟩)) f).run P w = .ok (.pointer (some ⟨b,off+dr,none⟩)) w:=by
 obtain⟨gs,hd,rfl⟩:=Kb r hk;simp only [List.getElem?_map,Option.map_eq_some_iff]at bJ;obtain⟨fd,jH,he⟩:=bJ;simp only [Prod.mk.injEq]at he;obtain⟨rfl,rfl,rfl⟩:=he;have Ek:gs[f]? = some fd:=by simpa using jH
 have hs:(sizeOf fd.type).run P w = .ok (P.cellsOf fd.type) w:=by
  cases hi:P.info? fd.type with
  |none=>simp [Program.cellsOf,hi]at dR
  |some i=>exact Go.run_sizeOf w hi
 have dj:P.cellsOf fd.type≠0:=by omega
 simp [Instr.fieldAt,r.run_underlying,hd,Ek,Instr.sureAddr,fieldPlace,hs,dj,addr_add]
def RS{s:TypeId}{aE:en}(r:Row P s aE){cd:List (Nat×TypeId×Nat)}(hk:aE.k = .bT cd){f dr hF e0:Nat}(bJ:cd[f]? = some (dr,hF,e0)){xc:en}(r2:Row P hF xc)(vs:List Value)(hle:dr+e0≤vs.length):
 (xc.k.isAgg=true→(Instr.field s (.agg ⟨vs⟩) f).run P w = .ok (.agg ⟨(vs.drop dr).take e0⟩) w)∧
 (xc.k.isAgg=false→∀u,vs[dr]? = some u→(Instr.field s (.agg ⟨vs⟩) f).run P w = .ok u w):=by
 obtain⟨gs,hd,rfl⟩:=Kb r hk;simp only [List.getElem?_map,Option.map_eq_some_iff]at bJ;obtain⟨fd,jH,he⟩:=bJ;simp only [Prod.mk.injEq]at he;obtain⟨rfl,rfl,rfl⟩:=he;have Ek:gs[f]? = some fd:=by simpa using jH
 have dR:=r2.cellsOf;refine⟨λha=>?_,λha u hu=>?_⟩
 ·simp [Instr.field,r.run_underlying,hd,Ek,asAgg,part,r2.xa,ha,r2.run_sizeOf,dR,List.extract_eq_take_drop]
 ·simp [Instr.field,r.run_underlying,hd,Ek,asAgg,part,r2.xa,ha,hu]
def aak{t:TypeId}{aE:en}(r:Row P t aE){e:TypeId}(hk:aE.k = .bq e){b1:en}(dy:Row P e b1){k:IntKind}{j:Int}{b off n cap:Nat}(h0:0≤j)(Z:j<n):
 (Instr.indexAt t (.slice (some ⟨b,off,none⟩) n cap) (.int k j)).run P w = .ok (.pointer (some ⟨b,off+j.toNat*b1.size,none⟩)) w:=by
 simp [Instr.indexAt,asIntOf,r.run_underlying,pf r hk,h0,Z,dy.run_sizeOf,addr_add]
def aal{t:TypeId}{aE:en}(r:Row P t aE)(hk:aE.k = .str){k:IntKind}{j:Int}{l:ano}(h0:0≤j)(Z:j<l.length):
 (Instr.index t (.string ⟨⟨l⟩⟩) (.int k j)).run P w = .ok (.int .u8 (l.getD j.toNat 0).toNat) w:=by
 have bm:j.toNat<l.length:=by omega
 have El:j.toNat<(ByteArray.mk ⟨l⟩).size:=bm;have hs:(ByteArray.mk ⟨l⟩)[j.toNat]? = some l[j.toNat]:=by rw [getElem?_pos (ByteArray.mk ⟨l⟩) j.toNat El];rfl
 simp [Instr.index,asIntOf,r.run_underlying,p' r hk,h0,hs,List.getElem?_eq_getElem bm]
def Em(l:ano):(⟨⟨l⟩⟩:ByteArray).toList=l:=by
 rw [ByteArray.toList_eq]
end
section
variable {P:Program} {K:Ctx} {N:Nat} {M:Mem} {β:Nat→Option Nat} {g:c8} {tmps:Array Value} {w:World} {o:Oper} {f:kR} {p:Path} {tt:dq} {bZ:ge} {ops:List Oper}
def after(g:c8)(f:kR):aC:={env:=gN f.g0 g.env,H:=f.hs++g.H,aK:=g.aK+f.eZ}
def bA(P:Program)(K:Ctx)(M:Mem)(β:Nat→Option Nat)(g:c8)(f:kR)(tmps:Array Value)(v:Value)(w':World):Prop:=
 ∃M' β',M.le M'∧(∀r b,β r=some b→β' r=some b)∧(∀r b,β' r=some b→β r=some b∨(look f.hs r).isSome=true)∧bw P K M' β' (after g f) tmps w'∧
  ∀e,f.e=some e→ce M' β' v e.d∧∀T l0,e.own=some T→mR P K M' β' (after g f) tmps w' l0 v T
def Yields(P:Program)(K:Ctx)(M:Mem)(β:Nat→Option Nat)(g:c8)(f:kR)(o:Oper)(tmps:Array Value)(w:World):Prop:=
 (∃v w',(execOp (Act.eval ⟨tmps,[]⟩) o).run P w = .ok (.value v) w'∧bA P K M β g f tmps v w')∨
 (f.e=none∧∃w',(execOp (Act.eval ⟨tmps,[]⟩) o).run P w = .ok .skip w'∧bA P K M β g f tmps undef w')∨
 (∃fn vs,(execOp (Act.eval ⟨tmps,[]⟩) o).run P w = .ok (.enter fn vs) w∧Calls P fn vs w λe w'=>∃v,e = .returned v∧bA P K M β g f tmps v w')
def eI(h:ft P K N M β g tmps w){v:Value}{d:D}(ah:(execOp (Act.eval ⟨tmps,[]⟩) o).run P w = .ok (.value v) w)(hd:ce M β v d){rs:List e6}{aO:List Prop}:
 Yields P K M β g {e:=some {d},rs,aO} o tmps w:=
 .inl ⟨v,w,ah,M,β,Mem.le_refl _,λ_ _ h=>h,λ_ _ h=>.inl h,h.bd,λe he=>by cases he;exact⟨hd,by simp⟩⟩
def i8(x:Sem Value){v:Value}{w':World}(h:x.run P w = .ok v w'):(do pure (.value (←x)):Sem Next).run P w = .ok (.value v) w':=by
 simp [h]
def En(h:ft P K N M β g tmps w)(hp:fB tmps p){x:Operand}(an:o.op = .move x∨o.op = .assign x){d:D}(hx:rd g.env g.bO p tt o.type x=some d):
 Yields P K M β g {e:=some {d},rs:=g.rs} o tmps w:=
 eI h (v:=(⟨tmps,[]⟩:Act).eval x) (by rcases an with an|an<;>simp [execOp,an]) (dK h hp hx)
def RT(h:ft P K N M β g tmps w)(hp:fB tmps p){t:Nat}(an:o.op = .move (.tmp t)∨o.op = .assign (.tmp t)){d:D}(hx:rd g.env g.bO p tt o.type (.tmp t)=some d)
 {s:TypeId} (hs:o8 g (.tmp t)=some s) {rs:List e6}:Yields P K M β g {e:=some {d,own:=some s},g0:=[t],rs} o tmps w:=by
 refine .inl ⟨(⟨tmps,[]⟩:Act).eval (.tmp t),w,by rcases an with an|an<;>simp [execOp,an],M,β,Mem.le_refl _,λ_ _ h=>h,λ_ _ h=>.inl h,?_,λe he=>?_⟩
 ·have:=h.bd.g0 [t];exact this
 ·cases he;refine⟨dK h hp hx,λT l0 aA=>?_⟩
  cases aA;simp only [o8,Option.bind_eq_some_iff]at hs;obtain⟨e,he,hs⟩:=hs;exact h.bd.hand he hs l0
def aam(h:ft P K N M β g tmps w)(hp:fB tmps p)(an:o.op = .assign (.const (.slice none 0 0))){d:D}(hx:rd g.env g.bO p tt o.type (.const (.slice none 0 0))=some d)(s:TypeId):
 Yields P K M β g {e:=some {d,own:=some s},rs:=g.rs} o tmps w:=by
 refine .inl ⟨.slice none 0 0,w,by simp [execOp,an,Act.eval],M,β,Mem.le_refl _,λ_ _ h=>h,λ_ _ h=>.inl h,h.bd,λe he=>?_⟩
 cases he;exact⟨dK (ds:=[]) h hp hx,λT l0 _=>J5 l0 T⟩
def aan(h:ft P K N M β g tmps w)(hp:fB tmps p){c:Nat}{a b:Operand}(an:o.op = .pick (.tmp c) a b){sz zY p6:Bool}(hc:rd g.env g.bO p tt o.type (.tmp c)=some (.v (.bool sz)))
 (ha:rd g.env g.bO ((c,true)::p) tt o.type a=some (.v (.bool zY))) (hb:rd g.env g.bO ((c,false)::p) tt o.type b=some (.v (.bool p6))):
 Yields P K M β g {e:=some {d:=.v (.bool (bif sz then zY else p6))},rs:=g.rs} o tmps w:=by
 have jG:(⟨tmps,[]⟩:Act).eval (.tmp c) = .bool sz:=uD (dK h hp hc);have RU:tmps.getD c undef = .bool sz:=jG;cases sz with
 |true=>
  refine eI h (v:=(⟨tmps,[]⟩:Act).eval a) (by simp [execOp,an,jG,asBool]) ?_
  exact dK h (p:=(c,true)::p) (λx hx=>by rcases List.mem_cons.1 hx with rfl|hx;exact RU;exact hp x hx) ha
 |false=>
  refine eI h (v:=(⟨tmps,[]⟩:Act).eval b) (by simp [execOp,an,jG,asBool]) ?_
  exact dK h (p:=(c,false)::p) (λx hx=>by rcases List.mem_cons.1 hx with rfl|hx;exact RU;exact hp x hx) hb
def bw.Kc{st:aC}(h:bw P K M β st tmps w)(o:Nat):M w.heap.size o=none:=by
 cases hm:M w.heap.size o with
 |none=>rfl
 |some v=>have:=lt_of_cell (h.mem _ _ _ hm);omega
def RV(h:ft P K N M β g tmps w){vs:List Value}{T:TypeId}{cs:List aP}(hlen:vs.length=cs.length)(iJ:∀v,v∈vs→v.oneCell'=true)(hlies:kV P T vs.length cs)
 (am:∀(i:Nat) v e,vs[i]? = some v→cs[i]? = some e→ce M β v e.d∧∀T,e.own=some T→v = .slice none 0 0)
 (ah:(execOp (Act.eval ⟨tmps,[]⟩) o).run P w = .ok (.value (.pointer (some ⟨w.heap.size,0,none⟩))) {w with heap:=w.heap.push (.cells ⟨vs⟩ T (0,0))}) {id eZ:Nat} (hid:nC g o=some (id,eZ)):
 Yields P K M β g {e:=some {d:=.ptr id 0},hs:=[(id,cs)],eZ,rs:=g.rs} o tmps w:=by
 have bJ:(∀b,β id≠some b)∧id<g.aK+eZ:=by
  unfold nC at hid;split at hid
  ·rename_i alV ab;rw [Bool.cond_eq_ite]at hid;split at hid<;>cases hid
   rename_i hc;simp only [Bool.and_eq_true,Option.isNone_iff_eq_none,Nat.blt_eq]at hc;rw [Option.bind_eq_some_iff]at ab;obtain⟨s,_,ab⟩:=ab;exact⟨h.fresh s _ ab hc.1,by omega⟩
  ·cases hid;exact⟨λb hb=>by have:=h.bd.lt _ b hb;simp at this,by omega⟩
 refine .inl ⟨_,_,ah,M,_,Mem.le_refl _,?_,?_,h.bd.Z5 (n':=g.aK+eZ) bJ.1 bJ.2 (by simp) (T:=T) hlen iJ hlies am,λe he=>?_⟩
 ·intro r b hb;have dj:r≠id:=λe=>bJ.1 b (e ▸ hb)
  simp [dj,hb]
 ·intro r b hb;by_cases dj:r=id
  ·exact .inr (by simp [dC,dj])
  ·simp [dj]at hb;exact .inl hb
 ·cases he;exact⟨.ptr _ _ _ (by simp),by simp⟩
def RW{α:Type}:∀(l:List α) (n i:Nat),(cy n l)[i]? = (l[i]?).map (n+i,·)
 |[],n,i=>by simp [cy]
 |x::l,n,0=>by simp [cy]
 |x::l,n,i+1=>by simp [cy,RW l (n+1) i];congr 1;funext;congr 1;omega
def RX{α:Type}:∀(l:List α) (n:Nat),(cy n l).length=l.length
 |[],n=>rfl
 |x::l,n=>by simp [cy,RX l (n+1)]
def RY{x:V}{t:Option TypeId}{T:TypeId}(h:D_ x t=some T):∃k n get,x = .bq k n get:=by
 cases x<;>simp [D_]at h;exact⟨_,_,_,rfl⟩
def RZ(jl:List (Nat×TypeId))(id i:Nat)(x:V):zW jl id i x = .v x∨(x = .dW∧∃u,zW jl id i x = .cb id i u∧(i,u)∈jl):=by
 unfold zW;split
 ·split
  ·rename_i y bV;right
   have Z:=List.find?_some bV;have aa:=List.mem_of_find?_eq_some bV;obtain⟨j,u⟩:=y;obtain rfl:j=i:=by simpa using Z
   exact⟨rfl,u,rfl,aa⟩
  ·exact .inl rfl
 ·exact .inl rfl
def aao{t:TypeId}{id:Nat}{z:List aP}(h:Ea tt t id=some z):∃aE,look tt t=some aE∧z.length=aE.zero.length∧
 ∀(i:Nat) e,z[i]? = some e→∃x,aE.zero[i]? = some x∧(e.d = .v x∨(x = .dW∧∃u,e.d = .cb id i u∧(i,u)∈aE.jl))∧∀T,e.own=some T→∃k n get,x = .bq k n get:=by
 unfold Ea at h;split at h<;>simp at h
 ·rename_i e e0 j_ zero hI ab;subst h;refine⟨_,ab,by simp,λi aX he=>?_⟩
  simp only [List.getElem?_map,Option.map_eq_some_iff]at he;obtain⟨x,hx,rfl⟩:=he;exact⟨x,hx,.inl rfl,λT aA=>RY aA⟩
 ·rename_i cd e0 j_ zero hI ab;subst h;refine⟨_,ab,by simp [RX],λi aX he=>?_⟩
  simp only [List.getElem?_map,Option.map_eq_some_iff,RW]at he;obtain⟨_,⟨x,hx,rfl⟩,rfl⟩:=he;simp only [Nat.zero_add];exact⟨x,hx,RZ hI id i x,λT aA=>RY aA⟩
 ·rename_i k e0 j_ zero hI _ _ ab;subst h;refine⟨_,ab,by simp,λi aX he=>?_⟩
  simp only [List.getElem?_map,Option.map_eq_some_iff]at he;obtain⟨x,hx,rfl⟩:=he;exact⟨x,hx,.inl rfl,by simp⟩
def aap(h:ft P K N M β g tmps w)(cf:e_ P tt=true){t:TypeId}(an:o.op = .alloc t){z:List aP}{id eZ:Nat}(cx:Ea tt t id=some z)(hid:nC g o=some (id,eZ)):
 Yields P K M β g {e:=some {d:=.ptr id 0},hs:=[(id,z)],eZ,rs:=g.rs} o tmps w:=by
 obtain⟨aE,ab,hlen,R0⟩:=aao cx;obtain⟨r⟩:=ee cf ab;obtain⟨Z,aa,aj⟩:=w_ (M:=M) r.Aa;refine RV h (vs:=r.z.cells.toList) (T:=t) (by omega) aa (λe he q off u hd=>?_) (λi v e am he=>?_) ?_ hid
 ·obtain⟨i,hi,rfl⟩:=List.getElem_of_mem he;obtain⟨x,hx,ka,_⟩:=R0 i z[i] (List.getElem?_eq_getElem hi);rcases ka with ka|⟨_,alW,ka,hm⟩
  ·rw [ka]at hd;cases hd
  ·rw [ka]at hd;cases hd;have:=List.all_eq_true.1 r.jl _ hm
   have dR:=r.J';rw [show r.z.cells.toList.length=aE.size by omega]
   exact this
 ·obtain⟨x,hx,hd,fW⟩:=R0 i e he;obtain⟨aD,aV⟩:=aj i v x am hx
  refine⟨by
   rcases hd with hd|⟨rfl,u,hd,_⟩
   ·rw [hd];exact .v _ _ aD
   ·rw [hd];cases aD;exact .lp _ _ _,λT aA=>?_⟩
  obtain⟨k,n,get,rfl⟩:=fW T aA;unfold uA at aV;split at aV<;>simp_all
 ·simp [execOp,an,Instr.alloc,r.Eh,newVar,newRow]
def Kd(tt:dq)(aE:en)(id:Nat):∀(l:List D) (i j:Nat),(p5 tt aE id i l)[j]? = (l[j]?).map (w2 tt aE id (i+j))
 |[],i,j=>by simp [p5]
 |d::l,i,0=>by simp [p5]
 |d::l,i,j+1=>by
  simp only [p5,List.getElem?_cons_succ];rw [Kd tt aE id l (i+1) j,show i+1+j=i+(j+1)by omega]
def Ke(tt:dq)(aE:en)(id:Nat):∀(l:List D) (i:Nat),(p5 tt aE id i l).length=l.length
 |[],i=>rfl
 |d::l,i=>by simp only [p5,List.length_cons,Ke tt aE id l (i+1)]
def R1{M:Mem}{β:Nat→Option Nat}(tt:dq)(aE:en)(id i:Nat)(d:D)(sG:∀r o u,d ≠ .cb r o u){v:Value}(h:ce M β v d):
 ce M β v (w2 tt aE id i d).d∧(∀T,(w2 tt aE id i d).own=some T→v = .slice none 0 0)∧∀r o u,(w2 tt aE id i d).d = .cb r o u→(o,u)∈aE.jl:=by
 unfold w2;split
 ·rcases RZ aE.jl id i .dW with Z|⟨_,u,Z,aa⟩
  ·simp only [Z];exact⟨h,(λT aA=>by cases aA),(λr o u e=>by cases e)⟩
  ·simp only [Z]
   cases h with|v u x hx=>cases hx with
    |dW=>exact⟨.lp _ _ _,(λT aA=>by cases aA),(λr o u e=>by cases e;exact aa)⟩
 ·split
  ·cases h with|v u x hx=>cases hx with
    |om=>exact⟨.v _ _ (.mh _ _),λ_ _=>rfl,λr o u e=>by cases e⟩
  ·exact⟨h,(λT aA=>by cases aA),(λr o u e=>by cases e)⟩
 ·exact⟨h,(λT aA=>by cases aA),λr o u e=>absurd e (sG r o u)⟩
def aaq(h:ft P K N M β g tmps w)(hp:fB tmps p){t:TypeId}{x:Operand}(an:o.op = .box t x){d:D}(hx:rd g.env g.bO p tt o.type x=some d)(aB:q9 d=false)(sG:sy (cellsD d)=true)(cf:e_ P tt=true){aE:en}(ab:look tt t=some aE)(dR:(cellsD d).length=aE.size){id eZ:Nat}(hid:nC g o=some (id,eZ)):
 Yields P K M β g {e:=some {d:=.ptr id 0},hs:=[(id,p5 tt aE id 0 (cellsD d))],eZ,rs:=g.rs} o tmps w:=by
 obtain⟨r⟩:=ee cf ab;obtain⟨Z,aa,aj⟩:=(dK (ds:=[]) h hp hx).cells aB;refine RV h (vs:=((⟨tmps,[]⟩:Act).eval x).cells.toList) (T:=t) (by rw [Ke];simpa using Z) aa (λe he q off u hd=>?_) (λi v e am he=>?_) ?_ hid
 ·obtain⟨i,hi,rfl⟩:=List.getElem_of_mem he;have hg:(p5 tt aE id 0 (cellsD d))[i]? = some _:=List.getElem?_eq_getElem hi;rw [Kd,Option.map_eq_some_iff]at hg;obtain⟨c,hc,Kf⟩:=hg;rw [←Kf]at hd;have Kg:i<((⟨tmps,[]⟩:Act).eval x).cells.toList.length:=by rw [Ke]at hi;omega
  have:=(R1 tt aE id (0+i) c (Ec sG c (List.mem_of_getElem? hc)) (aj i _ c (List.getElem?_eq_getElem Kg) hc)).2.2 q off u hd
  have hb:=List.all_eq_true.1 r.jl _ this;rw [Z,dR];exact hb
 ·rw [Kd,Option.map_eq_some_iff]at he;obtain⟨c,hc,rfl⟩:=he;obtain⟨g1,g2,_⟩:=R1 tt aE id (0+i) c (Ec sG c (List.mem_of_getElem? hc)) (aj i v c am hc);exact⟨g1,g2⟩
 ·simp [execOp,an,Instr.box,newVar,newRow]
end
def rj{α:Type}:∀(cs:List α) (off:Nat) (xs:List α),off+xs.length≤cs.length→(setAt cs off xs).length=cs.length∧∀(i:Nat),(setAt cs off xs)[i]? = if off≤i∧i<off+xs.length then xs[i-off]? else cs[i]?
 |[],0,[],_=>by simp [setAt]
 |[],0,x::xs,h=>by simp at h
 |[],n+1,xs,h=>by simp at h
 |c::cs,0,[],_=>by
  refine⟨by simp [setAt],λi=>?_⟩
  simp only [setAt,List.length_nil];rw [if_neg (by omega)]
 |c::cs,0,x::xs,h=>by
  obtain⟨Z,aa⟩:=rj cs 0 xs (by simp at h ⊢;omega)
  refine⟨by simp [setAt,Z],λi=>?_⟩
  cases i with
  |zero=>simp [setAt]
  |succ i=>
   simp only [setAt,List.getElem?_cons_succ,aa i,Nat.zero_add,List.length_cons];by_cases hi:i<xs.length<;>simp [hi]
 |c::cs,n+1,xs,h=>by
  obtain⟨Z,aa⟩:=rj cs n xs (by simp at h ⊢;omega)
  refine⟨by simp [setAt,Z],λi=>?_⟩
  cases i with
  |zero=>simp [setAt]
  |succ i=>
   simp only [setAt,List.getElem?_cons_succ,aa i];by_cases hi:n≤i∧i<n+xs.length
   ·rw [if_pos hi,if_pos (by omega)];congr 1;omega
   ·rw [if_neg hi,if_neg (by omega)]
def Kh(off:Nat):∀(l:List Value) (k:Nat) (cs:Array Value),off+k+l.length≤cs.size→
 ((l.zipIdx k).foldl (λcs (x:Value×Nat)=>cs.setIfInBounds (off+x.2) x.1) cs).size=cs.size∧
 ∀(i:Nat),((l.zipIdx k).foldl (λcs (x:Value×Nat)=>cs.setIfInBounds (off+x.2) x.1) cs)[i]? = if off+k≤i∧i<off+k+l.length then l[i-(off+k)]? else cs[i]?
 |[],k,cs,h=>by
  refine⟨rfl,λi=>?_⟩
  simp only [List.zipIdx_nil,List.foldl_nil,List.length_nil];rw [if_neg (by omega)]
 |x::l,k,cs,h=>by
  obtain⟨Z,aa⟩:=Kh off l (k+1) (cs.setIfInBounds (off+k) x) (by simp at h ⊢;omega)
  simp only [List.zipIdx_cons,List.foldl_cons];refine⟨by simpa using Z,λi=>?_⟩
  rw [aa i];simp only [List.length_cons]at h ⊢;by_cases aj:off+(k+1)≤i∧i<off+(k+1)+l.length
  ·rw [if_pos aj,if_pos (by omega)]
   obtain⟨j,rfl⟩:∃j,i=off+k+1+j:=⟨i-(off+k+1),by omega⟩
   rw [show off+k+1+j-(off+(k+1))=j by omega,show off+k+1+j-(off+k)=j+1 by omega]
   simp
  ·rw [if_neg aj];by_cases aD:i=off+k
   ·subst aD;rw [if_pos (by omega)]
    have:off+k<cs.size:=by omega
    simp [this]
   ·rw [if_neg (by omega)]
    rw [Array.getElem?_setIfInBounds_ne (Ne.symm aD)]
section
variable {P:Program} {K:Ctx} {N:Nat} {M:Mem} {β:Nat→Option Nat} {g:c8} {tmps:Array Value} {w:World} {o:Oper} {f:kR} {p:Path} {tt:dq} {bZ:ge} {ops:List Oper}
structure Cells(M:Mem)(β:Nat→Option Nat)(vs:List Value)(cs:List D):Prop where
 len:vs.length=cs.length
 one:∀v,v∈vs→v.oneCell'=true
 rep:∀(i:Nat) v c,vs[i]? = some v→cs[i]? = some c→ce M β v c
def Eo{vs:List Value}(h:∀v,v∈vs→v.oneCell'=true){i:Nat}{v:Value}(hi:vs[i]? = some v):v.oneCell'=true:=h v (List.mem_of_getElem? hi)
def R2{vs:List Value}(h:∀(i:Nat) v,vs[i]? = some v→v.oneCell'=true):∀v,v∈vs→v.oneCell'=true:=λv am=>by
 obtain⟨i,hi⟩:=List.getElem?_of_mem am;exact h i v hi
def Cells.set{vs:List Value}{cs:List D}(h:Cells M β vs cs){ws:List Value}{ds:List D}(cq:Cells M β ws ds){off:Nat}(hle:off+ds.length≤cs.length){vs':List Value}(hlen:vs'.length=vs.length)
 (ix:∀(i:Nat),vs'[i]? = if off≤i∧i<off+ws.length then ws[i-off]? else vs[i]?):Cells M β vs' (setAt cs off ds):=by
 obtain⟨Z,aa⟩:=rj cs off ds hle;refine⟨by rw [hlen,Z,h.len],R2 λi v am=>?_,λi v c am hc=>?_⟩
 ·rw [ix i]at am;split at am
  ·exact Eo cq.one am
  ·exact Eo h.one am
 ·rw [ix i]at am;rw [aa i]at hc;by_cases hi:off≤i∧i<off+ds.length
  ·rw [if_pos hi]at hc;rw [if_pos (by rw [cq.len];exact hi)]at am
   exact cq.rep _ v c am hc
  ·rw [if_neg hi]at hc;rw [if_neg (by rw [cq.len];exact hi)]at am
   exact h.rep _ v c am hc
def Ki{place:Nat→Option (Nat×Nat)}:∀{bi:List (Nat×D)} {vs:List (Nat×Value)} {cs cs':List D} {cells:Array Value},vs.length=bi.length→
 (∀(i:Nat) a b,bi[i]? = some a→vs[i]? = some b→a.1=b.1∧ce M β b.2 a.2)→Cells M β cells.toList cs→q_ place cs bi=some cs'→
 ∃jo,Instr.fill place cells vs=some jo∧Cells M β jo.toList cs'
 |[],[],cs,cs',cells,_,_,hc,h=>by simp [q_]at h;subst h;exact⟨cells,rfl,hc⟩
 |[],_::_,_,_,_,h,_,_,_=>by simp at h
 |_::_,[],_,_,_,h,_,_,_=>by simp at h
 |(i,d)::bi,(j,v)::vs,cs,cs',cells,hn,ah,hc,h=>by
  obtain⟨rk,hd⟩:=ah 0 (i,d) (j,v) (by simp) (by simp)
  simp only at rk hd
  subst rk;simp only [q_]at h;split at h
  ·cases h
  ·rename_i off size pg;rw [Bool.cond_eq_ite]at h;split at h
   case isFalse=>cases h
   rename_i hb;simp only [Bool.and_eq_true,Nat.beq_eq,Nat.ble_eq,Bool.not_eq_true']at hb;obtain⟨⟨cZ,fA⟩,Kj⟩:=hb;obtain⟨Z,aa,aj⟩:=hd.cells Kj;have dR:cells.size=cs.length:=by simpa using hc.len
   have dQ:v.cells.size=size:=by simpa [cZ]using Z
   have bJ:=Kh off v.cells.toList 0 cells (by simp [dQ];omega)
   have Kk:v.cells.zipIdx.foldl (λcs (x:Value×Nat)=>cs.setIfInBounds (off+x.2) x.1) cells=(v.cells.toList.zipIdx 0).foldl (λcs (x:Value×Nat)=>cs.setIfInBounds (off+x.2) x.1) cells:=by
    rw [←Array.foldl_toList,Array.toList_zipIdx]
   have jG:Cells M β (v.cells.zipIdx.foldl (λcs (x:Value×Nat)=>cs.setIfInBounds (off+x.2) x.1) cells).toList (setAt cs off (cellsD d)):=by
    rw [Kk];refine hc.set ⟨Z,aa,aj⟩ (by omega) (by simpa using bJ.1) (λk=>?_)
    have:=bJ.2 k
    simp only [Nat.add_zero]at this;rw [Array.getElem?_toList,this];simp only [Array.getElem?_toList]
   obtain⟨jo,Ad,rl⟩:=Ki (place:=place) (by simpa using hn) (λk a b ha hb=>ah (k+1) a b (by simpa using ha) (by simpa using hb)) jG h
   refine⟨jo,?_,rl⟩
   simp only [Instr.fill,pg];rw [if_neg (by simp;omega)]
   exact Ad
def sH{α dm:Type}{f:α→Option dm}:∀{l:List α} {cr:List dm},mapM' f l=some cr→cr.length=l.length∧∀(i:Nat) a b,l[i]? = some a→cr[i]? = some b→f a=some b
 |[],cr,h=>by simp [mapM']at h;subst h;simp
 |x::l,cr,h=>by
  simp only [mapM']at h;split at h<;>simp at h
  rename_i y ys bV aar;subst h;obtain⟨Z,aa⟩:=sH aar;refine⟨by simp [Z],λi a b ha hb=>?_⟩
  cases i with
  |zero=>simp at ha hb;subst ha;subst hb;exact bV
  |succ i=>simp at ha hb;exact aa i a b ha hb
def Row.R3{t:TypeId}{aE:en}(r:Row P t aE):Cells M β r.z.cells.toList (aE.zero.map .v):=by
 obtain⟨Z,aa,aj⟩:=w_ (M:=M) r.Aa;refine⟨by simpa using Z,aa,λi v c am hc=>?_⟩
 simp only [List.getElem?_map,Option.map_eq_some_iff]at hc;obtain⟨x,hx,rfl⟩:=hc;exact .v _ _ (aj i v x am hx).1
def aas{M:Mem}{v:Value}{x:V}(h:uA v x=true):cP M v (JV x):=by
 have h0:=(J9 (M:=M) h).1;unfold uA at h;split at h<;>first|exact h0|skip
 ·rename_i k n g;have:n=0:=by simpa using h
  subst this;exact .om _ _
 ·cases h
def Row.aat{t:TypeId}{aE:en}(r:Row P t aE):Cells M β r.z.cells.toList (aE.zero.map λx=>.v (JV x)):=by
 obtain⟨Z,aa,aj⟩:=w_ (M:=M) r.Aa;refine⟨by simpa using Z,aa,λi v c am hc=>?_⟩
 simp only [List.getElem?_map,Option.map_eq_some_iff]at hc;obtain⟨x,hx,rfl⟩:=hc;exact .v _ _ (aas (aj i v x am hx).2)
def Kl(h:ft P K N M β g tmps w)(hp:fB tmps p){ty:Nat→TypeId}{parts:Array (Nat×Operand)}{bi:List (Nat×D)}(fY:mapM' (fun(x:Nat×Operand)=>(rd g.env g.bO p tt (ty x.1) x.2).map λd=>(x.1,d)) parts.toList=some bi):
 ((parts.map fun(x:Nat×Operand)=>(x.1,(⟨tmps,[]⟩:Act).eval x.2)).toList).length=bi.length∧
 ∀(i:Nat) a b,bi[i]? = some a→(parts.map fun(x:Nat×Operand)=>(x.1,(⟨tmps,[]⟩:Act).eval x.2)).toList[i]? = some b→a.1=b.1∧ce M β b.2 a.2:=by
 obtain⟨Z,aa⟩:=sH fY;refine⟨by simpa using Z.symm,λi a b ha hb=>?_⟩
 simp only [Array.toList_map,List.getElem?_map,Option.map_eq_some_iff]at hb;obtain⟨x,hx,rfl⟩:=hb;have:=aa i x a hx ha
 simp only [Option.map_eq_some_iff]at this;obtain⟨d,hd,rfl⟩:=this;exact⟨rfl,dK h hp hd⟩
def run_places{cd:Array Field}{l:List (Nat×TypeId×Nat)}(ab:l=cd.toList.map λf=>(f.offset,f.type,P.cellsOf f.type))(hs:∀f,f∈cd.toList→1≤P.cellsOf f.type):
 (cd.mapM λf=>(do pure (f.offset,←sizeOf f.type):Sem (Nat×Nat))).run P w = .ok (cd.map λf=>(f.offset,P.cellsOf f.type)) w:=by
 obtain⟨mp⟩:=cd;rw [List.mapM_toArray]
 have key:∀(l:List Field),(∀f,f∈l→1≤P.cellsOf f.type)→(l.mapM λf=>(do pure (f.offset,←sizeOf f.type):Sem (Nat×Nat))).run P w = .ok (l.map λf=>(f.offset,P.cellsOf f.type)) w:=by
  intro l;induction l with
  |nil=>intro _;rfl
  |cons f l aF=>
   intro bJ;have h0:=bJ f (by simp)
   have Z:(sizeOf f.type).run P w = .ok (P.cellsOf f.type) w:=by
    cases hi:P.info? f.type with
    |none=>simp [Program.cellsOf,hi]at h0
    |some i=>exact Go.run_sizeOf w hi
   simp only [List.mapM_cons,Sem.run_bind,Z,Result.andThen_ok,Sem.run_pure,aF (λf h=>bJ f (by simp [h])),List.map_cons]
 simp only [Sem.run_map,key mp (by simpa using hs),Result.andThen_ok]
 simp
def R4(h:ft P K N M β g tmps w)(hp:fB tmps p)(cf:e_ P tt=true){t:TypeId}{aE:en}(ab:look tt t=some aE){cd:List (Nat×TypeId×Nat)}(hk:aE.k = .bT cd)(mT:cd.all (λf=>Nat.ble 1 f.2.2)=true)
 {parts:Array (Nat×Operand)} (an:o.op = .build t parts) {bi:List (Nat×D)} (fY:mapM' (fun(x:Nat×Operand)=>(rd g.env g.bO p tt (ra tt t x.1) x.2).map λd=>(x.1,d)) parts.toList=some bi)
 {zs:List D} (uF:∀(r:Row P t aE),Cells M β r.z.cells.toList zs) {cs:List D} (bJ:q_ (fun(i:Nat)=>(cd[i]?).map fun(f:Nat×TypeId×Nat)=>(f.1,f.2.2)) zs bi=some cs) {rs:List e6}:
 Yields P K M β g {e:=some {d:=p1 cs},rs} o tmps w:=by
 obtain⟨r⟩:=ee cf ab;obtain⟨gs,hd,Km⟩:=Kb r hk;obtain⟨Z,aa⟩:=Kl h hp fY;obtain⟨cells,Ad,hc⟩:=Ki Z aa (uF r) bJ
 have Ep:∀f,f∈gs.toList→1≤P.cellsOf f.type:=by
  intro fd jH;rw [List.all_eq_true]at mT;have:=mT (fd.offset,fd.type,P.cellsOf fd.type) (by rw [Km];exact List.mem_map.2 ⟨fd,jH,rfl⟩)
  simpa using this
 have pg:(fun(i:Nat)=>(gs.map λf=>(f.offset,P.cellsOf f.type))[i]?)=fun(i:Nat)=>(cd[i]?).map fun(f:Nat×TypeId×Nat)=>(f.1,f.2.2):=by
  funext i
  rw [Km];cases hi:gs[i]? <;> simp [hi]
 refine eI h (v:=.agg cells) ?_ ?_
 ·simp only [execOp,an];refine i8 _ ?_;have aau:=run_places (P:=P) (w:=w) Km Ep;simp only [Instr.build,Sem.run_bind,r.Eh,Result.andThen_ok,r.run_underlying,hd,aau,pg];have:Instr.fill (fun(i:Nat)=>(cd[i]?).map fun(f:Nat×TypeId×Nat)=>(f.1,f.2.2)) r.z.cells (parts.map fun(x:Nat×Operand)=>(x.1,(⟨tmps,[]⟩:Act).eval x.2)).toList=some cells:=Ad
  rw [this];rfl
 ·have:=Ei hc.len hc.one hc.rep
  simpa using this
def aav(h:ft P K N M β g tmps w)(hp:fB tmps p)(cf:e_ P tt=true){t:TypeId}{aE:en}(ab:look tt t=some aE){n:Nat}{e:TypeId}(hk:aE.k = .arr n e){b1:en}(ep:look tt e=some b1)
 {parts:Array (Nat×Operand)} (an:o.op = .build t parts) {bi:List (Nat×D)} (fY:mapM' (fun(x:Nat×Operand)=>(rd g.env g.bO p tt (ra tt t x.1) x.2).map λd=>(x.1,d)) parts.toList=some bi)
 {cs:List D} (bJ:q_ (λi=>some (i*b1.size,b1.size)) (aE.zero.map .v) bi=some cs):
 Yields P K M β g {e:=some {d:=p1 cs},rs:=g.rs} o tmps w:=by
 obtain⟨r⟩:=ee cf ab;obtain⟨r2⟩:=ee cf ep;obtain⟨Z,aa⟩:=Kl h hp fY;obtain⟨cells,Ad,hc⟩:=Ki Z aa (r.R3 (β:=β)) bJ;refine eI h (v:=.agg cells) ?_ ?_
 ·simp only [execOp,an];refine i8 _ ?_;simp only [Instr.build,Sem.run_bind,r.Eh,Result.andThen_ok,r.run_underlying,aaj r hk,r2.run_sizeOf];have:Instr.fill (λi=>some (i*b1.size,b1.size)) r.z.cells (parts.map fun(x:Nat×Operand)=>(x.1,(⟨tmps,[]⟩:Act).eval x.2)).toList=some cells:=Ad
  rw [this];rfl
 ·have:=Ei hc.len hc.one hc.rep
  simpa using this
end
section
variable {P:Program} {K:Ctx} {N:Nat} {M:Mem} {β:Nat→Option Nat} {g:c8} {tmps:Array Value} {w:World} {o:Oper} {f:kR} {p:Path} {tt:dq} {bZ:ge} {ops:List Oper}
def iK(M:Mem)(b:Nat)(lo:Nat)(vs:List Value):Mem:=λbo o=>if bo=b∧lo≤o∧o<lo+vs.length then vs[o-lo]? else M bo o
def Kn{b lo:Nat}{vs:List Value}(h:∀o,lo≤o→M b o=none):M.le (iK M b lo vs):=by
 intro bo o v am;unfold iK;split
 ·rename_i hc;obtain⟨rfl,Z,aa⟩:=hc;rw [h o Z]at am;cases am
 ·exact am
def Er{b lo:Nat}{vs:List Value}{i:Nat}{v:Value}(h:vs[i]? = some v):iK M b lo vs b (lo+i)=some v:=by
 have hi:i<vs.length:=(List.getElem?_eq_some_iff.1 h).1;unfold iK;rw [if_pos ⟨rfl,by omega,by omega⟩,show lo+i-lo=i by omega,h]
def aaw{k:Nat}{n:Nat}{cells:List Value}(ab:cells.length=n*k){i j:Nat}(hi:i<n)(hj:j<k):cells[i*k+j]? = some (cells.getD (i*k+j) undef):=by
 have:i*k+j<cells.length:=by
  have Z:(i+1)*k≤n*k:=Nat.mul_le_mul_right k hi;rw [Nat.add_mul]at Z;omega
 simp [List.getD,List.getElem?_eq_getElem this]
def bw.newRow{st:aC}(h:bw P K M β st tmps w){vs:List Value}{T:TypeId}{n:Nat}{w':World}(hw:w'.heap=w.heap.push (.cells ⟨vs⟩ T (0,0)))(ov:(w'.os,w'.output)=(w.os,w.output):=by rfl):
 bw P K (iK M w.heap.size 0 (vs.take n)) β st tmps w'∧M.le (iK M w.heap.size 0 (vs.take n)):=by
 have cF:M.le (iK M w.heap.size 0 (vs.take n)):=Kn λo _=>h.Kc o
 refine⟨h.free w.heap.size ?_ ?_ ?_ ?_ cF ?_ ?_ ov,cF⟩
 ·cases du:K.F w.heap.size with
  |none=>rfl
  |some aO=>have:=lt_of_heap (h.frame _ aO du).1;omega
 ·intro r cs ah hb;have:=h.z8 ah hb;omega
 ·intro l e T ab aA hb;have:=(h.own l e T ab aA).lt hb;omega
 ·intro bo _ bI;rw [hw];simp [Array.getElem?_push,Nat.ne_of_lt bI]
 ·intro bo o bI;simp [iK,bI]
 ·intro o v am;unfold iK at am;split at am
  ·rename_i hc;simp only [Nat.sub_zero]at am;rw [List.getElem?_take]at am;split at am
   ·have:w'.heap[w.heap.size]? = some (.cells ⟨vs⟩ T (0,0)):=by rw [hw];simp
    rw [cell_of_heap this,am]
   ·cases am
  ·rw [h.Kc o]at am;cases am
def Ko{st:aC}(h:bw P K M β st tmps w){l0:Loc}{T:TypeId}{vs:List Value}{T':TypeId}(rm:T'=T){n cap:Nat}{w':World}(hw:w'.heap=w.heap.push (.cells ⟨vs⟩ T' (0,0)))(hn:n≤cap)
 (hcap:cap*P.cellsOf T≤vs.length):mR P K (iK M w.heap.size 0 (vs.take (n*P.cellsOf T))) β st tmps w' l0 (.slice (some ⟨w.heap.size,0,none⟩) n cap) T:=by
 have uG:w'.heap[w.heap.size]? = some (.cells ⟨vs⟩ T' (0,0)):=by rw [hw];simp
 refine⟨.inr ⟨w.heap.size,n,cap,vs,T',rfl,hn,uG,hcap,λo an=>?_,?_,rm⟩,?_,?_⟩
 ·have hle:n*P.cellsOf T≤vs.length:=Nat.le_trans (Nat.mul_le_mul_right _ hn) hcap;unfold iK;rw [if_neg,h.Kc o]
  rintro ⟨_,_,aj⟩
  simp only [List.length_take]at aj;omega
 ·cases du:K.F w.heap.size with
  |none=>rfl
  |some aO=>have:=lt_of_heap (h.frame _ aO du).1;omega
 ·intro l e pd b ab aA _ hb bI;simp [hH]at hb;subst hb
  have hold:cc tmps w' β l=cc tmps w β l:=by
   cases l with
   |slot s=>rfl
   |cell r i=>
    simp only [aC.at]at ab;cases ah:look st.H r with
    |none=>simp [ah]at ab
    |some cs=>
     obtain⟨cG,kz,gP,cZ,bh,_⟩:=h.box r cs ah;simp only [cc,cZ];rw [re (w:=w) (by rw [hw];simp [Array.getElem?_push,Nat.ne_of_lt (lt_of_heap bh)])]
  rw [hold]at bI;have:=(h.own l e pd ab aA).lt bI
  omega
 ·intro b r cs hb ah bI;simp [hH]at hb;subst hb;have:=h.z8 ah bI
  omega
def R5{size:Nat}:∀(l:List (Nat×Value)) (m:Nat) (cells:Array Value),(∀(i:Nat) x,l[i]? = some x→x.1=m+i∧x.2.cells.size=size)→(m+l.length)*size≤cells.size→
 ∃jo,Instr.fill (λi=>some (i*size,size)) cells l=some jo∧jo.size=cells.size∧(∀i,i<m*size→jo[i]? = cells[i]?)∧
  ∀(i:Nat) x (j:Nat) u,l[i]? = some x→x.2.cells[j]? = some u→jo[(m+i)*size+j]? = some u
 |[],m,cells,_,_=>⟨cells,rfl,rfl,λ_ _=>rfl,by simp⟩
 |(a,v)::l,m,cells,ab,hle=>by
  obtain⟨ha,dR⟩:=ab 0 (a,v) (by simp)
  simp only [Nat.add_zero]at ha;simp only at dR
  subst ha
  have alX:a*size+size≤cells.size:=by
   have Z:(a+1)*size≤(a+((a,v)::l).length)*size:=Nat.mul_le_mul_right _ (by simp)
   rw [Nat.add_mul,Nat.one_mul]at Z;omega
  have bJ:=Kh (a*size) v.cells.toList 0 cells (by simp [dR];omega)
  have Kk:v.cells.zipIdx.foldl (λcs (x:Value×Nat)=>cs.setIfInBounds (a*size+x.2) x.1) cells=(v.cells.toList.zipIdx 0).foldl (λcs (x:Value×Nat)=>cs.setIfInBounds (a*size+x.2) x.1) cells:=by
   rw [←Array.foldl_toList,Array.toList_zipIdx]
  rw [←Kk]at bJ;generalize jI:v.cells.zipIdx.foldl (λcs (x:Value×Nat)=>cs.setIfInBounds (a*size+x.2) x.1) cells=c1 at bJ
  obtain⟨jo,Z,aa,aj,aD⟩:=R5 l (a+1) c1 (λi x hx=>by
   obtain⟨Z,aa⟩:=ab (i+1) x (by simpa using hx)
   exact⟨by omega,aa⟩) (by rw [bJ.1];simpa [Nat.add_assoc,Nat.add_comm 1]using hle)
  refine⟨jo,?_,by rw [aa,bJ.1],λi hi=>?_,λi x j u hx hu=>?_⟩
  ·simp only [Instr.fill];rw [if_neg (by simp [dR];omega)]
   have:v.cells.zipIdx.foldl (λcs (c,j)=>cs.setIfInBounds (a*size+j) c) cells=c1:=jI
   rw [this];exact Z
  ·rw [aj i (by rw [Nat.add_mul];omega),bJ.2 i,if_neg (by omega)]
  ·cases i with
   |zero=>
    simp at hx;subst hx
    simp only at hu
    have hj:j<size:=by rw [←dR];exact(Array.getElem?_eq_some_iff.1 hu).1
    rw [Nat.add_zero,aj _ (by rw [Nat.add_mul,Nat.one_mul];omega),bJ.2,if_pos (by simp [dR];omega)]
    simpa using hu
   |succ i=>
    have:=aD i x j u (by simpa using hx) hu
    rw [show a+(i+1)=a+1+i by omega];exact this
def R6{R7:Bool}{size:Nat}:∀{bi:List (Nat×D)} {n:Nat} {xs:List V},elems R7 size n bi=some xs→xs.length=bi.length∧
 ∀(i:Nat) y x,bi[i]? = some y→xs[i]? = some x→y=(n+i,.v x)∧x.cells.length=size∧x.isAgg=R7
 |[],n,xs,h=>by simp [elems]at h;subst h;simp
 |(j,d)::bi,n,xs,h=>by
  cases d<;>simp only [elems]at h<;>try cases h
  rename_i rn;rw [Bool.cond_eq_ite]at h;split at h
  case isFalse=>cases h
  rename_i hb;simp only [Bool.and_eq_true,Nat.beq_eq,beq_iff_eq]at hb;obtain⟨⟨cZ,fA⟩,Kj⟩:=hb;simp only [Option.map_eq_some_iff]at h;obtain⟨ys,bV,rfl⟩:=h;obtain⟨Z,aa⟩:=R6 bV;refine⟨by simp [Z],λi y x hi hx=>?_⟩
  cases i with
  |zero=>simp at hi hx;subst hi;subst hx;exact⟨by simp [cZ],fA,Kj⟩
  |succ i=>
   simp at hi hx
   obtain⟨aj,aD⟩:=aa i y x hi hx;exact⟨by rw [aj];simp;omega,aD⟩
def aax(h:ft P K N M β g tmps w)(hp:fB tmps p)(cf:e_ P tt=true){t e:TypeId}{aE b1:en}(ab:look tt t=some aE)(hk:aE.k = .bq e)(ep:look tt e=some b1){len:Nat}
 {parts:Array (Nat×Operand)} (an:o.op = .buildSlice t len parts) {bi:List (Nat×D)} (fY:mapM' (fun(x:Nat×Operand)=>(rd g.env g.bO p tt (ra tt t x.1) x.2).map λd=>(x.1,d)) parts.toList=some bi)
 {xs:List V} (hx:elems b1.k.isAgg b1.size 0 bi=some xs) (hlen:xs.length=len) (_hs:1≤b1.size) (hb:len*b1.size≤16777216) {x:V} (am:gM (.bq b1.size len λi=>xs.getD i .dW) x) {rs:List e6} {aO:List Prop}:
 Yields P K M β g {e:=some {d:=.v x,own:=some e},rs,aO} o tmps w:=by
 obtain⟨r⟩:=ee cf ab;obtain⟨dy⟩:=ee cf ep;obtain⟨Z,aa⟩:=Kl h hp fY;obtain⟨Ae,p_⟩:=R6 hx;generalize ro:(parts.map fun(x:Nat×Operand)=>(x.1,(⟨tmps,[]⟩:Act).eval x.2))=pa at Z aa
 generalize mU:pa.toList=vs at Z aa
 have pg:vs.length=len:=by omega
 have hY:∀(i:Nat) b,vs[i]? = some b→∃x,xs[i]? = some x∧b.1=i∧cP M b.2 x∧x.cells.length=b1.size:=by
  intro i b hi;have J1:i<vs.length:=(List.getElem?_eq_some_iff.1 hi).1;have ha:bi[i]? = some bi[i]:=List.getElem?_eq_getElem (by omega)
  have mq:xs[i]? = some xs[i]:=List.getElem?_eq_getElem (by omega)
  obtain⟨aj,aD,_⟩:=p_ i _ _ ha mq;obtain⟨aV,bP⟩:=aa i _ b ha hi;rw [aj]at aV bP;exact⟨_,mq,by simpa using aV.symm,nH bP,aD⟩
 have rl:∀(i:Nat) b,vs[i]? = some b→∃x,xs[i]? = some x∧b.1=i∧b.2.cells.size=b1.size∧(∀u,u∈b.2.cells.toList→u.oneCell'=true)∧∀(j:Nat) u c,b.2.cells.toList[j]? = some u→x.cells[j]? = some c→cP M u c:=by
  intro i b hi;obtain⟨x,aj,aD,aV,bP⟩:=hY i b hi;obtain⟨dF,dI,h'⟩:=(ce.v (β:=β) _ _ aV).cells rfl;refine⟨x,aj,aD,by simp [cellsD]at dF;omega,dI,λj u c hu hc=>?_⟩
  exact nH (h' j u (.v c) hu (by simp [cellsD,hc]))
 obtain⟨jo,xd,qa,alY,aay⟩:=R5 (size:=b1.size) vs 0 ((Array.range (len*b1.size)).map λi=>dy.z.cells[i % dy.z.cells.size]!) (λi x hi=>by
  obtain⟨y,aj,aD,aV,_⟩:=rl i x hi;exact⟨by omega,aV⟩) (by simp [pg])
 have dR:jo.size=len*b1.size:=by rw [qa];simp
 have ix:∀i j,i<len→j<b1.size→∃b u,vs[i]? = some b∧b.2.cells.toList[j]? = some u∧jo.toList[i*b1.size+j]? = some u:=by
  intro i j hi hj;have eH:vs[i]? = some vs[i]:=List.getElem?_eq_getElem (by omega)
  obtain⟨y,aj,aD,aV,_⟩:=rl i _ eH;have hu:vs[i].2.cells[j]? = some vs[i].2.cells[j]:=Array.getElem?_eq_getElem (by omega)
  refine⟨vs[i],vs[i].2.cells[j],eH,(Array.getElem?_toList ..).trans hu,?_⟩
  have:=aay i _ j _ eH hu
  simpa using this
 have eO:(execOp (Act.eval ⟨tmps,[]⟩) o).run P w = .ok (.value (.slice (some ⟨w.heap.size,0,none⟩) len len)) {w with heap:=w.heap.push (.cells ⟨jo.toList⟩ e (0,0))}:=by
  simp only [execOp,an];refine i8 _ ?_;have bI:¬ (16777216<len*b1.size):=by omega
  have aaz:(parts.map fun(x:Nat×Operand)=>match x with|(i,x)=>(i,(⟨tmps,[]⟩:Act).eval x))=pa:=ro
  rw [aaz];simp only [Instr.buildSlice,Sem.run_bind,r.run_underlying,pf r hk,Result.andThen_ok,dy.run_sizeOf];by_cases h0:len*b1.size=0
  ·have bU:∀f:Nat→Value,(Array.range (len*b1.size)).map f = #[]:=by intro f;rw [h0];simp
   rw [bU]at xd;have e1:∀f:Nat→Value,(Array.range 0).map f = #[]:=by intro f;simp
   simp [h0,mU,e1,xd,newRow]
  ·simp [h0,bI,dy.Eh,mU,xd,newRow]
 obtain⟨cw,hle⟩:=h.bd.newRow (w':={w with heap:=w.heap.push (.cells ⟨jo.toList⟩ e (0,0))}) (T:=e) (vs:=jo.toList) (n:=len*b1.size) rfl;have Af:jo.toList.take (len*b1.size)=jo.toList:=List.take_of_length_le (by simp [dR])
 refine .inl ⟨_,_,eO,_,β,hle,λ_ _ h=>h,λ_ _ h=>.inl h,cw,λe1 he=>?_⟩
 cases he;refine⟨.v _ _ (am _ _ (.bq _ 0 b1.size len len _ (λi j=>jo.toList.getD (i*b1.size+j) undef) (Nat.le_refl _) ?_ ?_ ?_ ?_)),λT l0 aA=>?_⟩
 ·intro i hi;have mq:xs[i]? = some xs[i]:=List.getElem?_eq_getElem (by omega)
  have ha:bi[i]? = some bi[i]:=List.getElem?_eq_getElem (by omega)
  simp only [List.getD,mq,Option.getD_some];exact(p_ i _ _ ha mq).2.1
 ·intro i j hi hj;obtain⟨b,u,_,_,hu⟩:=ix i j hi hj;rw [Af,Nat.zero_add];have:=Er (M:=M) (b:=w.heap.size) (lo:=0) hu
  simpa [List.getD,hu]using this
 ·intro i j hi hj;obtain⟨b,u,cZ,Kp,hu⟩:=ix i j hi hj;obtain⟨y,_,_,_,bP,_⟩:=rl i b cZ;simp only [List.getD,hu,Option.getD_some];exact Eo bP Kp
 ·intro i j c hi hc;have mq:xs[i]? = some xs[i]:=List.getElem?_eq_getElem (by omega)
  simp only [List.getD,mq,Option.getD_some]at hc
  have hj:j<b1.size:=by
   have ha:bi[i]? = some bi[i]:=List.getElem?_eq_getElem (by omega)
   rw [←(p_ i _ _ ha mq).2.1];exact(List.getElem?_eq_some_iff.1 hc).1
  obtain⟨b,u,cZ,Kp,hu⟩:=ix i j hi hj;obtain⟨y,bV,_,_,_,dF⟩:=rl i b cZ;rw [mq]at bV;cases bV;simp only [List.getD,hu,Option.getD_some];exact(dF j u c Kp hc).mono hle
 ·cases aA;have:=Ko (l0:=l0) (T:=e) h.bd (vs:=jo.toList) (T':=e) (n:=len) (cap:=len) (w':={w with heap:=w.heap.push (.cells ⟨jo.toList⟩ e (0,0))}) rfl rfl (Nat.le_refl _) (by rw [dy.cellsOf];simp [dR])
  rw [dy.cellsOf]at this;exact this
end
section
variable {P:Program} {K:Ctx} {N:Nat} {M:Mem} {β:Nat→Option Nat} {g:c8} {tmps:Array Value} {w:World} {o:Oper} {f:kR} {p:Path} {tt:dq} {bZ:ge} {ops:List Oper}
def aaA(h:ft P K N M β g tmps w)(hp:fB tmps p)(cf:e_ P tt=true){t:TypeId}{aE:en}(ab:look tt t=some aE){a:Operand}(an:o.op = .load t a){q off:Nat}(ha:rd g.env g.bO p tt o.type a=some (.ptr q off))
 {cs:List aP} (ak:look g.H q=some cs) (jp:aE.k.isAgg=true) (hle:off+aE.size≤cs.length):
 Yields P K M β g {e:=some {d:=p1 (((cs.drop off).take aE.size).map (·.d))},rs:=g.rs} o tmps w:=by
 obtain⟨r⟩:=ee cf ab;obtain⟨b,hb,am⟩:=ri (dK (ds:=[]) h hp ha);obtain⟨bo,vs,T,bI,bh,hlen,_,_,iJ,ml⟩:=h.bd.box q cs ak;rw [hb]at bI;cases bI;have eO:=RQ (P:=P) (w:=w) r (off:=off) bh (by omega) jp
 refine eI h (v:=.agg ⟨(vs.drop off).take aE.size⟩) ?_ ?_
 ·simp only [execOp,an];rw [am];exact i8 _ eO
 ·refine Ei (by simp;omega) (λv am=>iJ v (List.mem_of_mem_drop (List.mem_of_mem_take am))) (λi v c am hc=>?_)
  rw [List.getElem?_map,Option.map_eq_some_iff]at hc;obtain⟨e,he,rfl⟩:=hc;rw [List.getElem?_take]at am he;split at am
  ·rename_i hi;rw [if_pos hi,List.getElem?_drop]at he;rw [List.getElem?_drop]at am;have:=h.bd.e7 (.cell q (off+i)) e (by simp [aC.at,ak,he])
   simpa [cc,hb,cell_of_heap bh,am]using this
  ·cases am
def aaB(h:ft P K N M β g tmps w)(hp:fB tmps p)(cf:e_ P tt=true){t:TypeId}{aE:en}(ab:look tt t=some aE){a:Operand}(an:o.op = .load t a){q off:Nat}(ha:rd g.env g.bO p tt o.type a=some (.ptr q off))
 {cs:List aP} (ak:look g.H q=some cs) (jp:aE.k.isAgg=false) {e:aP} (he:cs[off]? = some e):
 Yields P K M β g {e:=some {d:=e.d},rs:=g.rs} o tmps w:=by
 obtain⟨r⟩:=ee cf ab;obtain⟨b,hb,am⟩:=ri (dK (ds:=[]) h hp ha);obtain⟨bo,vs,T,v,bI,bh,eH,b'⟩:=J0 h.bd ak he;rw [hb]at bI;cases bI;have hc:w.cell? ⟨b,off,none⟩=some v:=by rw [cell_of_heap bh,eH]
 refine eI h (v:=v) ?_ ?_
 ·simp only [execOp,an];rw [am];exact i8 _ (Ka (P:=P) r hc jp)
 ·have:=h.bd.e7 (.cell q off) e (by simp [aC.at,ak,he])
  rwa [b']at this
def R8{cs:List aP}{off:Nat}{e:aP}(bm:off<cs.length)(i:Nat):(setAt cs off [e])[i]? = if i=off then some e else cs[i]? := by
 rw [(rj cs off [e] (by simp;omega)).2 i]
 by_cases hi:i=off
 ·subst hi;simp
 ·rw [if_neg (by simp;omega),if_neg hi]
def aaC(h:ft P K N M β g tmps w)(hp:fB tmps p)(cf:e_ P tt=true){t:TypeId}{aE:en}(ab:look tt t=some aE){a:Operand}(an:o.op = .load t a){q off:Nat}(ha:rd g.env g.bO p tt o.type a=some (.ptr q off))
 {cs:List aP} (ak:look g.H q=some cs) (jp:aE.k.isAgg=false) {e:aP} (he:cs[off]? = some e) {s:TypeId} (hs:e.own=some s) {rs:List e6}:
 Yields P K M β g {e:=some e,hs:=[(q,setAt cs off [{d:=e.d}])],rs} o tmps w:=by
 obtain⟨r⟩:=ee cf ab;obtain⟨b,hb,am⟩:=ri (dK (ds:=[]) h hp ha);obtain⟨bo,vs,T,v,bI,bh,eH,b'⟩:=J0 h.bd ak he;rw [hb]at bI;cases bI;have hc:w.cell? ⟨b,off,none⟩=some v:=by rw [cell_of_heap bh,eH]
 have bm:off<cs.length:=(List.getElem?_eq_some_iff.1 he).1
 have mm:=λl0=>h.bd.RK ak he hs (cs':=setAt cs off [{d:=e.d}]) (rj cs off _ (by simp;omega)).1 (λj aX hj=>by
  rw [R8 bm]at hj;by_cases Kq:j=off
  ·subst Kq;simp at hj;subst hj;exact⟨e,he,rfl,by simp⟩
  ·rw [if_neg Kq]at hj;exact⟨aX,hj,rfl,λT aA=>⟨aA,Kq⟩⟩) l0
 refine .inl ⟨v,w,?_,M,β,Mem.le_refl _,λ_ _ h=>h,λ_ _ h=>.inl h,(mm (.slot 0)).1,λe1 rp=>?_⟩
 ·simp only [execOp,an];rw [am];exact i8 _ (Ka (P:=P) r hc jp)
 ·cases rp;refine⟨?_,λT l0 aA=>?_⟩
  ·have:=h.bd.e7 (.cell q off) e (by simp [aC.at,ak,he])
   rwa [b']at this
  ·rw [hs]at aA;cases aA;have:=(mm l0).2
   rwa [b']at this
def aaD(h:ft P K N M β g tmps w)(hp:fB tmps p)(cf:e_ P tt=true){t:TypeId}{aE:en}(ab:look tt t=some aE){a:Operand}(an:o.op = .load t a){x:V}(ha:rd g.env g.bO p tt o.type a=some (.eE x))
 (jp:x.isAgg=aE.k.isAgg) (hs:x.cells.length=aE.size):Yields P K M β g {e:=some {d:=.v x},rs:=g.rs} o tmps w:=by
 obtain⟨r⟩:=ee cf ab;obtain⟨u,Z,aa⟩:=aai (w:=w) r h.bd.mem (dK (ds:=[]) h hp ha) jp hs;exact eI h (v:=u) (by simp only [execOp,an];exact i8 _ Z) (.v _ _ aa)
def R9{t:TypeId}{aE:en}(r:Row P t aE){b off:Nat}{vs:List Value}{T:TypeId}(bh:w.heap[b]? = some (.cells ⟨vs⟩ T (0,0))){v:Value}(hs:v.cells.size=aE.size)(iJ:∀u,u∈v.cells.toList→u.oneCell'=true)
 (hle:off+aE.size≤vs.length):(Instr.storeAt t (.pointer (some ⟨b,off,none⟩)) v).run P w = .ok () (w.setRow b (vs.take off++v.cells.toList++vs.drop (off+aE.size)).toArray):=by
 have:=run_storeCells_at P b off T v.cells.toList 0 ⟨vs⟩ w bh (by simpa [hs]using hle) iJ
 simp only [Nat.add_zero,Array.length_toList,hs]at this;simp [Instr.storeAt,Instr.sureAddr,storeVar,r.run_sizeOf,hs,this]
def Kr{vs us:List Value}{off:Nat}(hle:off+us.length≤vs.length)(i:Nat):(vs.take off++us++vs.drop (off+us.length))[i]? = if off≤i∧i<off+us.length then us[i-off]? else vs[i]? := by
 have aB:(vs.take off).length=off:=by simp;omega
 by_cases Z:i<off
 ·rw [if_neg (by omega),List.append_assoc,List.getElem?_append_left (by omega),List.getElem?_take,if_pos Z]
 ·by_cases aa:i<off+us.length
  ·rw [if_pos (by omega),List.append_assoc,List.getElem?_append_right (by omega),aB,List.getElem?_append_left (by omega)]
  ·rw [if_neg (by omega),List.getElem?_append_right (by simp;omega),List.getElem?_drop]
   congr 1
   simp;omega
def Ag{vs us:List Value}{off:Nat}(hle:off+us.length≤vs.length):(vs.take off++us++vs.drop (off+us.length)).length=vs.length:=by
 simp;omega
def R'{vs us:List Value}{off:Nat}(Z:∀v,v∈vs→v.oneCell'=true)(aa:∀v,v∈us→v.oneCell'=true):∀v,v∈vs.take off++us++vs.drop (off+us.length)→v.oneCell'=true:=by
 intro v am;rcases List.mem_append.1 am with am|am
 ·rcases List.mem_append.1 am with am|am
  ·exact Z v (List.mem_of_mem_take am)
  ·exact aa v am
 ·exact Z v (List.mem_of_mem_drop am)
def R_{v:Value}{t:TypeId}{a x:Operand}(an:o.op = .store t a x)(hx:(⟨tmps,[]⟩:Act).eval x=v){ht:Value}(ha:(⟨tmps,[]⟩:Act).eval a=ht){w':World}(h:(Instr.storeAt t ht v).run P w = .ok () w'):
 (execOp (Act.eval ⟨tmps,[]⟩) o).run P w = .ok .skip w':=by
 simp only [execOp,an,hx,ha];simp [h]
def kV.set{T:TypeId}{n:Nat}{cs ds:List aP}{off:Nat}(h:kV P T n cs)(hn:∀e,e∈ds→∀r o u,e.d ≠ .cb r o u)(hle:off+ds.length≤cs.length):kV P T n (setAt cs off ds):=λe he r o u hd=>by
 obtain⟨i,hi,rfl⟩:=List.getElem_of_mem he;have hg:(setAt cs off ds)[i]? = some (setAt cs off ds)[i]:=List.getElem?_eq_getElem hi;rw [(rj cs off ds hle).2 i]at hg;split at hg
 ·exact absurd hd (hn _ (List.mem_of_getElem? hg) r o u)
 ·exact h _ (List.mem_of_getElem? hg) r o u hd
def aaE(h:ft P K N M β g tmps w)(hp:fB tmps p)(cf:e_ P tt=true){t:TypeId}{aE:en}(ab:look tt t=some aE){a x:Operand}(an:o.op = .store t a x){q off:Nat}(ha:rd g.env g.bO p tt o.type a=some (.ptr q off))
 {cs:List aP} (ak:look g.H q=some cs) {d:D} (hx:rd g.env g.bO p tt t x=some d) (aB:q9 d=false) (sG:sy (cellsD d)=true) (hs:(cellsD d).length=aE.size) (hle:off+aE.size≤cs.length):
 Yields P K M β g {e:=none,hs:=[(q,setAt cs off ((cellsD d).map λd=>{d}))],rs:=g.rs} o tmps w:=by
 obtain⟨r⟩:=ee cf ab;obtain⟨b,hb,am⟩:=ri (dK (ds:=[]) h hp ha);obtain⟨bo,vs,T,bI,bh,hlen,_,_,iJ,ml⟩:=h.bd.box q cs ak;rw [hb]at bI;cases bI;obtain⟨Z,aa,aj⟩:=(dK (ds:=[]) h hp hx).cells aB;generalize hu:(⟨tmps,[]⟩:Act).eval x=u at Z aa aj
 have Sa:u.cells.size=aE.size:=by simp at Z;omega
 have uH:u.cells.toList.length=aE.size:=by simpa using Sa
 have eO:=R9 (P:=P) r (off:=off) bh Sa aa (by omega)
 rw [←uH]at eO;refine .inr (.inl ⟨rfl,_,R_ an hu am eO,M,β,Mem.le_refl _,λ_ _ h=>h,λ_ _ h=>.inl h,?_,λe he=>by cases he⟩)
 have xe:=rj cs off ((cellsD d).map λd=>({d}:aP)) (by simp;omega)
 refine h.bd.J2 ak hb bh (vs':=vs.take off++u.cells.toList++vs.drop (off+u.cells.toList.length)) (by rw [Ag (by omega),xe.1,hlen]) (R' iJ aa) (λ_=>by
  rw [Ag (by omega)]
  refine ml.set (λe he=>?_) (by simp;omega)
  obtain⟨c,hc,rfl⟩:=List.mem_map.1 he;exact Ec sG c hc) xe.1
  (setRow_heap w b _ _ T (0,0) bh) (λbo dj=>setRow_other w b bo _ dj) cs.length (λi v e eH mr=>?_)
 rw [Kr (by omega)]at eH
 rw [xe.2]at mr;simp only [List.length_map]at mr;by_cases hi:off≤i∧i<off+aE.size
 ·rw [if_pos (by omega)]at eH
  rw [if_pos (by omega),List.getElem?_map,Option.map_eq_some_iff]at mr
  obtain⟨c,hc,rfl⟩:=mr;exact⟨aj _ v c eH hc,by simp⟩
 ·rw [if_neg (by omega)]at eH
  rw [if_neg (by omega)]at mr
  have alZ:i<cs.length:=(List.getElem?_eq_some_iff.1 mr).1;refine⟨?_,λT aA=>.inl ⟨by omega,⟨e,mr,aA⟩,eH⟩⟩
  have:=h.bd.e7 (.cell q i) e (by simp [aC.at,ak,mr])
  simpa [cc,hb,cell_of_heap bh,eH]using this
def Sb(ty:Nat→Option TypeId):∀(l:List aP) (n:Nat),(p4 ty n l).length=l.length∧∀(i:Nat) aX,(p4 ty n l)[i]? = some aX→∃e,l[i]? = some e∧((e.d=aX.d∧∀T,aX.own=some T→e.own=some T)∨∃k g,e.d = .v (.om k g)∧aX.d = .v (.bq k 0 g))
 |[],n=>by simp [p4]
 |e::l,n=>by
  obtain⟨Z,aa⟩:=Sb ty l (n+1);refine⟨by simp [p4,Z],λi aX he=>?_⟩
  cases i with
  |zero=>
   simp only [p4,List.getElem?_cons_zero,Option.some.injEq]at he;refine⟨e,rfl,?_⟩
   split at he
   ·rename_i k g hd;subst he;exact .inr ⟨k,g,hd,rfl⟩
   ·subst he;exact .inl ⟨rfl,λ_ h=>h⟩
  |succ i=>simp only [p4,List.getElem?_cons_succ]at he ⊢;exact aa i aX he
def aaF(h:ft P K N M β g tmps w)(hp:fB tmps p)(cf:e_ P tt=true){t:TypeId}{aE:en}(ab:look tt t=some aE){a x:Operand}(an:o.op = .store t a x){q off:Nat}(ha:rd g.env g.bO p tt o.type a=some (.ptr q off))
 {cs:List aP} (ak:look g.H q=some cs) {d:D} (hx:rd g.env g.bO p tt t x=some d) (aB:q9 d=false) (sG:sy (cellsD d)=true) (hs:(cellsD d).length=aE.size) (hle:off+aE.size≤cs.length) (ty:Nat→Option TypeId):
 Yields P K M β g {e:=none,hs:=[(q,p4 ty 0 (setAt cs off ((cellsD d).map λd=>{d})))],rs:=g.rs} o tmps w:=by
 have up:∀{M':Mem} {β':Nat→Option Nat} {v:Value} {w':World},bA P K M β g {e:=none,hs:=[(q,setAt cs off ((cellsD d).map λd=>{d}))],rs:=g.rs} tmps v w'→
  bA P K M β g {e:=none,hs:=[(q,p4 ty 0 (setAt cs off ((cellsD d).map λd=>{d})))],rs:=g.rs} tmps v w':=by
  rintro M' β' v w' ⟨Ah,Ai,Z,aa,aj,aD,_⟩
  refine⟨Ah,Ai,Z,aa,λr b hb=>?_,?_,λe he=>by cases he⟩
  ·rcases aj r b hb with aV|aV
   ·exact .inl aV
   ·right
    simp only [dC]at aV ⊢;split at aV
    ·rename_i uI;simp [uI]
    ·cases aV
  ·obtain⟨g1,g2⟩:=Sb ty (setAt cs off ((cellsD d).map λd=>({d}:aP))) 0
   refine aD.Z3 rfl (λl aX dk=>?_) (λr cs' ah=>?_)
   ·cases l with
    |slot s=>exact⟨aX,dk,.inl ⟨rfl,λ_ h=>h⟩⟩
    |cell r i=>
     simp only [aC.at,after,List.cons_append,List.nil_append,dC]at dk ⊢;by_cases uI:q=r
     ·simp only [uI,if_true,Option.bind_some]at dk ⊢;exact g2 i aX dk
     ·simp only [uI,if_false]at dk ⊢;exact⟨aX,dk,.inl ⟨rfl,λ_ h=>h⟩⟩
   ·simp only [after,List.cons_append,List.nil_append,dC]at ah ⊢;by_cases uI:q=r
    ·simp only [uI,if_true,Option.some.injEq]at ah ⊢;subst ah;exact⟨_,rfl,g1.symm⟩
    ·simp only [uI,if_false]at ah ⊢;exact⟨cs',ah,rfl⟩
 rcases aaE h hp cf ab an ha ak hx aB sG hs hle with⟨v,w',Z,aa⟩|⟨h0,w',Z,aa⟩|⟨fn,vs,Z,aa⟩
 ·exact .inl ⟨v,w',Z,up (M':=M) (β':=β) aa⟩
 ·exact .inr (.inl ⟨h0,w',Z,up (M':=M) (β':=β) aa⟩)
 ·exact .inr (.inr ⟨fn,vs,Z,aa.mono λe w' ⟨v,aj,aD⟩=>⟨v,aj,up (M':=M) (β':=β) aD⟩⟩)
def Sc(h:ft P K N M β g tmps w)(hp:fB tmps p)(cf:e_ P tt=true){t:TypeId}{aE:en}(ab:look tt t=some aE){a x:Operand}(an:o.op = .store t a x){q off:Nat}(ha:rd g.env g.bO p tt o.type a=some (.ptr q off))
 {cs:List aP} (ak:look g.H q=some cs) {k n:Nat} {get:Nat→V} (hx:rd g.env g.bO p tt t x=some (.v (.bq k n get))) (hs:aE.size=1) (hle:off+aE.size≤cs.length) {s:TypeId} {l:List Nat}
 (fW:mR P K M β {env:=gN l g.env,H:=g.H,aK:=g.aK} tmps w (.cell q off) ((⟨tmps,[]⟩:Act).eval x) s):
 Yields P K M β g {e:=none,g0:=l,hs:=[(q,setAt cs off [{d:=.v (.bq k n get),own:=some s}])],rs:=g.rs} o tmps w:=by
 obtain⟨r⟩:=ee cf ab;obtain⟨b,hb,am⟩:=ri (dK (ds:=[]) h hp ha);have ox:=h.bd.g0 l;obtain⟨bo,vs,T,bI,bh,hlen,_,_,iJ,ml⟩:=h.bd.box q cs ak;rw [hb]at bI;cases bI;have kZ:=dK (ds:=[]) h hp hx;generalize hu:(⟨tmps,[]⟩:Act).eval x=u at kZ fW
 have Aj:u.cells = #[u]∧u.oneCell'=true:=by
  obtain⟨a,cap,rfl,_⟩:=uE kZ;exact⟨rfl,rfl⟩
 have eO:=R9 (P:=P) r (off:=off) bh (v:=u) (by rw [Aj.1,hs];rfl) (by rw [Aj.1];simpa using Aj.2) (by omega)
 rw [Aj.1,hs]at eO;have bm:off<cs.length:=by omega
 refine .inr (.inl ⟨rfl,_,R_ an hu am eO,M,β,Mem.le_refl _,λ_ _ h=>h,λ_ _ h=>.inl h,?_,λe he=>by cases he⟩)
 refine ox.J2 (st:={env:=gN l g.env,H:=g.H,aK:=g.aK}) ak hb bh (vs':=vs.take off++[u]++vs.drop (off+1)) (by rw [show off+1=off+[u].length by rfl,Ag (by simp;omega),(rj cs off _ (by simp;omega)).1,hlen])
  (R' (us:=[u]) iJ (by simpa using Aj.2)) (λ_=>by
   rw [show off+1=off+[u].length by rfl,Ag (by simp;omega)]
   refine ml.set (λe he=>?_) (by simp;omega)
   obtain rfl:=List.mem_singleton.1 he;exact λ_ _ _ e=>by cases e) (rj cs off _ (by simp;omega)).1 (setRow_heap w b _ _ T (0,0) bh) (λbo dj=>setRow_other w b bo _ dj) off (λi v e eH mr=>?_)
 rw [show off+1=off+[u].length by rfl,Kr (by simp;omega)]at eH
 rw [R8 bm]at mr;by_cases hi:i=off
 ·subst hi;simp at eH mr
  subst eH;subst mr;refine⟨kZ,λT aA=>.inr ⟨rfl,?_⟩⟩
  cases aA;exact fW
 ·rw [if_neg hi]at mr;rw [if_neg (by simp;omega)]at eH
  refine⟨?_,λT aA=>.inl ⟨hi,⟨e,mr,aA⟩,eH⟩⟩
  have:=h.bd.e7 (.cell q i) e (by simp [aC.at,ak,mr])
  simpa [cc,hb,cell_of_heap bh,eH]using this
end
section
variable {P:Program} {K:Ctx} {N:Nat} {M:Mem} {β:Nat→Option Nat} {g:c8} {tmps:Array Value} {w:World} {o:Oper} {f:kR} {p:Path} {tt:dq} {bZ:ge} {ops:List Oper}
structure k0(M:Mem)(k m:Nat)(get:Nat→V)(news:List Value):Prop where
 len:news.length=m*k
 hk:∀i,i<m→(get i).cells.length=k
 one:∀u,u∈news→u.oneCell'=true
 rep:∀(i j:Nat) c u,i<m→(get i).cells[j]? = some c→news[i*k+j]? = some u→cP M u c
def flat(k m:Nat)(val:Nat→Nat→Value):List Value:=(List.range (m*k)).map λq=>val (q / k) (q % k)
def qb(k m:Nat)(val:Nat→Nat→Value):(flat k m val).length=m*k:=by simp [flat]
def aaG{k m:Nat}{val:Nat→Nat→Value}{i j:Nat}(hi:i<m)(hj:j<k):(flat k m val)[i*k+j]? = some (val i j):=by
 have bm:i*k+j<m*k:=by
  have Z:(i+1)*k≤m*k:=Nat.mul_le_mul_right k hi;rw [Nat.add_mul]at Z;omega
 have Z:(i*k+j) / k=i:=by rw [Nat.mul_comm,Nat.mul_add_div (by omega),Nat.div_eq_of_lt hj];omega
 have aa:(i*k+j) % k=j:=by rw [Nat.mul_comm,Nat.mul_add_mod,Nat.mod_eq_of_lt hj]
 simp [flat,bm,Z,aa]
def Sd{k m:Nat}{val:Nat→Nat→Value}{q:Nat}{u:Value}(h:(flat k m val)[q]? = some u):q / k<m∧q % k<k∧q=q / k*k+q % k∧u=val (q / k) (q % k):=by
 have ak:q<m*k:=by have:=(List.getElem?_eq_some_iff.1 h).1;rwa [qb]at this
 have hk:0<k:=by
  rcases Nat.eq_zero_or_pos k with rfl|h;· simp at ak
  ·exact h
 refine⟨(Nat.div_lt_iff_lt_mul hk).2 ak,Nat.mod_lt _ hk,(Nat.div_add_mod' q k).symm,?_⟩
 simp [flat,ak]at h;exact h.symm
def Ks{v:Value}{k n:Nat}{get:Nat→V}(h:ce M β v (.v (.bq k n get))):((v = .slice none 0 0∨∃a,v = .slice (some a) 0 0)∧n=0)∨
 ∃(b off cap:Nat) (ef:List Value),v = .slice (some ⟨b,off,none⟩) n cap∧n≤cap∧k0 M k n get ef∧∀(q:Nat) u,ef[q]? = some u→M b (off+q)=some u:=by
 rcases sF h with h|⟨b,off,cap,val,rfl,hc,hk,cF,Z,ah⟩
 ·exact .inl h
 ·refine .inr ⟨b,off,cap,flat k n val,rfl,hc,⟨qb k n val,hk,?_,?_⟩,?_⟩
  ·refine R2 λq u hu=>?_
   obtain⟨aa,aj,_,rfl⟩:=Sd hu;exact Z _ _ aa aj
  ·intro i j c u hi hc hu;have hj:j<k:=by rw [←hk i hi];exact(List.getElem?_eq_some_iff.1 hc).1
   rw [aaG hi hj]at hu;cases hu;exact ah i j c hi hc
  ·intro q u hu;obtain⟨aa,aj,aD,rfl⟩:=Sd hu;have:=cF _ _ aa aj
   rwa [Nat.add_assoc,←aD]at this
def xf(k:Nat)(get:Nat→V):k0 M k 0 get []:=⟨by simp,by simp,by simp,by simp⟩
def k0.app{k n m:Nat}{get lO:Nat→V}{ef news:List Value}(h:k0 M k n get ef)(aa:k0 M k m lO news):k0 M k (n+m) (λi=>bif Nat.blt i n then get i else lO (i-n)) (ef++news):=by
 have hb:∀i,(bif Nat.blt i n then get i else lO (i-n))=if i<n then get i else lO (i-n):=by
  intro i;by_cases hi:i<n
  ·have:Nat.blt i n=true:=by simpa using hi
   simp [this,hi]
  ·have:Nat.blt i n=false:=by rw [Bool.eq_false_iff];simpa using hi
   simp [this,hi]
 refine⟨by simp [h.len,aa.len,Nat.add_mul],λi hi=>?_,λu hu=>?_,λi j c u hi hc hu=>?_⟩
 ·rw [hb];split
  ·exact h.hk i (by assumption)
  ·exact aa.hk _ (by omega)
 ·rcases List.mem_append.1 hu with hu|hu
  ·exact h.one u hu
  ·exact aa.one u hu
 ·rw [hb]at hc;by_cases hin:i<n
  ·rw [if_pos hin]at hc;have hj:j<k:=by rw [←h.hk i hin];exact(List.getElem?_eq_some_iff.1 hc).1
   have bm:i*k+j<ef.length:=by
    rw [h.len];have Z:(i+1)*k≤n*k:=Nat.mul_le_mul_right k hin;rw [Nat.add_mul]at Z;omega
   rw [List.getElem?_append_left bm]at hu;exact h.rep i j c u hin hc hu
  ·rw [if_neg hin]at hc;have al0:n*k≤i*k:=Nat.mul_le_mul_right k (by omega)
   rw [List.getElem?_append_right (by rw [h.len];omega),h.len]at hu
   have:i*k+j-n*k=(i-n)*k+j:=by rw [Nat.sub_mul];omega
   rw [this]at hu;exact aa.rep (i-n) j c u (by omega) hc hu
def k0.mono{M':Mem}(cF:M.le M'){k n:Nat}{get:Nat→V}{ef:List Value}(h:k0 M k n get ef):k0 M' k n get ef:=
 ⟨h.len,h.hk,h.one,λi j c u hi hc hu=>(h.rep i j c u hi hc hu).mono cF⟩
def k0.bq{k n cap b off:Nat}{get:Nat→V}{ef:List Value}(h:k0 M k n get ef)(hc:n≤cap)(cF:∀(q:Nat) u,ef[q]? = some u→M b (off+q)=some u):
 cP M (.slice (some ⟨b,off,none⟩) n cap) (.bq k n get):=by
 have hin:∀i j,i<n→j<k→ef[i*k+j]? = some (ef.getD (i*k+j) undef):=λi j hi hj=>aaw h.len hi hj
 refine .bq b off k n cap get (λi j=>ef.getD (i*k+j) undef) hc h.hk (λi j hi hj=>?_) (λi j hi hj=>Eo h.one (hin i j hi hj)) (λi j c hi lq=>?_)
 ·rw [Nat.add_assoc];exact cF _ _ (hin i j hi hj)
 ·have hj:j<k:=by rw [←h.hk i hi];exact(List.getElem?_eq_some_iff.1 lq).1
  exact h.rep i j c _ hi lq (hin i j hi hj)
def aaH(t g_ ty e:TypeId)(i:TypeInfo)(aB:P.underlying t=some (.slice e))(hi:P.info? e=some i)(b uJ lr:Nat)(x:Value)(n:Nat)(news:List Value)(hs:Src P i.size g_ x n news w)
 (fZ:uJ+n≤lr) {vs:List Value} {T:TypeId} (bh:w.heap[b]? = some (.cells ⟨vs⟩ T (0,0))) (hle:uJ*i.size+news.length≤vs.length):
 (Builtin.append_ #[t,g_] ty #[.slice (some ⟨b,0,none⟩) uJ lr,x]).run P w = .ok (.slice (some ⟨b,0,none⟩) (uJ+n) lr) (w.setRow b (vs.take (uJ*i.size)++news++vs.drop (uJ*i.size+news.length)).toArray):=by
 have cS:=run_storeCells_at P b (uJ*i.size) T news 0 ⟨vs⟩ w bh (by simpa using hle) hs.one
 simp only [Nat.add_zero]at cS;rcases hs.kind with⟨aX,hk⟩|hk<;>simp [Builtin.append_,run_underlying aB,run_underlying hk,sizeOf,typeInfo,hi,hs.len,fZ,hs.cells,addr_add,cS]
def aaI(t g_ ty e:TypeId)(i:TypeInfo)(aB:P.underlying t=some (.slice e))(hi:P.info? e=some i)(x:Value)(news:List Value)(hs:Src P i.size g_ x 0 news w):
 (Builtin.append_ #[t,g_] ty #[.slice none 0 0,x]).run P w = .ok (.slice none 0 0) w:=by
 rcases hs.kind with⟨aX,hk⟩|hk<;>simp [Builtin.append_,run_underlying aB,run_underlying hk,sizeOf,typeInfo,hi,hs.len,hs.cells]
def Es{t g_:TypeId}{a x:Operand}{c:Call}(an:o.op = .call c)(hc:c.callee = .builtin .append)(ey:c.args.toList=[a,x])(gy:c.argTypes.toList[0]? = some t)(oy:c.argTypes.toList[1]? = some g_)
 {ht Kt:Value} (ha:(⟨tmps,[]⟩:Act).eval a=ht) (hx:(⟨tmps,[]⟩:Act).eval x=Kt) {v:Value} {w':World}
 (h:∀ty,(Builtin.append_ #[t,g_] ty #[ht,Kt]).run P w = .ok v w'):
 (execOp (Act.eval ⟨tmps,[]⟩) o).run P w = .ok (.value v) w':=by
 have uK:c.args = #[a,x]:=by apply Array.ext';simpa using ey
 have Ku:∀ty,(Builtin.append_ c.argTypes ty #[ht,Kt]).run P w = .ok v w':=by
  intro ty;have h0:c.argTypes[0]? = some t:=by simpa using gy
  have Z:c.argTypes[1]? = some g_:=by simpa using oy
  have:=h ty
  simp only [Builtin.append_,h0,Z]at this ⊢;exact this
 simp only [execOp,an,resolve,hc,uK,Sem.run_bind,Sem.run_pure,Result.andThen_ok,invoke,builtin,List.map_toArray,List.map_cons,List.map_nil,ha,hx];simp [Ku]
def aaJ(h:ft P K N M β g tmps w)(hp:fB tmps p)(cf:e_ P tt=true){t g_ e:TypeId}{aE b1:en}(ab:look tt t=some aE)(hk:aE.k = .bq e)(ep:look tt e=some b1){s:Nat}{x:Operand}{c:Call}
 (an:o.op = .call c) (hc:c.callee = .builtin .append) (ey:c.args.toList=[.tmp s,x]) (gy:c.argTypes.toList[0]? = some t) (oy:c.argTypes.toList[1]? = some g_)
 {n m:Nat} {get lO:Nat→V} (hs:rd g.env g.bO p tt o.type (.tmp s)=some (.full b1.size n get)) (Ak:1≤b1.bytes) (hm:1≤m)
 {news:List Value} (iy:Src P b1.size g_ ((⟨tmps,[]⟩:Act).eval x) m news w) (ls:k0 M b1.size m lO news) (fZ:(n+m)*b1.bytes≤140737488355328)
 {y:V} (bV:gM (.bq b1.size (n+m) λi=>bif Nat.blt i n then get i else lO (i-n)) y) {rs:List e6} {aO:List Prop}:
 Yields P K M β g {e:=some {d:=.v y,own:=some e},g0:=[s],rs,aO} o tmps w:=by
 obtain⟨r⟩:=ee cf ab;obtain⟨dy⟩:=ee cf ep;have ox:=h.bd.g0 [s];have eu:=dK (ds:=[]) h hp hs;have Al:P.underlying t=some (.slice e):=by rw [r.hd,pf r hk]
 have uL:(⟨tmps,[]⟩:Act).eval (.tmp s)=tmps.getD s undef:=rfl;rw [uL]at eu
 have ph:∃base,tmps.getD s undef = .slice base n n∧cP M (.slice base n n) (.bq b1.size n get):=by
  generalize tmps.getD s undef=ht at eu
  cases eu with
  |full base k n get h=>exact⟨base,rfl,h⟩
 obtain⟨base,am,gj⟩:=ph;have bm:n<n+m:=by omega
 have uM:∃ef:List Value,k0 M b1.size n get ef∧∀w':World,w'.heap=w.heap→(Builtin.firstCells b1.size n (.slice base n n)).run P w' = .ok ef.toArray w':=by
  rcases Ks (ce.v _ _ gj:ce M β _ _) with⟨sI|⟨a,sI⟩,jJ⟩|⟨b,off,cap,ef,sI,hcap,holds,hold⟩
  ·simp only [Value.slice.injEq]at sI;obtain⟨rfl,rfl,_⟩:=sI;exact⟨[],xf _ _,λw' _=>run_firstCells_none w' b1.size 0 0 0⟩
  ·simp only [Value.slice.injEq]at sI;obtain⟨rfl,rfl,_⟩:=sI;refine⟨[],xf _ _,λw' nF=>?_⟩
   exact run_firstCells_some (P:=P) w' b1.size 0 a 0 0 [] (by simp) (λj u hj=>by simp at hj)
  ·simp only [Value.slice.injEq]at sI;obtain⟨rfl,_,rfl⟩:=sI;refine⟨ef,holds,λw' nF=>?_⟩
   refine run_firstCells_some (P:=P) w' b1.size n ⟨b,off,none⟩ n n ef (by rw [holds.len]) (λj u hj=>?_)
   rw [addr_add,re (w:=w) (by rw [nF])]
   exact h.bd.mem _ _ _ (hold j u hj)
 obtain⟨ef,holds,uM⟩:=uM
 have Kv:((n+m:Nat):Int)≤9223372036854775807:=by
  have:n+m≤(n+m)*b1.bytes:=Nat.le_mul_of_pos_right _ Ak
  omega
 have Kw:=growslice_fits (need:=n+m) (old:=n) (bytes:=b1.bytes) bm fZ;have hcap:=grownCap_ge w (n+m) n e;have rq:=holds.app ls
 have uN:dy.z.cells.size=b1.size:=by
  obtain⟨mQ,_⟩:=w_ (M:=M) dy.Aa;have:=dy.J'
  simp at mQ;omega
 generalize uF:(Builtin.zeroCells dy.z.cells (grownCap w (n+m) n e-(n+m))).toList=zs
 have Kx:Builtin.zeroCells dy.z.cells (grownCap w (n+m) n e-(n+m))=zs.toArray:=by rw [←uF]
 have Ky:zs.length=(grownCap w (n+m) n e-(n+m))*b1.size:=by
  rw [←uF];simp [Builtin.zeroCells,uN]
 have eO:∀ty,(Builtin.append_ #[t,g_] ty #[tmps.getD s undef,(⟨tmps,[]⟩:Act).eval x]).run P w =
  .ok (.slice (some ⟨w.heap.size,0,none⟩) (n+m) (grownCap w (n+m) n e)) (w.drew.alloc (.cells ⟨ef++news++zs⟩ e (0,0))):=by
  intro ty;have:=run_append_grow_src (P:=P) w t g_ ty e dy.info dy.z Al dy.hi dy.cx base n n ef (by rw [dy.size];exact uM w.drew rfl) _ m news (by rw [dy.size];exact iy) bm Kv (by rw [dy.bytes];exact Kw)
  rw [am,this,Kx];simp
 have nF:(w.drew.alloc (.cells ⟨ef++news++zs⟩ e (0,0))).heap=w.heap.push (.cells ⟨ef++news++zs⟩ e (0,0)):=rfl
 have Kz:(ef++news++zs).length=grownCap w (n+m) n e*b1.size:=by
  rw [List.length_append,rq.len,Ky,←Nat.add_mul];congr 1;omega
 obtain⟨cw,hle⟩:=ox.newRow (vs:=ef++news++zs) (T:=e) (n:=(n+m)*b1.size) nF
 have Af:(ef++news++zs).take ((n+m)*b1.size)=ef++news:=by
  rw [List.take_append_of_le_length (by rw [rq.len];exact Nat.le_refl _),List.take_of_length_le (by rw [rq.len];exact Nat.le_refl _)]
 refine .inl ⟨_,_,Es an hc ey gy oy uL rfl eO,_,β,hle,λ_ _ h=>h,λ_ _ h=>.inl h,cw,λe1 he=>?_⟩
 cases he;refine⟨.v _ _ (bV _ _ ((rq.mono hle).bq hcap λq u hu=>?_)),λT l0 aA=>?_⟩
 ·rw [Af];exact Er hu
 ·cases aA;have:=Ko (l0:=l0) (T:=e) ox (vs:=ef++news++zs) (T':=e) (n:=n+m) (cap:=grownCap w (n+m) n e) rfl nF hcap (by rw [dy.cellsOf,Kz];exact Nat.le_refl _)
  rw [dy.cellsOf]at this;exact this
def Se(h:ft P K N M β g tmps w)(hp:fB tmps p)(cf:e_ P tt=true){t g_ e:TypeId}{aE b1:en}(ab:look tt t=some aE)(hk:aE.k = .bq e)(ep:look tt e=some b1){s:Nat}{x:Operand}{c:Call}
 (an:o.op = .call c) (hc:c.callee = .builtin .append) (ey:c.args.toList=[.tmp s,x]) (gy:c.argTypes.toList[0]? = some t) (oy:c.argTypes.toList[1]? = some g_)
 {n m:Nat} {get lO:Nat→V} (hs:rd g.env g.bO p tt o.type (.tmp s)=some (.v (.bq b1.size n get))) {KA:aP} (Am:look g.env s=some KA) (fW:KA.own=some e) (Ak:1≤b1.bytes)
 {news:List Value} (iy:Src P b1.size g_ ((⟨tmps,[]⟩:Act).eval x) m news w) (ls:k0 M b1.size m lO news) (fZ:(n+m)*b1.bytes≤140737488355328)
 {y:V} (bV:gM (.bq b1.size (n+m) λi=>bif Nat.blt i n then get i else lO (i-n)) y) {rs:List e6} {aO:List Prop}:
 Yields P K M β g {e:=some {d:=.v y,own:=some e},g0:=[s],rs,aO} o tmps w:=by
 obtain⟨r⟩:=ee cf ab;obtain⟨dy⟩:=ee cf ep;have ox:=h.bd.g0 [s];have eu:=dK (ds:=[]) h hp hs;have Al:P.underlying t=some (.slice e):=by rw [r.hd,pf r hk]
 have uL:(⟨tmps,[]⟩:Act).eval (.tmp s)=tmps.getD s undef:=rfl;rw [uL]at eu;have KB:=h.bd.own (.slot s) KA e Am fW;simp only [cc]at KB;have An:=h.bd.hand Am fW
 -- lu row aaK is grown
 have Sf:∀(base:Option Addr) (lr:Nat) (ef:List Value),tmps.getD s undef = .slice base n lr→k0 M b1.size n get ef→
  (∀w':World,w'.heap=w.heap→(Builtin.firstCells b1.size n (.slice base n lr)).run P w' = .ok ef.toArray w')→lr<n+m→
  Yields P K M β g {e:=some {d:=.v y,own:=some e},g0:=[s],rs,aO} o tmps w:=by
  intro base lr ef am holds uM bm
  have Kv:((n+m:Nat):Int)≤9223372036854775807:=by
   have:n+m≤(n+m)*b1.bytes:=Nat.le_mul_of_pos_right _ Ak
   omega
  have Kw:=growslice_fits (need:=n+m) (old:=lr) (bytes:=b1.bytes) bm fZ;have hcap:=grownCap_ge w (n+m) lr e;have rq:=holds.app ls
  have uN:dy.z.cells.size=b1.size:=by
   obtain⟨mQ,_⟩:=w_ (M:=M) dy.Aa;have:=dy.J'
   simp at mQ;omega
  generalize uF:(Builtin.zeroCells dy.z.cells (grownCap w (n+m) lr e-(n+m))).toList=zs
  have Kx:Builtin.zeroCells dy.z.cells (grownCap w (n+m) lr e-(n+m))=zs.toArray:=by rw [←uF]
  have Ky:zs.length=(grownCap w (n+m) lr e-(n+m))*b1.size:=by
   rw [←uF];simp [Builtin.zeroCells,uN]
  have eO:∀ty,(Builtin.append_ #[t,g_] ty #[tmps.getD s undef,(⟨tmps,[]⟩:Act).eval x]).run P w =
   .ok (.slice (some ⟨w.heap.size,0,none⟩) (n+m) (grownCap w (n+m) lr e)) (w.drew.alloc (.cells ⟨ef++news++zs⟩ e (0,0))):=by
   intro ty;have:=run_append_grow_src (P:=P) w t g_ ty e dy.info dy.z Al dy.hi dy.cx base n lr ef (by rw [dy.size];exact uM w.drew rfl) _ m news (by rw [dy.size];exact iy) bm Kv (by rw [dy.bytes];exact Kw)
   rw [am,this,Kx];simp
  have nF:(w.drew.alloc (.cells ⟨ef++news++zs⟩ e (0,0))).heap=w.heap.push (.cells ⟨ef++news++zs⟩ e (0,0)):=rfl
  have Kz:(ef++news++zs).length=grownCap w (n+m) lr e*b1.size:=by
   rw [List.length_append,rq.len,Ky,←Nat.add_mul];congr 1;omega
  obtain⟨cw,hle⟩:=ox.newRow (vs:=ef++news++zs) (T:=e) (n:=(n+m)*b1.size) nF
  have Af:(ef++news++zs).take ((n+m)*b1.size)=ef++news:=by
   rw [List.take_append_of_le_length (by rw [rq.len];exact Nat.le_refl _),List.take_of_length_le (by rw [rq.len];exact Nat.le_refl _)]
  refine .inl ⟨_,_,Es an hc ey gy oy uL rfl eO,_,β,hle,λ_ _ h=>h,λ_ _ h=>.inl h,cw,λe1 he=>?_⟩
  cases he;refine⟨.v _ _ (bV _ _ ((rq.mono hle).bq hcap λq u hu=>?_)),λT l0 aA=>?_⟩
  ·rw [Af];exact Er hu
  ·cases aA;have:=Ko (l0:=l0) (T:=e) ox (vs:=ef++news++zs) (T':=e) (n:=n+m) (cap:=grownCap w (n+m) lr e) rfl nF hcap (by rw [dy.cellsOf,Kz];exact Nat.le_refl _)
   rw [dy.cellsOf]at this;exact this
 have bK:(tmps.getD s undef = .slice none 0 0∧n=0)∨∃(b off cap:Nat) (ef:List Value),tmps.getD s undef = .slice (some ⟨b,off,none⟩) n cap∧n≤cap∧k0 M b1.size n get ef∧∀(q:Nat) u,ef[q]? = some u→M b (off+q)=some u:=by
  rcases Ks eu with⟨am|⟨a,am⟩,jJ⟩|hx
  ·exact .inl ⟨am,jJ⟩
  ·subst jJ;rcases KB with h0|⟨bo,n',Sg,vs,T',Z,_⟩
   ·exact .inl ⟨h0,rfl⟩
   ·rw [am]at Z;simp only [Value.slice.injEq,Option.some.injEq]at Z;obtain⟨rfl,rfl,rfl⟩:=Z;exact .inr ⟨bo,0,0,[],am,Nat.le_refl _,xf _ _,λq u hu=>by simp at hu⟩
  ·exact .inr hx
 rcases bK with⟨am,jJ⟩|⟨b,off,cap,ef,am,hcap,holds,hold⟩
 ·subst jJ;by_cases hm:m=0
  ·subst hm;refine .inl ⟨_,_,Es an hc ey gy oy (uL.trans am) rfl (λty=>aaI (w:=w) t g_ ty e dy.info Al dy.hi _ news (by rw [dy.size];exact iy)),M,β,Mem.le_refl _,λ_ _ h=>h,λ_ _ h=>.inl h,ox,λe1 he=>?_⟩
   cases he;exact⟨.v _ _ (bV _ _ (.mh _ _)),λT l0 _=>J5 l0 T⟩
  ·refine Sf none 0 [] am (xf _ _) (λw' _=>run_firstCells_none w' b1.size 0 0 0) (by omega)
 ·by_cases bm:cap<n+m
  ·refine Sf (some ⟨b,off,none⟩) cap ef am holds (λw' nF=>?_) bm
   refine run_firstCells_some (P:=P) w' b1.size n ⟨b,off,none⟩ n cap ef (by rw [holds.len]) (λj u hj=>?_)
   rw [addr_add,re (w:=w) (by rw [nF])]
   exact h.bd.mem _ _ _ (hold j u hj)
  · -- there is room
   rcases KB with h0|⟨bo,n',Sg,vs,T',Z,al1,bh,mU,kb,du,rm⟩
   ·rw [am]at h0;simp at h0
   ·rw [am]at Z;simp only [Value.slice.injEq,Option.some.injEq,Addr.mk.injEq,and_true]at Z;obtain⟨⟨rfl,rfl⟩,rfl,rfl⟩:=Z;rw [dy.cellsOf]at mU kb
    have hlen:n*b1.size+news.length≤vs.length:=by
     rw [ls.len,←Nat.add_mul];exact Nat.le_trans (Nat.mul_le_mul_right _ (by omega)) mU
    have eO:∀ty,(Builtin.append_ #[t,g_] ty #[tmps.getD s undef,(⟨tmps,[]⟩:Act).eval x]).run P w =
     .ok (.slice (some ⟨b,0,none⟩) (n+m) cap) (w.setRow b (vs.take (n*b1.size)++news++vs.drop (n*b1.size+news.length)).toArray):=by
     intro ty;have:=aaH (P:=P) (w:=w) t g_ ty e dy.info Al dy.hi b n cap _ m news (by rw [dy.size];exact iy) (by omega) bh (by rw [dy.size];exact hlen)
     rw [dy.size]at this;rw [am,this]
    generalize Sh:vs.take (n*b1.size)++news++vs.drop (n*b1.size+news.length)=vs' at eO
    have aaL:vs'.length=vs.length:=by rw [←Sh,Ag hlen]
    have uG:(w.setRow b vs'.toArray).heap[b]? = some (.cells ⟨vs'⟩ T' (0,0)):=setRow_heap w b _ _ T' (0,0) bh;have hle:M.le (iK M b (n*b1.size) news):=Kn kb;have j':hH (tmps.getD s undef)=some b:=by rw [am];rfl
    have cw:bw P K (iK M b (n*b1.size) news) β {env:=gN [s] g.env,H:=g.H,aK:=g.aK} tmps (w.setRow b vs'.toArray):=by
     refine ox.free b du (λr cs ah hb=>(An (.slot s)).unbox b r cs j' ah hb) (λl e1 gP eJ sJ=>?_) (λbo dj _=>setRow_other w b bo _ dj) hle (λbo o' dj=>?_) (λo' mt oz=>?_)
     ·by_cases Et:l = .slot s
      ·subst Et;simp only [aC.at,nG,List.mem_singleton,if_true,Option.map_eq_some_iff]at eJ;obtain⟨_,_,rfl⟩:=eJ;simp at sJ
      ·exact(An (.slot s)).apart l e1 gP b eJ sJ Et j'
     ·simp [iK,dj]
     ·rw [cell_of_heap uG,←Sh,Kr hlen];unfold iK at oz;split at oz
      ·rename_i jG;rw [if_pos ⟨jG.2.1,jG.2.2⟩];exact oz
      ·rename_i jG;rw [if_neg (λAo=>jG ⟨rfl,Ao.1,Ao.2⟩)]
       have:=h.bd.mem _ _ _ oz
       rwa [cell_of_heap bh]at this
    refine .inl ⟨_,_,Es an hc ey gy oy uL rfl eO,_,β,hle,λ_ _ h=>h,λ_ _ h=>.inl h,cw,λe1 he=>?_⟩
    cases he;refine⟨.v _ _ (bV _ _ (((holds.app ls).mono hle).bq (by omega) λq u hu=>?_)),λT l0 aA=>?_⟩
    ·by_cases ak:q<ef.length
     ·rw [List.getElem?_append_left ak]at hu;exact hle _ _ _ (hold q u hu)
     ·rw [List.getElem?_append_right (by omega)]at hu
      have:=Er (M:=M) (b:=b) (lo:=n*b1.size) hu
      rw [holds.len]at this;rw [Nat.zero_add];have pi:n*b1.size+(q-n*b1.size)=q:=by rw [holds.len]at ak;omega
      rwa [pi]at this
    ·cases aA;refine⟨.inr ⟨b,n+m,cap,vs',T',rfl,by omega,uG,by rw [dy.cellsOf,aaL];exact mU,λo' ky=>?_,du,rm⟩,λl e1 gP cG eJ sJ _ cZ=>?_,λcG r cs cZ ah=>?_⟩
     ·rw [dy.cellsOf,Nat.add_mul]at ky;unfold iK;rw [if_neg (λAo=>by rw [ls.len]at Ao;omega)]
      exact kb o' (by omega)
     ·simp [hH]at cZ;subst cZ
      have Et:l ≠ .slot s:=by
       rintro rfl
       simp only [after,aC.at,nG,List.mem_singleton,if_true,Option.map_eq_some_iff]at eJ;obtain⟨_,_,rfl⟩:=eJ;simp at sJ
      have aaM:cc tmps (w.setRow b vs'.toArray) β l=cc tmps w β l:=by
       cases l with
       |slot sE=>rfl
       |cell r i=>
        have ep:=eJ;simp only [after,aC.at]at ep;cases ah:look g.H r with
        |none=>simp [ah]at ep
        |some cs=>
         obtain⟨gz,aaN,pd,fA,Si,_⟩:=h.bd.box r cs ah;have dj:gz≠b:=by rintro rfl;exact(An (.slot s)).unbox gz r cs j' ah fA
         simp only [cc,fA];rw [re (w:=w) (setRow_other w b gz _ dj)]
      rw [aaM];exact(An (.slot s)).apart l e1 gP b eJ sJ Et j'
     ·simp [hH]at cZ;subst cZ;exact(An (.slot s)).unbox b r cs j' ah
def Sj(h:bw P K M β {env:=g.env,H:=g.H,aK:=g.aK} tmps w)(cf:e_ P tt=true){g_ e2:TypeId}{aE:en}(ab:look tt g_=some aE)(hk:aE.k = .bq e2){v:Value}{k m:Nat}{get:Nat→V}
 (am:ce M β v (.v (.bq k m get))):∃news,Src P k g_ v m news w∧k0 M k m get news:=by
 obtain⟨r⟩:=ee cf ab;have hu:P.underlying g_=some (.slice e2):=by rw [r.hd,pf r hk]
 rcases Ks am with⟨rfl|⟨a,rfl⟩,rfl⟩|⟨b,off,cap,ef,rfl,_,ls,hold⟩
 ·exact⟨[],Src.ofNil w hu 0,xf _ _⟩
 ·exact⟨[],Src.ofSlice w hu a 0 0 [] (by simp) (λj u hj=>by simp at hj) (by simp),xf _ _⟩
 ·have hc:∀(j:Nat) u,ef[j]? = some u→w.cell? ((⟨b,off,none⟩:Addr).add j)=some u:=λj u hj=>by rw [addr_add];exact h.mem _ _ _ (hold j u hj)
  exact⟨ef,Src.ofSlice w hu _ m cap ef ls.len hc ls.one,ls⟩
def aaO(cf:e_ P tt=true){g_:TypeId}{aE:en}(ab:look tt g_=some aE)(hk:aE.k = .str)(l:ano)(M:Mem):
 ∃news,Src P 1 g_ (.string ⟨⟨l⟩⟩) l.length news w∧k0 M 1 l.length (λi=>.int .u8 (l.getD i 0).toNat) news:=by
 obtain⟨r⟩:=ee cf ab;have hu:P.underlying g_=some .string:=by rw [r.hd,p' r hk]
 refine⟨byteCells ⟨⟨l⟩⟩,Src.ofString w hu ⟨⟨l⟩⟩,⟨by simp [byteCells],λi _=>rfl,λu hu=>?_,λi j c u hi hc hu=>?_⟩⟩
 ·obtain⟨_,_,rfl⟩:=List.mem_map.1 hu;rfl
 ·cases j with
  |succ j=>simp [V.cells]at hc
  |zero=>
   simp [V.cells]at hc;subst hc;simp only [byteCells,Nat.mul_one,Nat.add_zero,List.getElem?_map,Option.map_eq_some_iff]at hu;obtain⟨a,ha,rfl⟩:=hu;have:l[i]? = some a:=ha
   simp [this];exact .int _ _
end
end Go.Ab

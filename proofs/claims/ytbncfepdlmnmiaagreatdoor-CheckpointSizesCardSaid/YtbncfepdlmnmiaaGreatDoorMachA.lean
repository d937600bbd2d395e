/- The abstract machine: a step of code over plain data, proved against the model. -/
import Derived.Orders
import Derived.KernelRfl
import Derived.Laws.Sem
import Derived.Laws.Entries
import Derived.ChangeKeysEq
import Derived.Laws.Cells
import Derived.Laws.CopyRow
import Derived.Laws.Slices
import Derived.Laws.Strings2
import Derived.Deep.AppendSrc
set_option linter.all false
namespace Go.Ab
abbrev ahs:=List UInt8
inductive V where
 |int (k:IntKind) (n:Int)
 |bool (b:Bool)
 |str (s:ahs)
 |agg (cs:List V)
 |bz (k n:Nat) (get:Nat→V)
 |iface (t:TypeId) (x:V)
 |dV |gM |aI
 |any
 |l8 (k:Nat) (get:Nat→V)
def V.cells:V→List V
 |.agg cs=>cs
 |x=>[x]
inductive D where
 |v (x:V)
 |ptr (r off:Nat)
 |ca (r off:Nat) (u:TypeId)
 |eA (x:V)
 |full (k n:Nat) (get:Nat→V)
 |fn (f:FuncId) (eO:List D)
 |agg (cs:List D)
 |b_ (cs:List D)
structure aR where
 d:D
 own:Option TypeId:=none
structure aF where
 env:List (Nat×aR)
 H:List (Nat×List aR)
 aT:Nat
inductive jW where
 |int (k:IntKind) |bool |str
 |bV (cl:List (Nat×TypeId×Nat))
 |bz (e:TypeId) |arr (n:Nat) (e:TypeId) |ptr |aS |l9
deriving DecidableEq
structure dZ where
 k:jW
 size:Nat
 bytes:Nat
 zero:List V
 h2:List (Nat×TypeId):=[]
abbrev de:=List (TypeId×dZ)
def look{α:Type}:List (Nat×α)→Nat→Option α
 |[],_=>none
 |(j,x)::l,i=>bif Nat.beq j i then some x else look l i
def del{α:Type}:List (Nat×α)→Nat→List (Nat×α)
 |[],_=>[]
 |(j,x)::l,i=>bif Nat.beq j i then del l i else(j,x)::del l i
def jW.isAgg:jW→Bool
 |.bV _ |.arr _ _=>true
 |_=>false
abbrev Path:=List (Nat×Bool)
def Path.has(p:Path)(x:Nat×Bool):Bool:=p.any λy=>Nat.beq y.1 x.1&&(y.2 == x.2)
def Path.sub(q p:Path):Bool:=q.all p.has
inductive Out where
 |ret (d:D) (own:Option TypeId)
 |bb (x:V)
inductive eT where
 |val (x:V)
 |raw
 |own
 |marks (c:Nat)
 |call (o:Out) (H:Option (List (List aR))) (os:List Nat)
def aV(i:Int)(n:Nat):Bool:=decide (0≤i)&&decide (i<n)
def gm(i:Int)(n:Nat):Bool:=decide (0≤i)&&decide (i≤n)
def nw(a b:Int)(n:Nat):Bool:=decide (0≤a)&&(decide (a≤b)&&decide (b≤n))
def r2(a:Int):Bool:=!decide (a=0)
def room(n b:Nat):Bool:=decide (n*b≤140737488355328)
def bW(n:Nat):Bool:=decide (n≤9223372036854775807)
structure cU where
 env:List (Nat×aR)
 bN:List (Nat×Path×D)
 H:List (Nat×List aR)
 aT:Nat
 rs:List eT
 a6:List Prop
 ids:List (Nat×Nat):=[]
def AB:Value→Option V
 |.int k n=>some (.int k n)
 |.bool b=>some (.bool b)
 |.string s=>some (.str s.data.toList)
 |.pointer none=>some .dV
 |.nilIface=>some .gM
 |.nilFunc=>some .aI
 |_=>none
def rd(env:List (Nat×aR))(bN:List (Nat×Path×D))(p:Path)(tt:de)(ty:TypeId):Operand→Option D
 |.tmp t=>match look bN t with
  |some (q,d)=>bif q.sub p then some d else none
  |none=>(look env t).map (·.d)
 |.const (.slice none 0 0)=>match look tt ty with
  |some {k:=.bz _,zero:=[.bz k 0 get],..}=>some (.v (.bz k 0 get))
  |_=>none
 |.const v=>(AB v).map .v
 |.func f=>some (.fn f [])
 |.global _=>none
def jI(f:TypeId→Operand→Option D):List Operand→List TypeId→Option (List D)
 |[],_=>some []
 |x::xs,t::ts=>match f t x,jI f xs ts with
  |some d,some ds=>some (d::ds)
  |_,_=>none
 |_::_,[]=>none
def tR:List D→Option (List V)
 |[]=>some []
 |.v x::l=>(tR l).map (x :: ·)
 |_::_=>none
def ko(cs:List D):D:=match tR cs with|some vs=>.v (.agg vs)|none=>.agg cs
def cellsD:D→List D
 |.v x=>x.cells.map .v
 |.agg cs=>cs
 |d=>[d]
def ol:List D→Bool
 |[]=>true
 |.ca _ _ _::_=>false
 |_::l=>ol l
def nx:D→Bool
 |.b_ _=>true
 |_=>false
def setAt{α:Type}:List α→Nat→List α→List α
 |cs,0,[]=>cs
 |_::cs,0,x::xs=>x::setAt cs 0 xs
 |c::cs,n+1,xs=>c::setAt cs n xs
 |[],_,_=>[]
def om(place:Nat→Option (Nat×Nat))(cells:List D):List (Nat×D)→Option (List D)
 |[]=>some cells
 |(i,d)::rest=>match place i with
  |none=>none
  |some (off,size)=>
   bif Nat.beq (cellsD d).length size&&Nat.ble (off+size) cells.length && !nx d then om place (setAt cells off (cellsD d)) rest else none
abbrev Mem:=Nat→Nat→Option Value
def Mem.le(M M':Mem):Prop:=∀b o v,M b o=some v→M' b o=some v
def Mem.le_refl(M:Mem):M.le M:=λ_ _ _ h=>h
def Mem.le_trans{A B C:Mem}(h:A.le B)(c8:B.le C):A.le C:=λb o v e=>c8 b o v (h b o v e)
inductive cT(M:Mem):Value→V→Prop where
 |int (k:IntKind) (n:Int):cT M (.int k n) (.int k n)
 |bool (b:Bool):cT M (.bool b) (.bool b)
 |str (l:ahs):cT M (.string ⟨⟨l⟩⟩) (.str l)
 |agg (vs:List Value) (cs:List V) (hn:vs.length=cs.length) (ab:∀v,v∈vs→v.oneCell'=true)
  (h:∀(i:Nat) v c,vs[i]? = some v→cs[i]? = some c→cT M v c):cT M (.agg ⟨vs⟩) (.agg cs)
 |jJ (k:Nat) (get:Nat→V):cT M (.slice none 0 0) (.bz k 0 get)
 |l' (a:Addr) (k:Nat) (get:Nat→V):cT M (.slice (some a) 0 0) (.bz k 0 get)
 |bz (b off k n cap:Nat) (get:Nat→V) (val:Nat→Nat→Value) (hc:n≤cap)
  (hk:∀i,i<n→(get i).cells.length=k)
  (cP:∀i j,i<n→j<k→M b (off+i*k+j)=some (val i j)) (ab:∀i j,i<n→j<k→(val i j).oneCell'=true)
  (h:∀(i j:Nat) c,i<n→(get i).cells[j]? = some c→cT M (val i j) c):cT M (.slice (some ⟨b,off,none⟩) n cap) (.bz k n get)
 |iface (t:TypeId) (v:Value) (x:V) (h:cT M v x):cT M (.iface t v) (.iface t x)
 |dV:cT M (.pointer none) .dV
 |gM:cT M .nilIface .gM
 |aI:cT M .nilFunc .aI
 |any (v:Value) (ab:v.oneCell'=true):cT M v .any
 |l8 (k:Nat) (get:Nat→V):cT M (.slice none 0 0) (.l8 k get)
def f6(raw x:V):Prop:=∀(M:Mem) (v:Value),cT M v raw→cT M v x
def r3(k:IntKind)(a b:Int):Int:=k.wrap (BitVec.ofInt k.bits a &&& BitVec.ofInt k.bits b).toNat
def r4(k:IntKind)(a b:Int):Int:=k.wrap (BitVec.ofInt k.bits a |||BitVec.ofInt k.bits b).toNat
def tS(k:IntKind)(a b:Int):Int:=k.wrap (BitVec.ofInt k.bits a ^^^ BitVec.ofInt k.bits b).toNat
def AC(k:IntKind)(a b:Int):Int:=k.wrap (BitVec.ofInt k.bits a &&& ~~~BitVec.ofInt k.bits b).toNat
def r5(k:IntKind)(x y:Int):Int:=k.wrap (x*2 ^ min y.toNat k.bits)
def r6(k:IntKind)(x y:Int):Int:=x.fdiv (2 ^ min y.toNat k.bits)
def mN(y:Int):Bool:=decide (0≤y)
def AD(op:BinOp)(k:IntKind)(x y:Int):Option (V×List Prop):=
 match op with
 |.shl=>some (.int k (r5 k x y),[mN y=true])
 |.shr=>some (.int k (r6 k x y),[mN y=true])
 |_=>none
def AE(op:BinOp)(k:IntKind)(a b:Int):Option (V×List Prop):=
 match op with
 |.add=>some (.int k (k.wrap (a+b)),[])
 |.sub=>some (.int k (k.wrap (a-b)),[])
 |.mul=>some (.int k (k.wrap (a*b)),[])
 |.quo=>some (.int k (k.wrap (a.tdiv b)),[r2 b=true])
 |.rem=>some (.int k (a.tmod b),[r2 b=true])
 |.eql=>some (.bool (decide (a=b)),[])
 |.neq=>some (.bool (!decide (a=b)),[])
 |.lss=>some (.bool (decide (a<b)),[])
 |.leq=>some (.bool (decide (a≤b)),[])
 |.gtr=>some (.bool (decide (b<a)),[])
 |.geq=>some (.bool (decide (b≤a)),[])
 |.and=>some (.int k (r3 k a b),[])
 |.or=>some (.int k (r4 k a b),[])
 |.xor=>some (.int k (tS k a b),[])
 |.andNot=>some (.int k (AC k a b),[])
 |_=>none
def AF(op:BinOp)(a b:ahs):Option (V×List Prop):=
 match op with
 |.add=>some (.str (a++b),[bW (a.length+b.length)=true])
 |.eql=>some (.bool (decide (a=b)),[])
 |.neq=>some (.bool (!decide (a=b)),[])
 |.lss=>some (.bool (Op.bytesLess a b),[])
 |.leq=>some (.bool (Op.bytesLess a b||decide (a=b)),[])
 |.gtr=>some (.bool (!(Op.bytesLess a b||decide (a=b))),[])
 |.geq=>some (.bool (!Op.bytesLess a b),[])
 |_=>none
def isNil:jW→D→Option Bool
 |.ptr,.v .dV=>some true
 |.ptr,.ptr _ _=>some false
 |.ptr,.eA _=>some false
 |.l9,.v .gM=>some true
 |.l9,.v (.iface _ _)=>some false
 |.aS,.v .aI=>some true
 |.aS,.fn _ _=>some false
 |_,_=>none
def w1:jW→D→Bool
 |.ptr,.v .dV=>true
 |.l9,.v .gM=>true
 |.aS,.v .aI=>true
 |_,_=>false
def hz:List (Option jW)→List V→List V→Option Bool
 |[],[],[]=>some true
 |some (.int _)::ks,.int k a::l,.int k' b::m=>bif decide (k=k') then(hz ks l m).map λr=>decide (a=b)&&r else none
 |some .str::ks,.str a::l,.str b::m=>(hz ks l m).map λr=>decide (a=b)&&r
 |some .bool::ks,.bool a::l,.bool b::m=>(hz ks l m).map λr=>(a == b)&&r
 |_,_,_=>none
def kp(tt:de):Nat→List (Nat×TypeId×Nat)→List (Option jW)
 | 0,cl=>cl.map λf=>(look tt f.2.1).map (·.k)
 |d+1,cl=>cl.flatMap λf=>match look tt f.2.1 with
  |some {k:=.bV gs,..}=>kp tt d gs
  |o=>[o.map (·.k)]
def IQ(k:Option jW)(Vj:Bool)(op:BinOp)(a b:D):Option (V×List Prop):=
 match a,b with
 |.v (.int k x),.v (.int k' y)=>match AD op k x y with
  |some z=>some z
  |none=>bif decide (k=k')then AE op k x y else none
 |.v (.str x),.v (.str y)=>AF op x y
 |.v (.bool x),.v (.bool y)=>match k,op with
  |some .bool,.eql=>some (.bool (x == y),[])
  |some .bool,.neq=>some (.bool (!(x == y)),[])
  |_,_=>none
 |a,b=>match k with
  |some k=>bif w1 k b&&Vj then match isNil k a,op with
   |some t,.eql=>some (.bool t,[])
   |some t,.neq=>some (.bool (!t),[])
   |_,_=>none
   else none
  |none=>none
def isConst:Operand→Bool
 |.const _=>true
 |_=>false
def IR(op:UnOp)(a:V):Option V:=
 match op,a with
 |.not,.bool b=>some (.bool (!b))
 |.neg,.int k n=>some (.int k (k.wrap (0-n)))
 |_,_=>none
def tT(env:List (Nat×aR))(bN:List (Nat×Path×D))(t:Nat):Option Bool:=
 match look bN t with
 |some (_,.v (.bool b))=>some b
 |some _=>none
 |none=>match look env t with
  |some ⟨.v (.bool b),_⟩=>some b
  |_=>none
def under(g:cU):Path→Prop→Prop
 |[],q=>q
 |(t,w)::p,q=>match tT g.env g.bN t with
  |some b=>b=w→under g p q
  |none=>under g p q
structure jj where
 e:Option aR
 f8:List Nat:=[]
 hs:List (Nat×List aR):=[]
 ff:Nat:=0
 rs:List eT
 a6:List Prop:=[]
def l_(g:cU):Operand→Option TypeId
 |.tmp t=>(look g.env t).bind (·.own)
 |_=>none
def Vk(t:Nat)(o:Oper):Bool:=
 match o.op with
 |.assign (.tmp u)=>Nat.beq u t
 |.store _ _ (.tmp u)=>Nat.beq u t
 |.call {callee:=.builtin .append,args,..}=>match args.toList with
  |.tmp u::_=>Nat.beq u t
  |_=>false
 |_=>false
def Vl(ops:List Oper)(dst:Option Nat):Bool:=
 match dst with
 |some t=>ops.any (Vk t)
 |none=>false
def refs:D→List Nat
 |.ptr r _=>[r]
 |.ca r _ _=>[r]
 |.fn _ eO=>eO.flatMap fun |.ptr r _=>[r] |_=>[]
 |.agg cs=>cs.flatMap fun |.ptr r _=>[r] |.ca r _ _=>[r] |.fn _ eO=>(eO.flatMap fun |.ptr r _=>[r] |_=>[]) |_=>[]
 |_=>[]
def idx(l:List Nat)(r:Nat):Option Nat:=
 match l with
 |[]=>none
 |x::l=>bif Nat.beq x r then some 0 else(idx l r).map (· + 1)
def dedup:List Nat→List Nat
 |[]=>[]
 |x::l=>bif (dedup l).any (Nat.beq x)then dedup l else x::dedup l
mutual
def dW(f:Nat→Option Nat):D→Option D
 |.v x=>some (.v x)
 |.ptr r off=>(f r).map (.ptr · off)
 |.ca r off u=>(f r).map (.ca · off u)
 |.eA x=>some (.eA x)
 |.full k n get=>some (.full k n get)
 |.fn g eO=>(jk f eO).map (.fn g)
 |.agg cs=>(jk f cs).map .agg
 |.b_ cs=>(jk f cs).map .b_
def jk(f:Nat→Option Nat):List D→Option (List D)
 |[]=>some []
 |d::l=>match dW f d,jk f l with
  |some dH,some cr=>some (dH::cr)
  |_,_=>none
end
def w2(f:Nat→Option Nat)(e:aR):Option aR:=(dW f e.d).map λd=>{d,own:=e.own}
def kK(f:Nat→Option Nat):List aR→Option (List aR)
 |[]=>some []
 |e::l=>match w2 f e,kK f l with
  |some aZ,some cr=>some (aZ::cr)
  |_,_=>none
def ij(f:Nat→Option Nat):List (List aR)→Option (List (List aR))
 |[]=>some []
 |b::l=>match kK f b,ij f l with
  |some bF,some cr=>some (bF::cr)
  |_,_=>none
def boxes(H:List (Nat×List aR)):List Nat→Option (List (List aR))
 |[]=>some []
 |r::l=>match look H r,boxes H l with
  |some b,some bs=>some (b::bs)
  |_,_=>none
def cH{α:Type}:Nat→List α→List (Nat×α)
 |_,[]=>[]
 |n,x::l=>(n,x)::cH (n+1) l
def jl:List Nat→List (List aR)→List (Nat×List aR)
 |r::l,b::bs=>(r,b)::jl l bs
 |_,_=>[]
def mapM'{α β:Type}(f:α→Option β):List α→Option (List β)
 |[]=>some []
 |x::l=>match f x,mapM' f l with
  |some y,some ys=>some (y::ys)
  |_,_=>none
structure fI where
 call:FuncId→List D→List (Nat×TypeId)→List (List aR)→Out→List (List aR)→Prop
 eq:TypeId→Bool
inductive lk where
 |go (e:jj)
 |bb (x:V) (hs:List (Nat×List aR)) (a6:List Prop)
def ma(H:List (Nat×List aR)):Nat→List Nat→List Nat
 | 0,l=>l
 |n+1,l=>ma H n (dedup (l++l.flatMap λr=>((look H r).getD []).flatMap λe=>refs e.d))
def kL:List Nat→Bool
 |[]=>true
 |x::l=>!l.any (Nat.beq x)&&kL l
def handed(tt:de)(g:cU)(xs:List Operand)(ts:List TypeId):List Nat→Option (List (Nat×Option Nat×TypeId))
 |[]=>some []
 |i::os=>match xs[i]?,handed tt g xs ts os with
  |some (.tmp t),some l=>match look g.env t with
   |some ⟨_,some e⟩=>bif (look g.bN t).isNone&&l.all (λx=>!(match x.2.1 with |some u=>Nat.beq u t |none=>false) && !Nat.beq x.1 i)then some ((i,some t,e)::l)else none
   |_=>none
  |some (.const (.slice none 0 0)),some l=>match(ts[i]?).bind (look tt) with
   |some {k:=.bz e,..}=>bif l.all (λx=>!Nat.beq x.1 i)then some ((i,none,e)::l)else none
   |_=>none
  |_,_=>none
def r7(b5:fI)(tt:de)(g:cU)(p:Path)(xs:List Operand)(ts:List TypeId)(f:FuncId)(args:List D):Option lk:=
 let ρ:=ma g.H 2 (dedup (args.flatMap refs))
 match g.rs with
 |.call out cn os::rs=>
  match jk (idx ρ) args,(boxes g.H ρ).bind (ij (idx ρ)),handed tt g xs ts os with
  |some h3,some H1,some hd=>bif !kL ρ || !(p.isEmpty||os.isEmpty)then none else
   let dM:=hd.map λx=>(x.1,x.2.2)
   let f8:=hd.filterMap λx=>x.2.1
   match out,cn with
   |.ret d own,none=>(dW (λj=>ρ[j]?) d).map λdH=>.go {e:=some {d:=dH,own},f8,rs,a6:=[b5.call f h3 dM H1 out H1]}
   |.ret d own,some cn=>match dW (λj=>ρ[j]?) d,ij (λj=>ρ[j]?) cn with
    |some dH,some g'=>bif Nat.beq cn.length ρ.length then some (.go {e:=some {d:=dH,own},f8,hs:=jl ρ g',rs,a6:=[b5.call f h3 dM H1 out cn]})else none
    |_,_=>none
   |.bb x,none=>some (.bb x [] [b5.call f h3 dM H1 out H1])
   |.bb x,some cn=>match ij (λj=>ρ[j]?) cn with
    |some g'=>bif Nat.beq cn.length ρ.length then some (.bb x (jl ρ g') [b5.call f h3 dM H1 out cn])else none
    |none=>none
  |_,_,_=>none
 |_=>none
def w3:V→Option TypeId→Option TypeId
 |.bz _ _ _,t=>t
 |_,_=>none
def IS(tt:de):Nat→List (Nat×TypeId×Nat)→Nat→Option TypeId
 | 0,_,_=>none
 |d+1,cl,j=>match cl.find? λf=>Nat.ble f.1 j&&Nat.blt j (f.1+f.2.2) with
  |some f=>match look tt f.2.1 with
   |some {k:=.bz e,..}=>some e
   |some {k:=.bV gs,..}=>IS tt d gs (j-f.1)
   |_=>none
  |none=>none
def w4(tt:de):jW→Nat→Option TypeId
 |.bV cl,j=>IS tt 5 cl j
 |.bz e,0=>some e
 |_,_=>none
def IT(tt:de)(h2:List (Nat×TypeId))(k:jW)(i:Nat):Option TypeId:=
 match w4 tt k i with
 |some e=>some e
 |none=>(h2.find? λy=>Nat.beq (y.1+1) i).bind λy=>match look tt y.2 with |some {k,..}=>w4 tt k 1 |none=>none
def tU(h2:List (Nat×TypeId))(id i:Nat)(x:V):D:=
 match x with
 |.dV=>match h2.find? λy=>Nat.beq y.1 i with
  |some y=>.ca id i y.2
  |none=>.v x
 |_=>.v x
def w5(tt:de)(t:TypeId)(id:Nat):Option (List aR):=
 match look tt t with
 |some {k:=.bz e,zero,..}=>some (zero.map λx=>{d:=.v x,own:=w3 x (some e)})
 |some {k:=.bV cl,zero,h2,..}=>some ((cH 0 zero).map fun(i,x)=>
  {d:=tU h2 id i x,own:=w3 x (IT tt h2 (.bV cl) i)})
 |some {zero,..}=>some (zero.map λx=>{d:=.v x})
 |none=>none
def V.isAgg:V→Bool
 |.agg _=>true
 |_=>false
def AG:V→V
 |.bz k 0 g=>.l8 k g
 |x=>x
def mO(ty:Nat→Option TypeId):Nat→List aR→List aR
 |_,[]=>[]
 |i,e::l=>(match e.d with
  |.v (.l8 k g)=>{d:=.v (.bz k 0 g),own:=ty i}
  |_=>e)::mO ty (i+1) l
def elems(isAgg:Bool)(size:Nat):Nat→List (Nat×D)→Option (List V)
 |_,[]=>some []
 |i,(j,.v x)::cp=>bif Nat.beq i j&&Nat.beq x.cells.length size&&(x.isAgg == isAgg) then(elems isAgg size (i+1) cp).map (x :: ·)else none
 |_,_=>none
def oo(tt:de)(t:TypeId)(i:Nat):TypeId:=
 match look tt t with
 |some {k:=.bV cl,..}=>match cl[i]? with
  |some f=>f.2.1
  |none=>0
 |some {k:=.arr _ e,..}=>e
 |some {k:=.bz e,..}=>e
 |_=>0
def r8(tt:de)(aE:dZ)(id i:Nat)(d:D):aR:=
 match d with
 |.v .dV=>{d:=tU aE.h2 id i .dV}
 |.v (.l8 k g)=>match IT tt aE.h2 aE.k i with
  |some T=>{d:=.v (.bz k 0 g),own:=some T}
  |none=>{d}
 |d=>{d}
def ny(tt:de)(aE:dZ)(id:Nat):Nat→List D→List aR
 |_,[]=>[]
 |i,d::l=>r8 tt aE id i d::ny tt aE id (i+1) l
def ll(g:cU)(o:Oper):Option (Nat×Nat):=
 match o.dst.bind (look g.ids) with
 |some id=>bif (look g.H id).isNone&&Nat.blt id g.aT then some (id,0)else none
 |none=>some (g.aT,1)
def IU:Nat→Nat→List (Nat×TypeId)
 | 0,_=>[]
 |f+1,c=>bif Nat.beq c 0 then[] else((c % 1000000-1) / 1000,(c % 1000000-1) % 1000)::IU f (c / 1000000)
def marks(T:Nat):List (Nat×TypeId):=IU 8 (T / 1000000)
def marksOf:Nat→List aR→List (Nat×TypeId)
 |_,[]=>[]
 |i,e::l=>match e.own with
  |some T=>(i,T)::marksOf (i+1) l
  |none=>marksOf (i+1) l
def o_:List (Nat×TypeId)→List (Nat×TypeId)→Bool
 |[],[]=>true
 |x::l,y::m=>Nat.beq x.1 y.1&&Nat.beq x.2 y.2&&o_ l m
 |_,_=>false
def r9:List (Nat×TypeId)→Nat→Option TypeId
 |[],_=>none
 |x::l,i=>bif Nat.beq x.1 i then some x.2 else r9 l i
def AH:D→Bool
 |.v (.agg _)=>true
 |.agg _=>true
 |_=>false
def mP(ms:List (Nat×TypeId)):Nat→List D→List aR
 |_,[]=>[]
 |i,d::l=>{d,own:=r9 ms i}::mP ms (i+1) l
def step1(b5:fI)(tt:de)(ops:List Oper)(g:cU)(p:Path)(o:Oper):Option lk:=
 let r:=rd g.env g.bN p tt o.type
 let val (d:Option D):Option lk:=d.map λd=>.go {e:=some {d},rs:=g.rs}
 let tV (x:Option (V×List Prop)):Option lk:=x.map fun(x,a6)=>.go {e:=some {d:=.v x},rs:=g.rs,a6}
 let w6 (raw:V) (mk:V→D) (a6:List Prop):Option lk:=match g.rs with
  |.val x::rs=>some (.go {e:=some {d:=mk x},rs,a6:=f6 raw x::a6})
  |.raw::rs=>some (.go {e:=some {d:=mk raw},rs,a6:=a6})
  |_=>none
 match o.op with
 |.move x=>match r x with
  |some d=>match l_ g x,x with
   |some e,.tmp t=>match g.rs with
    |.own::rs=>bif p.isEmpty then some (.go {e:=some {d,own:=some e},f8:=[t],rs})else none
    |_=>bif p.isEmpty&&Vl ops o.dst then some (.go {e:=some {d,own:=some e},f8:=[t],rs:=g.rs})else some (.go {e:=some {d},rs:=g.rs})
   |_,_=>some (.go {e:=some {d},rs:=g.rs})
  |none=>none
 |.assign x=>match r x with
  |some d=>match l_ g x,x with
   |some e,.tmp t=>bif p.isEmpty then some (.go {e:=some {d,own:=some e},f8:=[t],rs:=g.rs})else some (.go {e:=some {d},rs:=g.rs})
   |_,.const (.slice none 0 0)=>match look tt o.type with
    |some {k:=.bz e,..}=>bif p.isEmpty then some (.go {e:=some {d,own:=some e},rs:=g.rs})else some (.go {e:=some {d},rs:=g.rs})
    |_=>none
   |_,_=>some (.go {e:=some {d},rs:=g.rs})
  |none=>none
 |.pick (.tmp c) a b=>match r (.tmp c),rd g.env g.bN ((c,true)::p) tt o.type a,rd g.env g.bN ((c,false)::p) tt o.type b with
  |some (.v (.bool pb)),some (.v (.bool tW)),some (.v (.bool qb))=>val (some (.v (.bool (bif pb then tW else qb))))
  |_,_,_=>none
 |.alloc t=>match ll g o with
  |some (id,ff)=>match w5 tt t id with
   |some z=>some (.go {e:=some {d:=.ptr id 0},hs:=[(id,z)],ff,rs:=g.rs})
   |none=>none
  |none=>none
 |.box t x=>match r x,ll g o,look tt t with
  |some d,some (id,ff),some aE=>bif nx d || !ol (cellsD d) || !Nat.beq (cellsD d).length aE.size then none else some (.go {e:=some {d:=.ptr id 0},hs:=[(id,ny tt aE id 0 (cellsD d))],ff,rs:=g.rs})
  |_,_,_=>none
 |.build t parts=>match look tt t,mapM' (fun(i,x)=>(rd g.env g.bN p tt (oo tt t i) x).map λd=>(i,d)) parts.toList with
  |some {k:=.bV cl,zero,..},some cp=>bif cl.all (λf=>Nat.ble 1 f.2.2)then match g.rs with
   |.own::rs=>((om (λi=>(cl[i]?).map λf=>(f.1,f.2.2)) (zero.map λx=>.v (AG x)) cp).map ko).map λd=>.go {e:=some {d},rs}
   |_=>val ((om (λi=>(cl[i]?).map λf=>(f.1,f.2.2)) (zero.map .v) cp).map ko)
   else none
  |some {k:=.arr _ e,zero,..},some cp=>match look tt e with
   |some {size,..}=>val ((om (λi=>some (i*size,size)) (zero.map .v) cp).map ko)
   |none=>none
  |_,_=>none
 |.buildSlice t len parts=>match look tt t,mapM' (fun(i,x)=>(rd g.env g.bN p tt (oo tt t i) x).map λd=>(i,d)) parts.toList with
  |some {k:=.bz e,..},some cp=>match look tt e with
   |some {k,size,..}=>
    match elems k.isAgg size 0 cp,g.rs with
    |some xs,.val x::rs=>bif Nat.ble (len*size) 16777216&&Nat.ble 1 size&&Nat.beq xs.length len then some (.go {e:=some {d:=.v x,own:=some e},rs,a6:=[f6 (.bz size len λi=>xs.getD i .dV) x]})else none
    |_,_=>none
   |none=>none
  |_,_=>none
 |.load t a=>match r a,look tt t with
  |some (
   .ptr q off),some aE=>match look g.H q with
   |some cs=>bif aE.k.isAgg then
    bif Nat.ble (off+aE.size) cs.length then match g.rs with
     |.marks c::rs=>bif p.isEmpty&&o_ (marks c) (marksOf 0 ((cs.drop off).take aE.size)) then
      some (.go {e:=some {d:=ko (((cs.drop off).take aE.size).map (·.d)),own:=some c},hs:=[(q,setAt cs off (((cs.drop off).take aE.size).map λe=>{d:=e.d}))],rs})else none
     |_=>val (some (ko (((cs.drop off).take aE.size).map (·.d))))else none
    else match cs[off]? with
     |some e=>match e.own,g.rs with
      |some _,.own::rs=>bif p.isEmpty then some (.go {e:=some e,hs:=[(q,setAt cs off [{d:=e.d}])],rs})else none
      |_,_=>val (some e.d)
     |none=>none
   |none=>none
  |some (.eA x),some aE=>bif x.isAgg == aE.k.isAgg&&Nat.beq x.cells.length aE.size then val (some (.v x))else none
  |_,_=>none
 |.store t a x=>match r a,rd g.env g.bN p tt t x,look tt t with
  |some (
   .ptr q off),some d,some aE=>match look g.H q with
   |some cs=>bif Nat.beq (cellsD d).length aE.size&&Nat.ble (off+aE.size) cs.length&&p.isEmpty && !nx d&&ol (cellsD d) then
    match x,l_ g x,d with
    |.tmp u,some s,.v (.bz ..)=>some (.go {e:=none,f8:=[u],hs:=[(q,setAt cs off [{d,own:=some s}])],rs:=g.rs})
    |.const (.slice none 0 0),_,_=>match aE.k with
     |.bz s=>some (.go {e:=none,hs:=[(q,setAt cs off [{d,own:=some s}])],rs:=g.rs})
     |_=>none
    |.tmp u,some s,_=>match g.rs with
     |.marks _::rs=>bif AH d&&((marks s).all λx=>Nat.blt x.1 aE.size)then some (.go {e:=none,f8:=[u],hs:=[(q,setAt cs off (mP (marks s) 0 (cellsD d)))],rs})else none
     |_=>some (.go {e:=none,hs:=[(q,mO (λi=>w4 tt aE.k (i-off)) 0 (setAt cs off ((cellsD d).map λd=>{d})))],rs:=g.rs})
    |_,_,_=>some (.go {e:=none,hs:=[(q,mO (λi=>w4 tt aE.k (i-off)) 0 (setAt cs off ((cellsD d).map λd=>{d})))],rs:=g.rs})
    else none
   |none=>none
  |_,_,_=>none
 |.nilCheck x=>match r x with
  |some (.ptr q off)=>val (some (.ptr q off))
  |some (.eA x)=>val (some (.eA x))
  |_=>none
 |.binOp op t x y _=>match r x,r y with
  |some (.v (.agg xs)),some (.v (.agg ys))=>match look tt t with
   |some {k:=.bV cl,..}=>bif b5.eq t then match op,hz (kp tt 4 cl) xs ys with
    |.eql,some r=>val (some (.v (.bool r)))
    |.neq,some r=>val (some (.v (.bool (!r))))
    |_,_=>none
    else none
   |_=>none
  |some a,some b=>tV (IQ ((look tt t).map (·.k)) (isConst y) op a b)
  |_,_=>none
 |.unOp op _ x=>match r x with
  |some (.v a)=>val ((IR op a).map .v)
  |_=>none
 |.convert s t x=>match look tt s,look tt t,r x with
  |some {k:=.int _,..},some {k:=.int k,..},some (.v (.int _ n))=>val (some (.v (.int k (k.wrap n))))
  |some {k:=.str,..},some {k:=.str,..},some (.v (.str s))=>val (some (.v (.str s)))
  |some {k:=.bz e,..},some {k:=.str,..},some (.v (.bz 1 n get))=>match look tt e,g.rs with
   |some {k:=.int .u8,..},.val (.str l)::rs=>some (.go {e:=some {d:=.v (.str l)},rs,a6:=[l.length=n∧∀i,i<n→get i = .int .u8 ((l.getD i 0).toNat:Int)]})
   |_,_=>none
  |_,_,_=>none
 |.makeInterface t x=>match r x,look tt t with
  |some (.v x),some {k,..}=>match k with
   |.l9=>none
   |_=>val (some (.v (.iface t x)))
  |_,_=>none
 |.makeFunc (.func f) first eO=>bif first.isEmpty then(mapM' r eO.toList).map λds=>.go {e:=some {d:=.fn f ds},rs:=g.rs}else none
 |.slice t x lo hi mb=>match mb,look tt t with
  |none,some {k:=.str,..}=>match r x,lo.map r,hi.map r with
   |some (.v (.str s)),none,none=>val (some (.v (.str s)))
   |some (.v (.str s)),some (some (.v (.int _ a))),none=>tV (some (.str (s.drop a.toNat),[gm a s.length=true]))
   |some (.v (.str s)),none,some (some (.v (.int _ b)))=>tV (some (.str (s.take b.toNat),[gm b s.length=true]))
   |some (.v (.str s)),some (some (.v (.int _ a))),some (some (.v (.int _ b)))=>tV (some (.str ((s.take b.toNat).drop a.toNat),[nw a b s.length=true]))
   |_,_,_=>none
  |none,some {k:=.bz e,..}=>match look tt e,r x,lo.map r,hi.map r with
   |some {size,..},some (.v (.bz k n get)),some (some (.v (.int _ a))),none=>bif Nat.beq k size then w6 (.bz k (n-a.toNat) λi=>get (a.toNat+i)) .v [gm a n=true]else none
   |some {size,..},some (.v (.bz k n get)),none,some (some (.v (.int _ b)))=>bif Nat.beq k size then w6 (.bz k b.toNat get) .v [gm b n=true]else none
   |some {size,..},some (.v (.bz k n get)),some (some (.v (.int _ a))),some (some (.v (.int _ b)))=>bif Nat.beq k size then w6 (.bz k (b.toNat-a.toNat) λi=>get (a.toNat+i)) .v [nw a b n=true]else none
   |some {size,..},some (.v (.bz k n get)),none,none=>bif Nat.beq k size then val (some (.v (.bz k n get)))else none
   |_,_,_,_=>none
  |some _,some {k:=.bz e,..}=>match look tt e,r x,lo,hi.map r,mb.map r with
   |some {size,..},some (.v (.bz k n get)),none,some (some (.v (.int _ b))),some (some (.v (.int _ c)))=>bif Nat.beq k size then some (.go {e:=some {d:=.full k b.toNat get},rs:=g.rs,a6:=[b=c,gm b n=true]})else none
   |_,_,_,_,_=>none
  |_,_=>none
 |.fieldAddr s x f=>match r x,look tt s with
  |some (.ptr q off),some {k:=.bV cl,..}=>match cl[f]? with
   |some (cF,_,fg)=>bif Nat.ble 1 fg then val (some (.ptr q (off+cF)))else none
   |none=>none
  |some (
   .eA (.agg cs)),some {k:=.bV cl,..}=>match cl[f]? with
   |some (
    cF,gw,fg)=>match look tt gw with
    |some aE=>bif Nat.ble 1 fg&&Nat.ble (cF+fg) cs.length then
     bif aE.k.isAgg then val (some (.eA (.agg ((cs.drop cF).take fg))))else bif Nat.beq fg 1 then match cs[cF]? with
      |some c=>bif c.isAgg then none else val (some (.eA c))
      |none=>none
     else none
     else none
    |none=>none
   |none=>none
  |_,_=>none
 |.field s x f=>match r x,look tt s with
  |some (
   .v (.agg cs)),some {k:=.bV cl,..}=>match cl[f]? with
   |some (cF,gw,fg)=>match look tt gw with
    |some aE=>bif Nat.ble (cF+fg) cs.length then bif aE.k.isAgg then val (some (.v (.agg ((cs.drop cF).take fg))))else match cs[cF]? with
     |some c=>val (some (.v c))
     |none=>none
     else none
    |none=>none
   |none=>none
  |some (.agg cs),some {k:=.bV cl,..}=>match cl[f]? with
   |some (cF,gw,fg)=>match look tt gw,cs[cF]? with
    |some aE,some c=>bif aE.k.isAgg || !Nat.beq fg 1||nx c then none else val (some c)
    |_,_=>none
   |none=>none
  |_,_=>none
 |.indexAddr t x i=>match r x,r i,look tt t with
  |some (.v (.bz k n get)),some (.v (.int _ j)),some {k:=.bz e,..}=>match look tt e with
   |some {size,..}=>bif Nat.beq k size&&Nat.ble 1 size then w6 (get j.toNat) .eA [aV j n=true]else none
   |none=>none
  |_,_,_=>none
 |.index t x i=>match r x,r i,look tt t with
  |some (.v (.str s)),some (.v (.int _ j)),some {k:=.str,..}=>tV (some (.int .u8 (s.getD j.toNat 0).toNat,[aV j s.length=true]))
  |_,_,_=>none
 |.typeAssert x _ t ok=>match r x,look tt t with
  |some (.v (.iface h4 y)),some {k,..}=>match k with
   |.l9=>none
   |_=>bif Nat.beq h4 t then val (some (bif ok then .b_ [.v y,.v (.bool true)]else .v y))else none
  |_,_=>none
 |.extract x i=>match r x with
  |some (.b_ ds)=>val ds[i]?
  |_=>none
 |.call c=>match c.callee with
  |.value x=>match r x,jI (rd g.env g.bN p tt) c.args.toList c.argTypes.toList with
   |some (.fn f eO),some ds=>r7 b5 tt g p c.args.toList c.argTypes.toList f (ds++eO)
   |_,_=>none
  |.builtin .len=>match mapM' (λy=>r y) c.args.toList,(c.argTypes.toList[0]?).bind (look tt) with
   |some [.v (.str s)],some {k:=.str,..}=>val (some (.v (.int .i64 s.length)))
   |some [.v (.bz _ n _)],some {k:=.bz _,..}=>val (some (.v (.int .i64 n)))
   |_,_=>none
  |.builtin .append=>match c.args.toList,(c.argTypes.toList[0]?).bind (look tt),(c.argTypes.toList[1]?).bind (look tt) with
   |[.tmp t,x],some {k:=.bz e,..},some t2=>match look tt e,r (.tmp t),r x,look g.env t,g.rs with
    |some b7,some (.v (.bz k n get)),some d2,some ⟨_,some aZ⟩,.val y::rs=>
     bif Nat.beq e aZ&&Nat.beq k b7.size&&Nat.ble 1 b7.size&&Nat.ble 1 b7.bytes&&p.isEmpty then
      match d2,t2.k with
      |.v (.bz ao m jX),.bz _=>bif Nat.beq ao k then
       some (.go {e:=some {d:=.v y,own:=some e},f8:=[t],rs,a6:=[f6 (.bz k (n+m) λi=>bif Nat.blt i n then get i else jX (i-n)) y,room (n+m) b7.bytes=true]})
       else none
      |.v (.str s),.str=>bif Nat.beq k 1 then
       some (.go {e:=some {d:=.v y,own:=some e},f8:=[t],rs,a6:=[f6 (.bz k (n+s.length) λi=>bif Nat.blt i n then get i else .int .u8 (s.getD (i-n) 0).toNat) y,room (n+s.length) b7.bytes=true]})
       else none
      |_,_=>none
     else none
    |some b7,some (.full k n get),some d2,_,.val y::rs=>
     bif Nat.beq k b7.size&&Nat.ble 1 b7.size&&Nat.ble 1 b7.bytes&&p.isEmpty then
      match d2,t2.k with
      |.v (.bz ao m jX),.bz _=>bif Nat.beq ao k&&Nat.ble 1 m then
       some (.go {e:=some {d:=.v y,own:=some e},f8:=[t],rs,a6:=[f6 (.bz k (n+m) λi=>bif Nat.blt i n then get i else jX (i-n)) y,room (n+m) b7.bytes=true]})
       else none
      |_,_=>none
     else none
    |_,_,_,_,_=>none
   |_,_,_=>none
  |.builtin .min=>match mapM' (λy=>r y) c.args.toList with
   |some [.v (.int k a),.v (.int ao b)]=>bif decide (k=ao)then val (some (.v (.int k (bif decide (b<a)then b else a))))else none
   |_=>none
  |.builtin .max=>match mapM' (λy=>r y) c.args.toList with
   |some [.v (.int k a),.v (.int ao b)]=>bif decide (k=ao)then val (some (.v (.int k (bif decide (a<b)then b else a))))else none
   |_=>none
  |_=>none
 |.panic x=>match r x with
  |some (.v (.iface t y))=>some (.bb (.iface t y) [] [])
  |_=>none
 |_=>none
def fT:List Nat→List (Nat×aR)→List (Nat×aR)
 |[],env=>env
 |t::l,env=>match look env t with
  |some e=>(t,{e with own:=none})::fT l env
  |none=>fT l env
inductive pc where
 |go (g:cU)
 |bb (x:V) (st:aF) (a6:List Prop)
def mQ:List (Nat×aR)→List (Nat×aR)
 |[]=>[]
 |(t,e)::l=>(t,{d:=e.d})::mQ l
def mR(ops:List Oper)(g:cU)(o:Oper):Option Path:=
 match o.guard with
 |none=>some []
 |some (j,w)=>match(ops[j]?).bind (·.dst) with
  |some t=>match look g.bN t with
   |some (q,.v (.bool _))=>some (q++[(t,w)])
   |some _=>none
   |none=>match look g.env t with
    |some ⟨.v (.bool _),_⟩=>some [(t,w)]
    |_=>none
  |none=>none
def r'(bN:List (Nat×Path×D))(t:Nat):Bool:=bN.all λx=>Nat.beq x.1 t||x.2.1.all λy=>!Nat.beq y.1 t
def ik(
 b5:fI) (tt:de) (N:Nat) (ops:List Oper) (g:cU) (o:Oper):Option pc:=
 match mR ops g o with
 |none=>none
 |some p=>
  match step1 b5 tt ops g p o with
  |none=>none
  |some (.bb x hs a6)=>bif p.isEmpty then some (.bb x {env:=mQ g.env,H:=hs++g.H,aT:=g.aT} (a6++g.a6))else none
  |some (
   .go f)=>
   let eP:cU:={g with rs:=f.rs,a6:=f.a6.map (under g p)++g.a6}
   match o.dst with
   |none=>bif p.isEmpty then some (.go {eP with env:=fT f.f8 g.env,H:=f.hs++g.H,aT:=g.aT+f.ff})else none
   |some t=>bif Nat.blt t N&&r' g.bN t then
    match p with
    |[]=>some (.go {eP with
     env:=match f.e with|some e=>(t,e)::fT f.f8 g.env|none=>del (fT f.f8 g.env) t
     bN:=del g.bN t,H:=f.hs++g.H,aT:=g.aT+f.ff})
    |_::_=>match f.e,f.hs,f.f8 with
     |some e,[],[]=>bif p.all (λy=>!Nat.beq y.1 t)&&Nat.beq f.ff 0 then some (.go {eP with env:=del g.env t,bN:=(t,p,e.d)::del g.bN t})else none
     |_,_,_=>none
    else none
def pd(b5:fI)(tt:de)(N:Nat)(ops:List Oper):List Oper→cU→Option pc
 |[],g=>some (.go g)
 |o::l,g=>match ik b5 tt N ops g o with
  |some (.go eP)=>pd b5 tt N ops l eP
  |x=>x
mutual
def below(n:Nat):D→Bool
 |.v _ |.eA _ |.full _ _ _=>true
 |.ptr r _=>Nat.blt r n
 |.ca r _ _=>Nat.blt r n
 |.fn _ eO=>qc n eO
 |.agg cs |.b_ cs=>qc n cs
def qc(n:Nat):List D→Bool
 |[]=>true
 |d::l=>below n d&&qc n l
end
def oq(n:Nat):List aR→Bool
 |[]=>true
 |e::l=>below n e.d&&oq n l
def tX(env:List (Nat×aR)):List Nat→Option (List (Nat×aR))
 |[]=>some []
 |t::l=>match look env t,tX env l with
  |some e,some cr=>some ((t,e)::cr)
  |_,_=>none
def tY(H:List (Nat×List aR)):List Nat→Option (List (Nat×List aR))
 |[]=>some []
 |r::l=>match look H r,tY H l with
  |some e,some cr=>some ((r,e)::cr)
  |_,_=>none
def qd(live:List Nat)(boxes:List Nat)(n:Nat)(env:List (Nat×aR))(H:List (Nat×List aR))(aT:Nat):Option aF:=
 match tX env live,tY H boxes with
 |some lm,some H'=>bif Nat.ble n aT&&lm.all (λx=>below n x.2.d)&&H'.all (λx=>Nat.blt x.1 n&&oq n x.2)then some {env:=lm,H:=H',aT:=n}else none
 |_,_=>none
inductive Fin where
 |go (st:aF) (a6:List Prop)
 |bb (x:V) (st:aF) (a6:List Prop)
def cT.mono{M M':Mem}(cP:M.le M'){v:Value}{x:V}(h:cT M v x):cT M' v x:=by
 induction h with
 |int k n=>exact .int k n
 |bool b=>exact .bool b
 |str l=>exact .str l
 |agg vs cs hn ab _ bD=>exact .agg vs cs hn ab bD
 |jJ k get=>exact .jJ k get
 |l' a k get=>exact .l' a k get
 |bz b off k n cap get val hc hk hm ab _ bD=>exact .bz b off k n cap get val hc hk (λi j hi hj=>cP _ _ _ (hm i j hi hj)) ab bD
 |iface t v x _ bD=>exact .iface t v x bD
 |dV=>exact .dV
 |gM=>exact .gM
 |aI=>exact .aI
 |any v ab=>exact .any v ab
 |l8 k get=>exact .l8 k get
inductive ce(M:Mem)(β:Nat→Option Nat):Value→D→Prop where
 |v (u:Value) (x:V) (h:cT M u x):ce M β u (.v x)
 |ptr (r off b:Nat) (h:β r=some b):ce M β (.pointer (some ⟨b,off,none⟩)) (.ptr r off)
 |jK (r off:Nat) (u:TypeId):ce M β (.pointer none) (.ca r off u)
 |ca (r off b:Nat) (u:TypeId) (h:β r=some b):ce M β (.pointer (some ⟨b,off,none⟩)) (.ca r off u)
 |eA (b off:Nat) (x:V) (val:Nat→Value) (cP:∀j,j<x.cells.length→M b (off+j)=some (val j)) (ab:∀j,j<x.cells.length→(val j).oneCell'=true)
  (h:∀(j:Nat) c,x.cells[j]? = some c→cT M (val j) c):ce M β (.pointer (some ⟨b,off,none⟩)) (.eA x)
 |full (base:Option Addr) (k n:Nat) (get:Nat→V) (h:cT M (.slice base n n) (.bz k n get)):ce M β (.slice base n n) (.full k n get)
 |fn (f:FuncId) (vs:List Value) (cs:List D) (hn:vs.length=cs.length)
  (h:∀(i:Nat) v c,vs[i]? = some v→cs[i]? = some c→ce M β v c):ce M β (.func (.func f) #[] ⟨vs⟩) (.fn f cs)
 |agg (vs:List Value) (cs:List D) (hn:vs.length=cs.length) (ab:∀v,v∈vs→v.oneCell'=true)
  (h:∀(i:Nat) v c,vs[i]? = some v→cs[i]? = some c→ce M β v c):ce M β (.agg ⟨vs⟩) (.agg cs)
 |b_ (vs:List Value) (cs:List D) (hn:vs.length=cs.length)
  (h:∀(i:Nat) v c,vs[i]? = some v→cs[i]? = some c→ce M β v c):ce M β (.tuple ⟨vs⟩) (.b_ cs)
def ce.mono{M M':Mem}{β:Nat→Option Nat}(cP:M.le M'){v:Value}{d:D}(h:ce M β v d):ce M' β v d:=by
 induction h with
 |v u x h=>exact .v u x (h.mono cP)
 |ptr r off b h=>exact .ptr r off b h
 |jK r off u=>exact .jK r off u
 |ca r off b u h=>exact .ca r off b u h
 |eA b off x val hm ab h=>exact .eA b off x val (λj hj=>cP _ _ _ (hm j hj)) ab (λj c hc=>(h j c hc).mono cP)
 |full b k n get h=>exact .full b k n get (h.mono cP)
 |fn f vs cs hn _ bD=>exact .fn f vs cs hn bD
 |agg vs cs hn ab _ bD=>exact .agg vs cs hn ab bD
 |b_ vs cs hn _ bD=>exact .b_ vs cs hn bD
def pe{n:Nat}:∀{l:List D} {i:Nat} {d:D},qc n l=true→l[i]? = some d→below n d=true
 |[],_,_,_,h=>by simp at h
 |d::l,0,_,hb,h=>by simp [qc]at hb;simp at h;exact h ▸ hb.1
 |d::l,i+1,_,hb,h=>by simp [qc]at hb;simp at h;exact pe hb.2 h
def ce.IV{M:Mem}{β β':Nat→Option Nat}{n:Nat}(gb:∀r,r<n→β' r=β r){v:Value}{d:D}(h:ce M β v d):Ab.below n d=true→ce M β' v d:=by
 induction h with
 |v u x h=>intro _;exact .v u x h
 |ptr r off b h=>intro hb;exact .ptr r off b (by rw [gb r (by simpa [Ab.below,Nat.blt_eq]using hb)];exact h)
 |jK r off u=>intro hb;exact .jK r off u
 |ca r off b u h=>intro hb;exact .ca r off b u (by rw [gb r (by simpa [Ab.below,Nat.blt_eq]using hb)];exact h)
 |eA b off x val hm ab h=>intro _;exact .eA b off x val hm ab h
 |full b k n get h=>intro _;exact .full b k n get h
 |fn f vs cs hn _ bD=>intro hb;exact .fn f vs cs hn λi v c az hc=>bD i v c az hc (pe (by simpa [Ab.below]using hb) hc)
 |agg vs cs hn ab _ bD=>intro hb;exact .agg vs cs hn ab λi v c az hc=>bD i v c az hc (pe (by simpa [Ab.below]using hb) hc)
 |b_ vs cs hn _ bD=>intro hb;exact .b_ vs cs hn λi v c az hc=>bD i v c az hc (pe (by simpa [Ab.below]using hb) hc)
def r_{f:Nat→Option Nat}:∀{l cr:List D},jk f l=some cr→l.length=cr.length∧∀(i:Nat) d,l[i]? = some d→∃dH,cr[i]? = some dH∧dW f d=some dH
 |[],cr,h=>by simp [jk]at h;subst h;simp
 |d::l,cr,h=>by
  simp only [jk]at h;split at h<;>simp at h
  rename_i dH g_ hd ag;subst h;obtain⟨ab,ah⟩:=r_ ag;refine⟨by simp [ab],λi x hx=>?_⟩
  cases i with
  |zero=>simp at hx;subst hx;exact⟨dH,by simp,hd⟩
  |succ i=>simp at hx;simpa using ah i x hx
def ce.dW{M:Mem}{β β':Nat→Option Nat}{f:Nat→Option Nat}(gb:∀r s b,f r=some s→β r=some b→β' s=some b){v:Value}{d:D}(h:ce M β v d):
 ∀{dH},dW f d=some dH→ce M β' v dH:=by
 induction h with
 |v u x h=>intro dH hd;simp [Ab.dW]at hd;subst hd;exact .v u x h
 |ptr r off b h=>
  intro dH hd;simp only [Ab.dW,Option.map_eq_some_iff]at hd;obtain⟨s,hs,rfl⟩:=hd;exact .ptr s off b (gb r s b hs h)
 |jK r off u=>
  intro dH hd;simp only [Ab.dW,Option.map_eq_some_iff]at hd;obtain⟨s,hs,rfl⟩:=hd;exact .jK s off u
 |ca r off b u h=>
  intro dH hd;simp only [Ab.dW,Option.map_eq_some_iff]at hd;obtain⟨s,hs,rfl⟩:=hd;exact .ca s off b u (gb r s b hs h)
 |eA b off x val hm ab h=>intro dH hd;simp [Ab.dW]at hd;subst hd;exact .eA b off x val hm ab h
 |full b k n get h=>intro dH hd;simp [Ab.dW]at hd;subst hd;exact .full b k n get h
 |fn f vs cs hn _ bD=>
  intro dH hd;simp only [Ab.dW,Option.map_eq_some_iff]at hd;obtain⟨cs',dE,rfl⟩:=hd;obtain⟨ab,ah⟩:=r_ dE;refine .fn f vs cs' (by omega) λi v c az hc=>?_
  have hi:i<cs.length:=by have:=(List.getElem?_eq_some_iff.1 hc).1;omega
  obtain⟨d1,fJ,aj⟩:=ah i cs[i] (List.getElem?_eq_getElem hi);rw [hc]at fJ;cases fJ;exact bD i v _ az (List.getElem?_eq_getElem hi) aj
 |agg vs cs hn ab _ bD=>
  intro dH hd;simp only [Ab.dW,Option.map_eq_some_iff]at hd;obtain⟨cs',dE,rfl⟩:=hd;obtain⟨h0,ah⟩:=r_ dE;refine .agg vs cs' (by omega) ab λi v c az hc=>?_
  have hi:i<cs.length:=by have:=(List.getElem?_eq_some_iff.1 hc).1;omega
  obtain⟨d1,fJ,aj⟩:=ah i cs[i] (List.getElem?_eq_getElem hi);rw [hc]at fJ;cases fJ;exact bD i v _ az (List.getElem?_eq_getElem hi) aj
 |b_ vs cs hn _ bD=>
  intro dH hd;simp only [Ab.dW,Option.map_eq_some_iff]at hd;obtain⟨cs',dE,rfl⟩:=hd;obtain⟨ab,ah⟩:=r_ dE;refine .b_ vs cs' (by omega) λi v c az hc=>?_
  have hi:i<cs.length:=by have:=(List.getElem?_eq_some_iff.1 hc).1;omega
  obtain⟨d1,fJ,aj⟩:=ah i cs[i] (List.getElem?_eq_getElem hi);rw [hc]at fJ;cases fJ;exact bD i v _ az (List.getElem?_eq_getElem hi) aj
def ce.AI{M:Mem}{β β':Nat→Option Nat}(gb:∀r b,β r=some b→β' r=some b){v:Value}{d:D}(h:ce M β v d):ce M β' v d:=by
 induction h with
 |v u x h=>exact .v u x h
 |ptr r off b h=>exact .ptr r off b (gb r b h)
 |jK r off u=>exact .jK r off u
 |ca r off b u h=>exact .ca r off b u (gb r b h)
 |eA b off x val hm ab h=>exact .eA b off x val hm ab h
 |full b k n get h=>exact .full b k n get h
 |fn f vs cs hn _ bD=>exact .fn f vs cs hn bD
 |agg vs cs hn ab _ bD=>exact .agg vs cs hn ab bD
 |b_ vs cs hn _ bD=>exact .b_ vs cs hn bD
def ce.Vm{M:Mem}{β β':Nat→Option Nat}{n:Nat}(gb:∀r,r<n→∀b,β r=some b→β' r=some b){v:Value}{d:D}(h:ce M β v d):Ab.below n d=true→ce M β' v d:=by
 induction h with
 |v u x h=>intro _;exact .v u x h
 |ptr r off b h=>intro hb;exact .ptr r off b (gb r (by simpa [Ab.below,Nat.blt_eq]using hb) b h)
 |jK r off u=>intro hb;exact .jK r off u
 |ca r off b u h=>intro hb;exact .ca r off b u (gb r (by simpa [Ab.below,Nat.blt_eq]using hb) b h)
 |eA b off x val hm ab h=>intro _;exact .eA b off x val hm ab h
 |full b k n get h=>intro _;exact .full b k n get h
 |fn f vs cs hn _ bD=>intro hb;exact .fn f vs cs hn λi v c az hc=>bD i v c az hc (pe (by simpa [Ab.below]using hb) hc)
 |agg vs cs hn ab _ bD=>intro hb;exact .agg vs cs hn ab λi v c az hc=>bD i v c az hc (pe (by simpa [Ab.below]using hb) hc)
 |b_ vs cs hn _ bD=>intro hb;exact .b_ vs cs hn λi v c az hc=>bD i v c az hc (pe (by simpa [Ab.below]using hb) hc)
structure Ctx where
 qe:Mem
 F:Nat→Option Obj
 h5:Nat→Option Nat
 gn:Os×Array (Nat×ByteArray)
 ds:List Deferred:=[]
inductive Loc where
 |slot (s:Nat)
 |cell (r i:Nat)
deriving DecidableEq
def aF.at(st:aF):Loc→Option aR
 |.slot s=>look st.env s
 |.cell r i=>(look st.H r).bind (·[i]?)
def bZ(tmps:Array Value)(w:World)(β:Nat→Option Nat):Loc→Value
 |.slot s=>tmps.getD s undef
 |.cell r i=>match β r with
  |some b=>(w.cell? ⟨b,i,none⟩).getD undef
  |none=>undef
def il:Value→Option Nat
 |.slice (some a) _ _=>some a.block
 |_=>none
def jL(P:Program)(F:Nat→Option Obj)(M:Mem)(w:World)(T:TypeId)(v:Value):Prop:=
 v = .slice none 0 0∨∃b n cap vs T',v = .slice (some ⟨b,0,none⟩) n cap∧n≤cap∧w.heap[b]? = some (.cells ⟨vs⟩ T' (0,0))∧cap*P.cellsOf T≤vs.length∧
  (∀o,n*P.cellsOf T≤o→M b o=none)∧F b=none∧T'=T
def im(P:Program)(F:Nat→Option Obj)(M:Mem)(w:World)(T:TypeId):Value→Prop
 |.agg cs=>(∀x,x∈marks T→jL P F M w x.2 (cs.getD x.1 undef))∧∀x,x∈marks T→∀y,y∈marks T→x.1≠y.1→∀b,il (cs.getD x.1 undef)=some b→il (cs.getD y.1 undef)≠some b
 |v=>jL P F M w T v
def hA(T:TypeId):Value→Nat→Prop
 |.agg cs,b=>∃x,x∈marks T∧il (cs.getD x.1 undef)=some b
 |v,b=>il v=some b
def AJ (P : Program) : List Nat := ["strconv.ErrSyntax", "strconv.ErrRange"].filterMap P.globalNamed
def AK:Array Value:=((List.range 20).map λi=>Value.int .u64 ((10 ^ i:Nat):Int)).toArray
def ot(P:Program)(F:Nat→Option Obj):Prop:=
 (∀g,g∈AJ P→∃cs t iW e_,F g=some (.cells cs t iW)∧cs[0]? = some e_∧(e_ = .nilIface∨∃b7 ou,e_ = .iface b7 ou))∧
 ∀ g, P.globalNamed "internal/strconv.uint64pow10" = some g → ∃ t iW, F g = some (.cells AK t iW)
def ot.mono{P:Program}{F pf:Nat→Option Obj}(h:ot P F)(dg:∀b a6,F b=some a6→pf b=some a6):ot P pf:=⟨λg hg=>by
 obtain⟨cs,t,iW,e_,ab,ah,ay⟩:=h.1 g hg;exact⟨cs,t,iW,e_,dg _ _ ab,ah,ay⟩,λg hg=>by
 obtain⟨t,iW,ab⟩:=h.2 g hg;exact⟨t,iW,dg _ _ ab⟩⟩
def jm(P:Program)(T:TypeId)(n:Nat)(cs:List aR):Prop:=∀e,e∈cs→∀r off u,e.d = .ca r off u→liesAt P P.depth T (n / P.cellsOf T) off u 1=true
def Vn(P:Program)(T:TypeId)(vs:List Value)(cs:List aR):Prop:=(∀v,v∈vs→v.oneCell'=true)∧jm P T vs.length cs
def jm.sub{P:Program}{T:TypeId}{n:Nat}{cs cs':List aR}(h:jm P T n cs)(hs:∀e,e∈cs'→∃bI,bI∈cs∧bI.d=e.d):jm P T n cs':=λe he r off u hd=>by
 obtain⟨bI,ab,ah⟩:=hs e he;exact h bI ab r off u (ah.trans hd)
structure bB(P:Program)(K:Ctx)(M:Mem)(β:Nat→Option Nat)(st:aF)(tmps:Array Value)(w:World):Prop where
 ew:∀l e,st.at l=some e→ce M β (bZ tmps w β l) e.d
 own:∀l e T,st.at l=some e→e.own=some T→im P K.F M w T (bZ tmps w β l)
 uniq:∀l cr e aZ T T' b,st.at l=some e→e.own=some T→st.at cr=some aZ→aZ.own=some T'→
  hA T (bZ tmps w β l) b→hA T' (bZ tmps w β cr) b→l=cr
 unbox:∀l e T b r cs,st.at l=some e→e.own=some T→hA T (bZ tmps w β l) b→look st.H r=some cs→β r≠some b
 box:∀r cs,look st.H r=some cs→∃b vs T,β r=some b∧w.heap[b]? = some (.cells ⟨vs⟩ T (0,0))∧vs.length=cs.length∧(∀o,M b o=none)∧K.F b=none∧Vn P T vs cs
 inj:∀r ct b cs cs',look st.H r=some cs→look st.H ct=some cs'→β r=some b→β ct=some b→r=ct
 lt:∀r b,β r=some b→r<st.aT
 mem:∀b o v,M b o=some v→w.cell? ⟨b,o,none⟩=some v
 m0:K.qe.le M
 frame:∀b a6,K.F b=some a6→w.heap[b]? = some a6∧∀o,M b o=K.qe b o
 gN:∀r b,K.h5 r=some b→β r=some b
 hB:ot P K.F
 gn:(w.os,w.output)=K.gn
def aF.AL{st:aF}{r i:Nat}{cs:List aR}(h:look st.H r=some cs):st.at (.cell r i)=cs[i]? := by simp [aF.at,h]
def tZ:∀{l:List D},ol l=true→∀d,d∈l→∀r off u,d ≠ .ca r off u
 |[],h,d,hd=>by cases hd
 |x::l,h,d,hd=>by
  have ah:ol l=true:=by cases x<;>first|exact h|cases h
  rcases List.mem_cons.1 hd with rfl|iC
  ·intro r off u e;subst e;cases h
  ·exact tZ ah d iC
def jm.AM{P:Program}{T:TypeId}{n r:Nat}{st bG:aF}{cs cs':List aR}(h:jm P T n cs)(ab:look st.H r=some cs)(ah:look bG.H r=some cs')
 (he:∀l aZ,bG.at l=some aZ→∃e,st.at l=some e∧(e.d=aZ.d∨∀q off u,aZ.d ≠ .ca q off u)):jm P T n cs':=λe hm q off u hd=>by
 obtain⟨i,hi,rfl⟩:=List.getElem_of_mem hm;obtain⟨bI,g1,g2⟩:=he (.cell r i) cs'[i] (by rw [aF.AL ah];exact List.getElem?_eq_getElem hi)
 rw [aF.AL ab]at g1;rcases g2 with g2|g2
 ·exact h bI (List.mem_of_getElem? g1) q off u (g2.trans hd)
 ·exact absurd hd (g2 q off u)
def dd{α:Type}(j:Nat)(x:α)(l:List (Nat×α))(i:Nat):look ((j,x)::l) i=if j=i then some x else look l i:=by
 by_cases h:j=i
 ·simp [look,h]
 ·have:Nat.beq j i=false:=by rw [Bool.eq_false_iff];simpa using h
  simp [look,h,this]
def nz{α:Type}(l:List (Nat×α))(t i:Nat):look (del l t) i=if t=i then none else look l i:=by
 induction l with
 |nil=>simp [del,look]
 |cons x l bD=>
  obtain⟨j,x⟩:=x;by_cases h:j=t
  ·subst h;have:Nat.beq j j=true:=by simp
   simp only [del,this,cond_true,bD,dd];by_cases ah:j=i<;>simp [ah]
  ·have c8:Nat.beq j t=false:=by rw [Bool.eq_false_iff];simpa using h
   simp only [del,c8,cond_false,dd,bD];by_cases ah:j=i
   ·subst ah;simp [Ne.symm h]
   ·simp [ah]
def cell_of_heap{w:World}{b o:Nat}{vs:List Value}{T:TypeId}{mc:Nat×Nat}(h:w.heap[b]? = some (.cells ⟨vs⟩ T mc)):w.cell? ⟨b,o,none⟩=vs[o]? := by
 simp [World.cell?,h]
def lt_of_heap{w:World}{b:Nat}{a6:Obj}(h:w.heap[b]? = some a6):b<w.heap.size:=by
 rcases Nat.lt_or_ge b w.heap.size with c8|c8
 ·exact c8
 ·simp [Array.getElem?_eq_none c8]at h
def lt_of_cell{w:World}{b o:Nat}{v:Value}(h:w.cell? ⟨b,o,none⟩=some v):b<w.heap.size:=by
 unfold World.cell? at h;split at h
 ·rename_i bu;exact lt_of_heap bu
 ·cases h
def ov{w w':World}{b o:Nat}(h:w'.heap[b]? = w.heap[b]?):w'.cell? ⟨b,o,none⟩=w.cell? ⟨b,o,none⟩:=by
 simp [World.cell?,h]
section
variable {P:Program} {K:Ctx} {M M':Mem} {β β':Nat→Option Nat} {st bG:aF} {tmps dI:Array Value} {w w':World}
def jL.lt{F:Nat→Option Obj}{T:TypeId}{v:Value}{b:Nat}(h:jL P F M w T v)(hb:il v=some b):b<w.heap.size:=by
 rcases h with rfl|⟨bF,n,cap,vs,T',rfl,_,bu,_⟩
 ·simp [il]at hb
 ·simp [il]at hb;subst hb;exact lt_of_heap bu
def jL.free{F:Nat→Option Obj}{T:TypeId}{v:Value}{b:Nat}(h:jL P F M w T v)(hb:il v=some b):F b=none:=by
 rcases h with rfl|⟨bF,n,cap,vs,T',rfl,_,bu,_,_,dg,_⟩
 ·simp [il]at hb
 ·simp [il]at hb;subst hb;exact dg
def jL.congr{F:Nat→Option Obj}{T:TypeId}{v:Value}(h:jL P F M w T v)(hw:∀b,il v=some b→w'.heap[b]? = w.heap[b]?)(cP:∀b o,il v=some b→M' b o=M b o):
 jL P F M' w' T v:=by
 rcases h with rfl|⟨bF,n,cap,vs,T',rfl,ab,bu,ah,ay,dg⟩
 ·exact .inl rfl
 ·exact .inr ⟨bF,n,cap,vs,T',rfl,ab,(hw bF rfl).trans bu,ah,λo aw=>(cP bF o rfl).trans (ay o aw),dg⟩
def jL.at{F:Nat→Option Obj}{T:TypeId}{v:Value}(h:jL P F M w T v):im P F M w T v:=by
 rcases h with rfl|⟨bF,n,cap,vs,T',rfl,ab,bu,ah,ay,dg⟩
 ·exact .inl rfl
 ·exact .inr ⟨bF,n,cap,vs,T',rfl,ab,bu,ah,ay,dg⟩
def jL.sa{F pf:Nat→Option Obj}{T:TypeId}{v:Value}(h:jL P F M w T v)(dg:∀b,il v=some b→F b=none→pf b=none):jL P pf M w T v:=by
 rcases h with rfl|⟨bF,n,cap,vs,T',rfl,ab,bu,ah,ay,bl,bQ⟩
 ·exact .inl rfl
 ·exact .inr ⟨bF,n,cap,vs,T',rfl,ab,bu,ah,ay,dg bF rfl bl,bQ⟩
def im.cases{F:Nat→Option Obj}{T:TypeId}{v:Value}(h:im P F M w T v):
 (∃cs,v = .agg cs)∨(jL P F M w T v∧∀b,hA T v b↔il v=some b):=by
 cases v<;>first
  |exact .inl ⟨_,rfl⟩
  |exact .inr ⟨h,λ_=>Iff.rfl⟩
def im.lt{F:Nat→Option Obj}{T:TypeId}{v:Value}{b:Nat}(h:im P F M w T v)(hb:hA T v b):b<w.heap.size:=by
 rcases h.cases with⟨cs,rfl⟩|⟨ab,ah⟩
 ·obtain⟨x,hx,hb⟩:=hb;exact(h.1 x hx).lt hb
 ·exact ab.lt ((ah b).1 hb)
def im.free{F:Nat→Option Obj}{T:TypeId}{v:Value}{b:Nat}(h:im P F M w T v)(hb:hA T v b):F b=none:=by
 rcases h.cases with⟨cs,rfl⟩|⟨ab,ah⟩
 ·obtain⟨x,hx,hb⟩:=hb;exact(h.1 x hx).free hb
 ·exact ab.free ((ah b).1 hb)
def im.congr{F:Nat→Option Obj}{T:TypeId}{v:Value}(h:im P F M w T v)(hw:∀b,hA T v b→w'.heap[b]? = w.heap[b]?)(cP:∀b o,hA T v b→M' b o=M b o):
 im P F M' w' T v:=by
 rcases h.cases with⟨cs,rfl⟩|⟨ab,ah⟩
 ·exact⟨λx hx=>(h.1 x hx).congr (λb hb=>hw b ⟨x,hx,hb⟩) (λb o hb=>cP b o ⟨x,hx,hb⟩),h.2⟩
 ·exact(ab.congr (λb hb=>hw b ((ah b).2 hb)) (λb o hb=>cP b o ((ah b).2 hb))).at
def im.sa{F pf:Nat→Option Obj}{T:TypeId}{v:Value}(h:im P F M w T v)(dg:∀b,hA T v b→F b=none→pf b=none):im P pf M w T v:=by
 rcases h.cases with⟨cs,rfl⟩|⟨ab,ah⟩
 ·exact⟨λx hx=>(h.1 x hx).sa λb hb=>dg b ⟨x,hx,hb⟩,h.2⟩
 ·exact(ab.sa λb hb=>dg b ((ah b).2 hb)).at
def im.bz{F:Nat→Option Obj}{T:TypeId}{v:Value}{qe:Mem}{k n:Nat}{get:Nat→V}(h:im P F M w T v){h5:Nat→Option Nat}(az:ce qe h5 v (.v (.bz k n get))):jL P F M w T v:=by
 cases az with|v _ _ az=>cases az<;>exact h
def AN(h:bB P K M β st tmps w){r i:Nat}{cs:List aR}{e:aR}(aj:look st.H r=some cs)(hi:cs[i]? = some e):
 ∃b vs T v,β r=some b∧w.heap[b]? = some (.cells ⟨vs⟩ T (0,0))∧vs[i]? = some v∧bZ tmps w β (.cell r i)=v:=by
 obtain⟨b,vs,T,hb,bu,ag,_⟩:=h.box r cs aj;have AO:i<cs.length:=(List.getElem?_eq_some_iff.1 hi).1;have az:vs[i]? = some vs[i]:=List.getElem?_eq_getElem (by omega)
 exact⟨b,vs,T,_,hb,bu,az,by simp only [bZ,hb,cell_of_heap bu,az,Option.getD_some]⟩
def bB.t6(h:bB P K M β st tmps w){r b:Nat}{cs:List aR}(aj:look st.H r=some cs)(hb:β r=some b):b<w.heap.size:=by
 obtain⟨bF,vs,T,bH,bu,_⟩:=h.box r cs aj;rw [hb]at bH;cases bH;exact lt_of_heap bu
def bB.free(h:bB P K M β st tmps w)(b:Nat)(dg:K.F b=none)(qf:∀r cs,look st.H r=some cs→β r≠some b)
 (fh:∀l e T,st.at l=some e→e.own=some T→¬ hA T (bZ tmps w β l) b)
 (hw:∀bF,bF≠b→bF<w.heap.size→w'.heap[bF]? = w.heap[bF]?) (cP:M.le M') (w7:∀bF o,bF≠b→M' bF o=M bF o)
 (w8:∀o v,M' b o=some v→w'.cell? ⟨b,o,none⟩=some v) (md:(w'.os,w'.output)=(w.os,w.output):=by rfl):bB P K M' β st tmps w':=by
 have bY:∀l e,st.at l=some e→bZ tmps w' β l=bZ tmps w β l:=by
  intro l e ag;cases l with
  |slot s=>rfl
  |cell r i=>
   simp only [aF.at]at ag;cases aj:look st.H r with
   |none=>simp [aj]at ag
   |some cs=>
    obtain⟨cb,vs,T,cI,bu,_⟩:=h.box r cs aj;have dF:cb≠b:=λe=>qf r cs aj (e ▸ cI)
    simp only [bZ,cI];rw [ov (hw cb dF (lt_of_heap bu))]
 constructor
 ·intro l e ag;rw [bY l e ag];exact(h.ew l e ag).mono cP
 ·intro l e T ag aO;rw [bY l e ag];refine(h.own l e T ag aO).congr (λcb cI=>hw cb ?_ ((h.own l e T ag aO).lt cI)) (λcb o cI=>w7 cb o ?_) <;>
  ·rintro rfl;exact fh l e T ag aO cI
 ·intro l cr e aZ T T' cb ag aO cx dy hb bH;rw [bY l e ag]at hb;rw [bY cr aZ cx]at bH;exact h.uniq l cr e aZ T T' cb ag aO cx dy hb bH
 ·intro l e T cb r cs ag aO hb aj;rw [bY l e ag]at hb;exact h.unbox l e T cb r cs ag aO hb aj
 ·intro r cs aj;obtain⟨cb,vs,T,cI,bu,ab,ah,ay⟩:=h.box r cs aj;have dF:cb≠b:=λe=>qf r cs aj (e ▸ cI)
  exact⟨cb,vs,T,cI,(hw cb dF (lt_of_heap bu)).trans bu,ab,λo=>(w7 cb o dF).trans (ah o),ay⟩
 ·exact h.inj
 ·exact h.lt
 ·intro cb o v az;by_cases dF:cb=b
  ·subst dF;exact w8 o v az
  ·rw [w7 cb o dF]at az;have:=h.mem cb o v az
   rw [ov (hw cb dF (lt_of_cell this))];exact this
 ·exact Mem.le_trans h.m0 cP
 ·intro cb a6 cI;have dF:cb≠b:=by rintro rfl;rw [dg]at cI;cases cI
  obtain⟨ab,ah⟩:=h.frame cb a6 cI;exact⟨(hw cb dF (lt_of_heap ab)).trans ab,λo=>(w7 cb o dF).trans (ah o)⟩
 ·exact h.gN
 ·exact h.hB
 ·exact md.trans h.gn
def bB.grow(h:bB P K M β st tmps w)(hw:∀b,b<w.heap.size→w'.heap[b]? = w.heap[b]?)(md:(w'.os,w'.output)=(w.os,w.output):=by rfl):bB P K M β st tmps w':=by
 have hn:∀b,w.heap.size≤b→K.F b=none:=by
  intro b hb;cases dg:K.F b with
  |none=>rfl
  |some a6=>have:=lt_of_heap (h.frame b a6 dg).1;omega
 refine h.free w.heap.size (hn _ (Nat.le_refl _)) ?_ ?_ (λb _ hb=>hw b hb) (Mem.le_refl _) (λ_ _ _=>rfl) ?_ md
 ·intro r cs aj hb;have:=h.t6 aj hb;omega
 ·intro l e T ag aO hb;have:=(h.own l e T ag aO).lt hb;omega
 ·intro o v az;have:=lt_of_cell (h.mem _ _ _ az);omega
def bB.sub(h:bB P K M β st tmps w)(hn:bG.aT=st.aT)
 (he:∀l aZ,bG.at l=some aZ→∃e,st.at l=some e∧e.d=aZ.d∧∀T,aZ.own=some T→e.own=some T)
 (eb:∀r cs',look bG.H r=some cs'→∃cs,look st.H r=some cs∧cs.length=cs'.length):bB P K M β bG tmps w:=by
 constructor
 ·intro l aZ ag;obtain⟨e,ab,ah,_⟩:=he l aZ ag;rw [←ah];exact h.ew l e ab
 ·intro l aZ T ag aO;obtain⟨e,ab,_,ay⟩:=he l aZ ag;exact h.own l e T ab (ay T aO)
 ·intro l cr e aZ T T' b ag aO cx dy;obtain⟨e1,ab,_,ay⟩:=he l e ag;obtain⟨e2,kM,_,w9⟩:=he cr aZ cx;exact h.uniq l cr e1 e2 T T' b ab (ay T aO) kM (w9 T' dy)
 ·intro l e T b r cs ag aO hb aj;obtain⟨e1,ab,_,ay⟩:=he l e ag;obtain⟨qg,hC,_⟩:=eb r cs aj;exact h.unbox l e1 T b r qg ab (ay T aO) hb hC
 ·intro r cs aj;obtain⟨qg,hC,hlen⟩:=eb r cs aj;obtain⟨b,vs,T,ab,ah,ay,bl,bQ,df,fK⟩:=h.box r qg hC
  exact⟨b,vs,T,ab,ah,ay.trans hlen,bl,bQ,df,fK.AM hC aj λl aZ ag=>by
   obtain⟨e,g1,g2,_⟩:=he l aZ ag;exact⟨e,g1,.inl g2⟩⟩
 ·intro r ct b cs cs' aj eH hb bH;obtain⟨c1,ab,_⟩:=eb r cs aj;obtain⟨c2,ah,_⟩:=eb ct cs' eH;exact h.inj r ct b c1 c2 ab ah hb bH
 ·intro r b hb;rw [hn];exact h.lt r b hb
 ·exact h.mem
 ·exact h.m0
 ·exact h.frame
 ·exact h.gN
 ·exact h.hB
 ·exact h.gn
def bB.Vo(h:bB P K M β st tmps w)(hn:bG.aT=st.aT)
 (he:∀l aZ,bG.at l=some aZ→∃e,st.at l=some e∧((e.d=aZ.d∧∀T,aZ.own=some T→e.own=some T)∨∃k g,e.d = .v (.l8 k g)∧aZ.d = .v (.bz k 0 g)))
 (eb:∀r cs',look bG.H r=some cs'→∃cs,look st.H r=some cs∧cs.length=cs'.length):bB P K M β bG tmps w:=by
 have mS:∀l e k g,st.at l=some e→e.d = .v (.l8 k g)→bZ tmps w β l = .slice none 0 0:=by
  intro l e k g ag hd;have:=h.ew l e ag
  rw [hd]at this;generalize bZ tmps w β l=u at this ⊢
  cases this with
  |v u x hx=>cases hx;rfl
 constructor
 ·intro l aZ ag;obtain⟨e,ab,⟨ah,_⟩|⟨k,g,ah,ay⟩⟩:=he l aZ ag
  ·rw [←ah];exact h.ew l e ab
  ·rw [ay,mS l e k g ab ah];exact .v _ _ (.jJ k g)
 ·intro l aZ T ag aO;obtain⟨e,ab,⟨_,ay⟩|⟨k,g,ah,ay⟩⟩:=he l aZ ag
  ·exact h.own l e T ab (ay T aO)
  ·rw [mS l e k g ab ah];exact .inl rfl
 ·intro l cr e aZ T T' b ag aO cx dy hb bH;obtain⟨e1,ab,⟨_,ay⟩|⟨k,g,ah,ay⟩⟩:=he l e ag
  ·obtain⟨e2,kM,⟨_,w9⟩|⟨k,g,Vp,w9⟩⟩:=he cr aZ cx
   ·exact h.uniq l cr e1 e2 T T' b ab (ay T aO) kM (w9 T' dy) hb bH
   ·rw [mS cr e2 k g kM Vp]at bH;cases bH
  ·rw [mS l e1 k g ab ah]at hb;cases hb
 ·intro l e T b r cs ag aO hb aj;obtain⟨qg,hC,_⟩:=eb r cs aj;obtain⟨e1,ab,⟨_,ay⟩|⟨k,g,ah,ay⟩⟩:=he l e ag
  ·exact h.unbox l e1 T b r qg ab (ay T aO) hb hC
  ·rw [mS l e1 k g ab ah]at hb;cases hb
 ·intro r cs aj;obtain⟨qg,hC,hlen⟩:=eb r cs aj;obtain⟨b,vs,T,ab,ah,ay,bl,bQ,df,fK⟩:=h.box r qg hC
  exact⟨b,vs,T,ab,ah,ay.trans hlen,bl,bQ,df,fK.AM hC aj λl aZ ag=>by
   obtain⟨e,g1,⟨g2,_⟩|⟨k,g,_,g3⟩⟩:=he l aZ ag
   ·exact⟨e,g1,.inl g2⟩
   ·exact⟨e,g1,.inr λq off u aP=>by rw [g3]at aP;cases aP⟩⟩
 ·intro r ct b cs cs' aj eH hb bH;obtain⟨c1,ab,_⟩:=eb r cs aj;obtain⟨c2,ah,_⟩:=eb ct cs' eH;exact h.inj r ct b c1 c2 ab ah hb bH
 ·intro r b hb;rw [hn];exact h.lt r b hb
 ·exact h.mem
 ·exact h.m0
 ·exact h.frame
 ·exact h.gN
 ·exact h.hB
 ·exact h.gn
structure kq(P:Program)(K:Ctx)(M:Mem)(β:Nat→Option Nat)(st:aF)(tmps:Array Value)(w:World)(l0:Loc)(v:Value)(T:TypeId):Prop where
 own:im P K.F M w T v
 apart:∀l e T' b,st.at l=some e→e.own=some T'→l≠l0→hA T v b→¬ hA T' (bZ tmps w β l) b
 unbox:∀b r cs,hA T v b→look st.H r=some cs→β r≠some b
def bB.put(h:bB P K M β st tmps w){t:Nat}{v:Value}{e:aR}(cc:t<tmps.size)(az:ce M β v e.d)
 (aw:∀T,e.own=some T→kq P K M β st tmps w (.slot t) v T):
 bB P K M β {st with env:=(t,e)::st.env} (tmps.setIfInBounds t v) w:=by
 have eQ:∀l,({st with env:=(t,e)::st.env}:aF).at l=if l = .slot t then some e else st.at l:=by
  intro l;cases l with
  |slot s=>
   simp only [aF.at,dd,Loc.slot.injEq];by_cases hs:t=s
   ·subst hs;simp
   ·simp [hs,Ne.symm hs]
  |cell r i=>simp [aF.at]
 have bY:∀l,bZ (tmps.setIfInBounds t v) w β l=if l = .slot t then v else bZ tmps w β l:=by
  intro l;cases l with
  |slot s=>
   simp only [bZ,Loc.slot.injEq];by_cases hs:s=t
   ·subst hs;simp [cc]
   ·simp [hs,Ne.symm hs]
  |cell r i=>simp [bZ]
 constructor
 ·intro l e1 ag;rw [eQ]at ag;rw [bY];by_cases h0:l = .slot t
  ·simp only [h0,if_true]at ag ⊢;cases ag;exact az
  ·simp only [h0,if_false]at ag ⊢;exact h.ew l e1 ag
 ·intro l e1 T ag aO;rw [eQ]at ag;rw [bY];by_cases h0:l = .slot t
  ·simp only [h0,if_true]at ag ⊢;cases ag;exact(aw T aO).own
  ·simp only [h0,if_false]at ag ⊢;exact h.own l e1 T ag aO
 ·intro l cr e1 e2 T T' b ag aO cx dy hb bH;rw [eQ]at ag cx;rw [bY]at hb bH;by_cases h0:l = .slot t<;>by_cases pg:cr = .slot t
  ·rw [h0,pg]
  ·simp only [h0,pg,if_true,if_false]at ag cx hb bH;cases ag;exact absurd bH ((aw T aO).apart cr e2 T' b cx dy pg hb)
  ·simp only [h0,pg,if_true,if_false]at ag cx hb bH;cases cx;exact absurd hb ((aw T' dy).apart l e1 T b ag aO h0 bH)
  ·simp only [h0,pg,if_false]at ag cx hb bH;exact h.uniq l cr e1 e2 T T' b ag aO cx dy hb bH
 ·intro l e1 T b r cs ag aO hb aj;rw [eQ]at ag;rw [bY]at hb;by_cases h0:l = .slot t
  ·simp only [h0,if_true]at ag hb;cases ag;exact(aw T aO).unbox b r cs hb aj
  ·simp only [h0,if_false]at ag hb;exact h.unbox l e1 T b r cs ag aO hb aj
 ·exact h.box
 ·exact h.inj
 ·exact h.lt
 ·exact h.mem
 ·exact h.m0
 ·exact h.frame
 ·exact h.gN
 ·exact h.hB
 ·exact h.gn
def bB.drop(h:bB P K M β st tmps w){t:Nat}{v:Value}:bB P K M β {st with env:=del st.env t} (tmps.setIfInBounds t v) w:=by
 have eQ:∀l,({st with env:=del st.env t}:aF).at l=if l = .slot t then none else st.at l:=by
  intro l;cases l with
  |slot s=>
   simp only [aF.at,nz,Loc.slot.injEq];by_cases hs:t=s
   ·subst hs;simp
   ·simp [hs,Ne.symm hs]
  |cell r i=>simp [aF.at]
 have ab:bB P K M β {st with env:=del st.env t} tmps w:=by
  refine h.sub rfl (λl aZ ag=>?_) (λr cs aj=>⟨cs,aj,rfl⟩)
  rw [eQ]at ag;by_cases h0:l = .slot t
  ·simp [h0]at ag
  ·simp only [h0,if_false]at ag;exact⟨aZ,ag,rfl,λ_ h=>h⟩
 have bY:∀l e,({st with env:=del st.env t}:aF).at l=some e→bZ (tmps.setIfInBounds t v) w β l=bZ tmps w β l:=by
  intro l e ag;cases l with
  |slot s=>
   have hs:t≠s:=by rintro rfl;simp [aF.at,nz]at ag
   simp [bZ,hs]
  |cell r i=>rfl
 constructor
 ·intro l e ag;rw [bY l e ag];exact ab.ew l e ag
 ·intro l e T ag aO;rw [bY l e ag];exact ab.own l e T ag aO
 ·intro l cr e aZ T T' b ag aO cx dy hb bH;rw [bY l e ag]at hb;rw [bY cr aZ cx]at bH;exact ab.uniq l cr e aZ T T' b ag aO cx dy hb bH
 ·intro l e T b r cs ag aO hb aj;rw [bY l e ag]at hb;exact ab.unbox l e T b r cs ag aO hb aj
 ·exact ab.box
 ·exact ab.inj
 ·exact ab.lt
 ·exact ab.mem
 ·exact ab.m0
 ·exact ab.frame
 ·exact ab.gN
 ·exact ab.hB
 ·exact ab.gn
def bB.Vq(h:bB P K M β st tmps w){eZ n':Nat}(jY:∀b,β eZ≠some b)(Vr:eZ<n')(afv:st.aT≤n'){vs:List Value}{T:TypeId}{cs:List aR}(hlen:vs.length=cs.length)(fL:∀v,v∈vs→v.oneCell'=true)(hlies:jm P T vs.length cs)
 (az:∀(i:Nat) v e,vs[i]? = some v→cs[i]? = some e→ce M β v e.d∧∀T,e.own=some T→v = .slice none 0 0):
 bB P K M (λr=>if r=eZ then some w.heap.size else β r) {st with H:=(eZ,cs)::st.H,aT:=n'} tmps {w with heap:=w.heap.push (.cells ⟨vs⟩ T (0,0))}:=by
 have IW:∀r b,β r=some b→r≠eZ:=λr b hb e=>jY b (e ▸ hb)
 have cI:∀r b,β r=some b→(λr=>if r=eZ then some w.heap.size else β r) r=some b:=by
  intro r b hb;simp [IW r b hb,hb]
 have fi:∀{v d},ce M β v d→ce M (λr=>if r=eZ then some w.heap.size else β r) v d:=by
  intro v d hd;refine hd.AI ?_;exact cI
 have hg:=h.grow (w':={w with heap:=w.heap.push (.cells ⟨vs⟩ T (0,0))}) (λb hb=>by simp [Array.getElem?_push,Nat.ne_of_lt hb])
 have hold:∀r cs,r≠eZ→look ((eZ,cs)::st.H) r=look st.H r:=λr cs dF=>by simp [dd,Ne.symm dF]
 have Vs:∀r cs,look st.H r=some cs→r≠eZ:=λr cs aj=>by obtain⟨b,_,_,hb,_⟩:=h.box r cs aj;exact IW r b hb
 have bY:∀l e,st.at l=some e→bZ tmps {w with heap:=w.heap.push (.cells ⟨vs⟩ T (0,0))} (λr=>if r=eZ then some w.heap.size else β r) l=bZ tmps {w with heap:=w.heap.push (.cells ⟨vs⟩ T (0,0))} β l:=by
  intro l e ag;cases l with
  |slot s=>rfl
  |cell r i=>
   simp only [aF.at]at ag;cases aj:look st.H r with
   |none=>simp [aj]at ag
   |some c=>simp [bZ,Vs r c aj]
 have IX:∀i e,cs[i]? = some e→∃v,vs[i]? = some v∧bZ tmps {w with heap:=w.heap.push (.cells ⟨vs⟩ T (0,0))} (λr=>if r=eZ then some w.heap.size else β r) (.cell eZ i)=v:=by
  intro i e hi;have AO:i<cs.length:=(List.getElem?_eq_some_iff.1 hi).1;have d9:vs[i]? = some vs[i]:=List.getElem?_eq_getElem (by omega)
  exact⟨_,d9,by simp [bZ,World.cell?,hlen ▸ AO]⟩
 have eQ:∀l e,({st with H:=(eZ,cs)::st.H,aT:=n'}:aF).at l=some e→(∃i,l = .cell eZ i∧cs[i]? = some e)∨(st.at l=some e∧∀i,l ≠ .cell eZ i):=by
  intro l e ag;cases l with
  |slot s=>exact .inr ⟨ag,by simp⟩
  |cell r i=>
   by_cases aj:r=eZ
   ·subst aj;simp [aF.at,dd]at ag;exact .inl ⟨i,rfl,ag⟩
   ·refine .inr ⟨?_,by simp [aj]⟩
    simpa [aF.at,dd,Ne.symm aj]using ag
 have iD:∀l e T',({st with H:=(eZ,cs)::st.H,aT:=n'}:aF).at l=some e→e.own=some T'→(∃i,l = .cell eZ i)→bZ tmps {w with heap:=w.heap.push (.cells ⟨vs⟩ T (0,0))} (λr=>if r=eZ then some w.heap.size else β r) l = .slice none 0 0:=by
  rintro l e T' ag aO ⟨i,rfl⟩
  have hi:cs[i]? = some e:=by simpa [aF.at,dd]using ag
  obtain⟨v,ab,ah⟩:=IX i e hi;rw [ah];exact(az i v e ab hi).2 T' aO
 constructor
 ·intro l e ag;rcases eQ l e ag with⟨i,rfl,hi⟩|⟨aw,_⟩
  ·obtain⟨v,ab,ah⟩:=IX i e hi;rw [ah];exact fi (az i v e ab hi).1
  ·rw [bY l e aw];exact fi (hg.ew l e aw)
 ·intro l e T' ag aO;rcases eQ l e ag with⟨i,iX,hi⟩|⟨aw,_⟩
  ·rw [iD l e T' ag aO ⟨i,iX⟩];exact .inl rfl
  ·rw [bY l e aw];exact hg.own l e T' aw aO
 ·intro l cr e aZ fY mT b ag aO cx dy hb bH;rcases eQ l e ag with⟨i,iX,hi⟩|⟨aw,_⟩
  ·rw [iD l e fY ag aO ⟨i,iX⟩]at hb;cases hb
  ·rcases eQ cr aZ cx with⟨i,iX,hi⟩|⟨iY,_⟩
   ·rw [iD cr aZ mT cx dy ⟨i,iX⟩]at bH;cases bH
   ·rw [bY l e aw]at hb;rw [bY cr aZ iY]at bH;exact hg.uniq l cr e aZ fY mT b aw aO iY dy hb bH
 ·intro l e fY b r c ag aO hb aj;rcases eQ l e ag with⟨i,iX,hi⟩|⟨aw,_⟩
  ·rw [iD l e fY ag aO ⟨i,iX⟩]at hb;cases hb
  ·rw [bY l e aw]at hb
   have cJ:b<w.heap.size:=by
    have ab:=(h.own l e fY aw aO)
    have ah:bZ tmps {w with heap:=w.heap.push (.cells ⟨vs⟩ T (0,0))} β l=bZ tmps w β l:=by
     cases l with
     |slot s=>rfl
     |cell r i=>
      simp only [aF.at]at aw;cases aj:look st.H r with
      |none=>simp [aj]at aw
      |some c=>
       obtain⟨cb,kN,mT,fj,bu,_⟩:=h.box r c aj;simp only [bZ,fj];rw [ov (w:=w) (by simp [Array.getElem?_push,Nat.ne_of_lt (lt_of_heap bu)])]
    rw [ah]at hb;exact ab.lt hb
   by_cases h6:r=eZ
   ·subst h6;simp;omega
   ·simp [h6];exact hg.unbox l e fY b r c aw aO hb (by simpa [dd,Ne.symm h6]using aj)
 ·intro r c aj;by_cases h6:r=eZ
  ·subst h6;simp [dd]at aj;subst aj;refine⟨w.heap.size,vs,T,by simp,by simp,hlen,λo=>?_,?_,fL,hlies⟩
   ·cases hm:M w.heap.size o with
    |none=>rfl
    |some v=>have:=lt_of_cell (h.mem _ _ _ hm);omega
   ·cases dg:K.F w.heap.size with
    |none=>rfl
    |some a6=>have:=lt_of_heap (h.frame _ a6 dg).1;omega
  ·obtain⟨b,kN,fY,ab,ah,ay⟩:=hg.box r c (by simpa [dd,Ne.symm h6]using aj)
   exact⟨b,kN,fY,by simp [h6,ab],ah,ay⟩
 ·intro r ct b c gp aj eH hb bH;by_cases h6:r=eZ<;>by_cases sb:ct=eZ
  ·rw [h6,sb]
  ·simp [h6]at hb;simp [sb]at bH;have:=h.t6 (by simpa [dd,Ne.symm sb]using eH) bH
   omega
  ·simp [sb]at bH;simp [h6]at hb;have:=h.t6 (by simpa [dd,Ne.symm h6]using aj) hb
   omega
  ·simp [h6]at hb;simp [sb]at bH;exact h.inj r ct b c gp (by simpa [dd,Ne.symm h6]using aj) (by simpa [dd,Ne.symm sb]using eH) hb bH
 ·intro r b hb;by_cases h6:r=eZ
  ·subst h6;exact Vr
  ·simp [h6]at hb;have:=h.lt r b hb;simp;omega
 ·exact hg.mem
 ·exact hg.m0
 ·exact hg.frame
 ·intro r b hb;exact cI r b (h.gN r b hb)
 ·exact hg.hB
 ·exact hg.gn
end
section
variable {P:Program} {K:Ctx} {M M':Mem} {β β':Nat→Option Nat} {st bG:aF} {tmps dI:Array Value} {w w':World}
def bB.w_(h:bB P K M β st tmps w){r b:Nat}{cs:List aR}(aj:look st.H r=some cs)(hb:β r=some b){vs vs':List Value}{T:TypeId}
 (bu:w.heap[b]? = some (.cells ⟨vs⟩ T (0,0))) {cs':List aR} (hlen:vs'.length=cs'.length) (fL:∀v,v∈vs'→v.oneCell'=true) (hlies:jm P T vs.length cs→jm P T vs'.length cs') (dE:cs'.length=cs.length)
 (ln:w'.heap[b]? = some (.cells ⟨vs'⟩ T (0,0))) (t7:∀bF,bF≠b→w'.heap[bF]? = w.heap[bF]?) (i0:Nat)
 (az:∀(i:Nat) v e,vs'[i]? = some v→cs'[i]? = some e→ce M β v e.d∧∀T,e.own=some T→
  (i≠i0∧(∃bI,cs[i]? = some bI∧bI.own=some T)∧vs[i]? = some v)∨(i=i0∧kq P K M β st tmps w (.cell r i0) v T)) (md:(w'.os,w'.output)=(w.os,w.output):=by rfl):
 bB P K M β {st with H:=(r,cs')::st.H} tmps w':=by
 have xa:K.F b=none∧∀o,M b o=none:=by
  obtain⟨cb,_,_,ab,_,_,ah,ay,_⟩:=h.box r cs aj;rw [hb]at ab;cases ab;exact⟨ay,ah⟩
 have Vt:jm P T vs.length cs:=by
  obtain⟨cb,kN,fY,ab,ah,_,_,_,_,ay⟩:=h.box r cs aj;rw [hb]at ab;cases ab;rw [bu]at ah;cases ah;exact ay
 have gH:∀bF,bF≠b→∀o,w'.cell? ⟨bF,o,none⟩=w.cell? ⟨bF,o,none⟩:=λbF dF o=>ov (t7 bF dF)
 have dF:∀ct c bF,look st.H ct=some c→β ct=some bF→ct≠r→bF≠b:=λct c bF eH bH dF e=>dF (h.inj ct r bF c cs eH aj bH (e ▸ hb))
 have eQ:∀l e,({st with H:=(r,cs')::st.H}:aF).at l=some e→(∃i v,l = .cell r i∧cs'[i]? = some e∧vs'[i]? = some v∧bZ tmps w' β l=v)∨(st.at l=some e∧bZ tmps w' β l=bZ tmps w β l∧∀i,l ≠ .cell r i):=by
  intro l e ag;cases l with
  |slot s=>exact .inr ⟨ag,rfl,by simp⟩
  |cell ct i=>
   by_cases gc:ct=r
   ·subst gc;simp [aF.at,dd]at ag;have hi:i<cs'.length:=(List.getElem?_eq_some_iff.1 ag).1;have d9:vs'[i]? = some vs'[i]:=List.getElem?_eq_getElem (by omega)
    exact .inl ⟨i,_,rfl,ag,d9,by simp only [bZ,hb,cell_of_heap ln,d9,Option.getD_some]⟩
   ·have cx:st.at (.cell ct i)=some e:=by simpa [aF.at,dd,Ne.symm gc]using ag
    refine .inr ⟨cx,?_,by simp [gc]⟩
    simp only [aF.at]at cx;cases eH:look st.H ct with
    |none=>simp [eH]at cx
    |some c=>
     obtain⟨cb,_,_,cI,_⟩:=h.box ct c eH;simp only [bZ,cI];rw [gH cb (dF ct c cb eH cI gc)]
 have fh:∀l e T,({st with H:=(r,cs')::st.H}:aF).at l=some e→e.own=some T→
  (l ≠ .cell r i0∧(∃bI,st.at l=some bI∧bI.own=some T)∧bZ tmps w' β l=bZ tmps w β l)∨(l = .cell r i0∧kq P K M β st tmps w (.cell r i0) (bZ tmps w' β l) T):=by
  intro l e fY ag aO;rcases eQ l e ag with⟨i,v,rfl,hi,d9,bY⟩|⟨aw,bY,hf⟩
  ·rcases(az i v e d9 hi).2 fY aO with⟨Vu,⟨bI,AP,iZ⟩,hold⟩|⟨rfl,hn⟩
   ·refine .inl ⟨by simp [Vu],⟨bI,by simp [aF.at,aj,AP],iZ⟩,?_⟩
    rw [bY];simp only [bZ,hb,cell_of_heap bu,hold,Option.getD_some]
   ·exact .inr ⟨rfl,by rw [bY];exact hn⟩
  ·exact .inl ⟨hf i0,⟨e,aw,aO⟩,bY⟩
 have eb:∀ct c,look ((r,cs')::st.H) ct=some c→∃gp,look st.H ct=some gp:=by
  intro ct c hc;by_cases gc:r=ct
  ·exact⟨cs,gc ▸ aj⟩
  ·exact⟨c,by simpa [dd,gc]using hc⟩
 constructor
 ·intro l e ag;rcases eQ l e ag with⟨i,v,rfl,hi,d9,bY⟩|⟨aw,bY,hf⟩
  ·rw [bY];exact(az i v e d9 hi).1
  ·rw [bY];exact h.ew l e aw
 ·intro l e fY ag aO;rcases fh l e fY ag aO with⟨_,⟨bI,h0,iZ⟩,bY⟩|⟨rfl,hn⟩
  ·rw [bY];refine(h.own l bI fY h0 iZ).congr (λcb cI=>t7 cb ?_) (λ_ _ _=>rfl)
   rintro rfl
   exact h.unbox l bI fY cb r cs h0 iZ cI aj hb
  ·refine hn.own.congr (λcb cI=>t7 cb ?_) (λ_ _ _=>rfl)
   rintro rfl
   exact hn.unbox cb r cs cI aj hb
 ·intro l cr e aZ fY mT cb ag aO cx dy cI qh;rcases fh l e fY ag aO with⟨hl0,⟨bI,h0,iZ⟩,bY⟩|⟨rfl,hn⟩<;>rcases fh cr aZ mT cx dy with⟨Vv,⟨sc,pg,t8⟩,nA⟩|⟨rfl,xb⟩
  ·rw [bY]at cI;rw [nA]at qh;exact h.uniq l cr bI sc fY mT cb h0 iZ pg t8 cI qh
  ·rw [bY]at cI;exact absurd cI (xb.apart l bI fY cb h0 iZ hl0 qh)
  ·rw [nA]at qh;exact absurd qh (hn.apart cr sc mT cb pg t8 Vv cI)
  ·rfl
 ·intro l e fY cb ct c ag aO cI eH;obtain⟨gp,ip⟩:=eb ct c eH;rcases fh l e fY ag aO with⟨_,⟨bI,h0,iZ⟩,bY⟩|⟨rfl,hn⟩
  ·rw [bY]at cI;exact h.unbox l bI fY cb ct gp h0 iZ cI ip
  ·exact hn.unbox cb ct gp cI ip
 ·intro ct c eH;by_cases gc:r=ct
  ·subst gc;simp [dd]at eH;subst eH;exact⟨b,vs',T,hb,ln,hlen,xa.2,xa.1,fL,hlies Vt⟩
  ·have iq:look st.H ct=some c:=by simpa [dd,gc]using eH
   obtain⟨cb,kN,fY,ab,ah,ay⟩:=h.box ct c iq;exact⟨cb,kN,fY,ab,(t7 cb (dF ct c cb iq ab (Ne.symm gc))).trans ah,ay⟩
 ·intro af aq cb c1 c2 hC iq cI fj;obtain⟨Vw,ab⟩:=eb af c1 hC;obtain⟨Vx,ah⟩:=eb aq c2 iq;exact h.inj af aq cb Vw Vx ab ah cI fj
 ·exact h.lt
 ·intro cb o v hm;by_cases sd:cb=b
  ·subst sd;rw [xa.2 o]at hm;cases hm
  ·rw [gH cb sd];exact h.mem cb o v hm
 ·exact h.m0
 ·intro cb a6 dg;have sd:cb≠b:=by rintro rfl;rw [xa.1]at dg;cases dg
  obtain⟨ab,ah⟩:=h.frame cb a6 dg;exact⟨(t7 cb sd).trans ab,ah⟩
 ·exact h.gN
 ·exact h.hB
 ·exact md.trans h.gn
def kO:∀(l:List Nat) (env:List (Nat×aR)) (s:Nat),
 look (fT l env) s=if s∈l then(look env s).map (λe=>{e with own:=none})else look env s
 |[],env,s=>by simp [fT]
 |t::l,env,s=>by
  have bD:=kO l env s;simp only [fT];cases cc:look env t with
  |none=>
   simp only [bD];by_cases hs:s=t
   ·subst hs;simp [cc]
   ·simp [hs]
  |some e=>
   simp only [dd];by_cases hs:t=s
   ·subst hs;simp [cc]
   ·simp [hs,Ne.symm hs,bD]
def bB.f8(h:bB P K M β st tmps w)(l:List Nat):bB P K M β {st with env:=fT l st.env} tmps w:=by
 refine h.sub rfl (λg_ aZ ag=>?_) (λr cs aj=>⟨cs,aj,rfl⟩)
 cases g_ with
 |slot s=>
  simp only [aF.at,kO]at ag ⊢;by_cases hs:s∈l
  ·simp only [hs,if_true,Option.map_eq_some_iff]at ag;obtain⟨e,he,rfl⟩:=ag;exact⟨e,he,rfl,by simp⟩
  ·simp only [hs,if_false]at ag;exact⟨aZ,ag,rfl,λ_ h=>h⟩
 |cell r i=>exact⟨aZ,ag,rfl,λ_ h=>h⟩
def bB.hand(h:bB P K M β st tmps w){s:Nat}{e:aR}{T:TypeId}(hs:look st.env s=some e)(aO:e.own=some T)(l0:Loc):
 kq P K M β {st with env:=fT [s] st.env} tmps w l0 (tmps.getD s undef) T:=by
 have ag:st.at (.slot s)=some e:=hs;refine⟨h.own (.slot s) e T ag aO,λl aZ T' b cx dy _ hb bH=>?_,λb r cs hb aj=>h.unbox (.slot s) e T b r cs ag aO hb aj⟩
 have eI:∃e2,st.at l=some e2∧e2.own=some T'∧l ≠ .slot s:=by
  cases l with
  |slot ow=>
   simp only [aF.at,kO]at cx ⊢;by_cases qi:ow=s
   ·subst qi;simp at cx;obtain⟨_,_,rfl⟩:=cx;simp at dy
   ·simp [qi]at cx;exact⟨aZ,cx,dy,by simp [qi]⟩
  |cell r i=>exact⟨aZ,cx,dy,by simp⟩
 obtain⟨e2,ah,Vy,dF⟩:=eI;exact dF (h.uniq l (.slot s) e2 e T' T b ah Vy ag aO bH hb)
def bB.IY(h:bB P K M β st tmps w){r i:Nat}{cs cs':List aR}{e:aR}{T:TypeId}(aj:look st.H r=some cs)(hi:cs[i]? = some e)(aO:e.own=some T)
 (dE:cs'.length=cs.length) (hD:∀(j:Nat) aZ,cs'[j]? = some aZ→∃bI,cs[j]? = some bI∧bI.d=aZ.d∧(∀T,aZ.own=some T→bI.own=some T∧j≠i)) (l0:Loc):
 bB P K M β {st with H:=(r,cs')::st.H} tmps w∧kq P K M β {st with H:=(r,cs')::st.H} tmps w l0 (bZ tmps w β (.cell r i)) T:=by
 have ag:st.at (.cell r i)=some e:=by simp [aF.at,aj,hi]
 have eQ:∀l aZ,({st with H:=(r,cs')::st.H}:aF).at l=some aZ→∃bI,st.at l=some bI∧bI.d=aZ.d∧∀T,aZ.own=some T→bI.own=some T∧l ≠ .cell r i:=by
  intro l aZ cx;cases l with
  |slot s=>exact⟨aZ,cx,rfl,λT h=>⟨h,by simp⟩⟩
  |cell ct j=>
   by_cases gc:r=ct
   ·subst gc;simp [aF.at,dd]at cx;obtain⟨bI,ab,ah,ay⟩:=hD j aZ cx;exact⟨bI,by simp [aF.at,aj,ab],ah,λT aO=>⟨(ay T aO).1,by simp [(ay T aO).2]⟩⟩
   ·refine⟨aZ,by simpa [aF.at,dd,gc]using cx,rfl,λT h=>⟨h,by simp [Ne.symm gc]⟩⟩
 have eb:∀ct c,look ((r,cs')::st.H) ct=some c→∃gp,look st.H ct=some gp∧gp.length=c.length:=by
  intro ct c hc;by_cases gc:r=ct
  ·subst gc;simp [dd]at hc;subst hc;exact⟨cs,aj,dE.symm⟩
  ·exact⟨c,by simpa [dd,gc]using hc,rfl⟩
 refine⟨h.sub rfl (λl aZ cx=>?_) eb,h.own _ e T ag aO,λl aZ T' b cx dy _ hb bH=>?_,λb ct c hb eH=>?_⟩
 ·obtain⟨bI,ab,ah,ay⟩:=eQ l aZ cx;exact⟨bI,ab,ah,λT aO=>(ay T aO).1⟩
 ·obtain⟨bI,ab,_,ay⟩:=eQ l aZ cx;exact(ay T' dy).2 (h.uniq l _ bI e T' T b ab (ay T' dy).1 ag aO bH hb)
 ·obtain⟨gp,ab,_⟩:=eb ct c eH;exact h.unbox _ e T b ct gp ag aO hb ab
def AQ(l0:Loc)(T:TypeId):kq P K M β st tmps w l0 (.slice none 0 0) T:=
 ⟨.inl rfl,λ_ _ _ _ _ _ _ hb=>(by cases hb),λ_ _ _ hb=>(by cases hb)⟩
def IZ:∀{l:List Nat} {env lm:List (Nat×aR)},tX env l=some lm→∀s e,look lm s=some e→look env s=some e
 |[],env,lm,h,s,e,he=>by simp [tX]at h;subst h;simp [look]at he
 |t::l,env,lm,h,s,e,he=>by
  simp only [tX]at h;split at h<;>simp at h
  rename_i e1 g_ ab ah;subst h;rw [dd]at he;by_cases jn:t=s
  ·simp [jn]at he;subst he;rw [←jn];exact ab
  ·simp [jn]at he;exact IZ ah s e he
def AR:∀{l:List Nat} {H H':List (Nat×List aR)},tY H l=some H'→∀s e,look H' s=some e→look H s=some e
 |[],env,lm,h,s,e,he=>by simp [tY]at h;subst h;simp [look]at he
 |t::l,env,lm,h,s,e,he=>by
  simp only [tY]at h;split at h<;>simp at h
  rename_i e1 g_ ab ah;subst h;rw [dd]at he;by_cases jn:t=s
  ·simp [jn]at he;subst he;rw [←jn];exact ab
  ·simp [jn]at he;exact AR ah s e he
def ox{α:Type}:∀{l:List (Nat×α)} {i:Nat} {x:α},look l i=some x→(i,x)∈l
 |[],_,_,h=>by simp [look]at h
 |(j,y)::l,i,x,h=>by
  rw [dd]at h;by_cases hj:j=i
  ·simp [hj]at h;subst h;simp [hj]
  ·simp [hj]at h;exact List.mem_cons_of_mem _ (ox h)
def AS{n:Nat}:∀{l:List aR} {i:Nat} {e:aR},oq n l=true→l[i]? = some e→below n e.d=true
 |[],_,_,_,h=>by simp at h
 |d::l,0,_,hb,h=>by simp [oq]at hb;simp at h;exact h ▸ hb.1
 |d::l,i+1,_,hb,h=>by simp [oq]at hb;simp at h;exact AS hb.2 h
def bB.qd(h:bB P K M β st tmps w){live se:List Nat}{n:Nat}(aj:Ab.qd live se n st.env st.H st.aT=some bG)(dJ:∀r b,K.h5 r=some b→r<n):
 ∃ β',bB P K M β' bG tmps w:=by
 unfold Ab.qd at aj;split at aj
 case h_2=>cases aj
 rename_i lm H' he eb;rw [Bool.cond_eq_ite]at aj;split at aj
 case isFalse=>cases aj
 rename_i hc;cases aj;simp only [Bool.and_eq_true,List.all_eq_true,Prod.forall,Nat.blt_eq,Nat.ble_eq]at hc;obtain⟨⟨hn,Vz⟩,I0⟩:=hc
 have ab:bB P K M β {env:=lm,H:=H',aT:=st.aT} tmps w:=by
  refine h.sub rfl (λl aZ ag=>?_) (λr cs aj=>⟨cs,AR eb _ _ aj,rfl⟩)
  refine⟨aZ,?_,rfl,λ_ h=>h⟩
  cases l with
  |slot s=>exact IZ he _ _ ag
  |cell r i=>
   simp only [aF.at]at ag ⊢;cases aj:look H' r with
   |none=>simp [aj]at ag
   |some c=>simp [aj]at ag;simp [AR eb _ _ aj,ag]
 have me:∀l e,({env:=lm,H:=H',aT:=st.aT}:aF).at l=some e→below n e.d=true∧(∀r i,l = .cell r i→r<n):=by
  intro l e ag;cases l with
  |slot s=>exact⟨Vz s e (ox ag),by simp⟩
  |cell r i=>
   simp only [aF.at]at ag;cases aj:look H' r with
   |none=>simp [aj]at ag
   |some c=>
    simp [aj]at ag;have:=I0 r c (ox aj)
    exact⟨AS this.2 ag,by rintro ct kr h;cases h;exact this.1⟩
 refine⟨λr=>if r<n then β r else none,?_⟩
 have bY:∀l e,({env:=lm,H:=H',aT:=st.aT}:aF).at l=some e→bZ tmps w (λr=>if r<n then β r else none) l=bZ tmps w β l:=by
  intro l e ag;cases l with
  |slot s=>rfl
  |cell r i=>simp [bZ,(me _ _ ag).2 r i rfl]
 have h6:∀r c,look H' r=some c→r<n:=λr c aj=>(I0 r c (ox aj)).1
 constructor
 ·intro l e ag;rw [bY l e ag];exact(ab.ew l e ag).IV (λr aj=>by simp [aj]) (me l e ag).1
 ·intro l e T ag aO;rw [bY l e ag];exact ab.own l e T ag aO
 ·intro l cr e aZ T T' b ag aO cx dy hb bH;rw [bY l e ag]at hb;rw [bY cr aZ cx]at bH;exact ab.uniq l cr e aZ T T' b ag aO cx dy hb bH
 ·intro l e T b r cs ag aO hb aj;rw [bY l e ag]at hb;have:=ab.unbox l e T b r cs ag aO hb aj
  simpa [h6 r cs aj]using this
 ·intro r cs aj;obtain⟨b,vs,T,ah,ay⟩:=ab.box r cs aj;exact⟨b,vs,T,by simpa [h6 r cs aj]using ah,ay⟩
 ·intro r ct b cs cs' aj eH hb bH;exact ab.inj r ct b cs cs' aj eH (by simpa [h6 r cs aj]using hb) (by simpa [h6 ct cs' eH]using bH)
 ·intro r b hb;by_cases cJ:r<n
  ·exact cJ
  ·simp [cJ]at hb
 ·exact ab.mem
 ·exact ab.m0
 ·exact ab.frame
 ·intro r b hb;simp [dJ r b hb,ab.gN r b hb]
 ·exact ab.hB
 ·exact ab.gn
end
def jo(P:Program):TypeDesc→Option jW
 |.int k=>some (.int k)
 |.bool=>some .bool
 |.string=>some .str
 |.struct cl=>some (.bV (cl.toList.map λf=>(f.offset,f.type,P.cellsOf f.type)))
 |.slice e=>some (.bz e)
 |.array n e=>some (.arr n e)
 |.pointer _=>some .ptr
 |.func _ _ _=>some .aS
 |.interface _=>some .l9
 |_=>none
def qj:Value→V→Bool
 |.int k n,.int k' n'=>decide (k=k')&&decide (n=n')
 |.bool a,.bool b=>a == b
 |.string s,.str l=>decide (s.data.toList=l)
 |.slice none 0 0,.bz _ n _=>Nat.beq n 0
 |.pointer none,.dV=>true
 |.nilIface,.gM=>true
 |.nilFunc,.aI=>true
 |_,_=>false
def qk:List Value→List V→Bool
 |[],[]=>true
 |v::vs,x::xs=>qj v x&&qk vs xs
 |_,_=>false
def sf(P:Program)(inner:TypeId→List Field→Bool):Nat→List Field→Bool
 |_,[]=>true
 | i, f :: l => Nat.beq f.offset i && !decide (f.name = "_") && (match P.underlying f.type with
  |some (.int _) |some .bool |some .string=>sf P inner (i+1) l
  |some (.struct gs)=>inner f.type gs.toList&&sf P inner (i+P.cellsOf f.type) l
  |_=>false)
def oy(P:Program):Nat→List Field→Nat
 | 0,cl=>cl.length
 |d+1,cl=>(cl.map λf=>match P.underlying f.type with
  |some (.struct gs)=>oy P d gs.toList
  |_=>1).sum
def ql(P:Program):Nat→Nat→List Field→Bool
 | 0=>sf P λ_ _=>false
 |d+1=>sf P λt gs=>!P.stoodInHeld t&&Nat.beq (P.cellsOf t) (oy P d gs)&&ql P d 0 gs
def AT(P:Program)(t:TypeId):Bool:=
 match P.underlying t with
 |some (.struct cl)=>!P.stoodInHeld t && !P.eqGuardType P.depth t&&ql P 4 0 cl.toList
 |_=>false
def I1(P:Program)(t:TypeId)(aE:dZ):Bool:=
 match P.info? t,P.underlying t with
 |some i,some d=>decide (jo P d=some aE.k)&&Nat.beq i.size aE.size&&Nat.beq i.bytes aE.bytes&&Nat.beq aE.zero.length aE.size &&
  aE.h2.all (λx=>liesAt P P.depth t (aE.size / P.cellsOf t) x.1 x.2 1) &&
  (match i.zero with|some z=>qk z.cells.toList aE.zero&&(match z with|.agg _=>aE.k.isAgg|.tuple _=>false|_=>!aE.k.isAgg)|none=>false)
 |_,_=>false
def eJ(P:Program)(tt:de):Bool:=tt.all λx=>I1 P x.1 x.2
def AU{M:Mem}{v:Value}{x:V}(h:qj v x=true):cT M v x∧v.oneCell'=true:=by
 unfold qj at h;split at h<;>simp at h
 ·obtain⟨rfl,rfl⟩:=h;exact⟨.int _ _,rfl⟩
 ·subst h;exact⟨.bool _,rfl⟩
 ·rename_i s l;subst h;exact⟨by exact .str s.data.toList,rfl⟩
 ·subst h;exact⟨.jJ _ _,rfl⟩
 ·exact⟨.dV,rfl⟩
 ·exact⟨.gM,rfl⟩
 ·exact⟨.aI,rfl⟩
def sg{M:Mem}:∀{vs:List Value} {xs:List V},qk vs xs=true→vs.length=xs.length∧(∀v,v∈vs→v.oneCell'=true)∧∀(i:Nat) v x,vs[i]? = some v→xs[i]? = some x→cT M v x∧qj v x=true
 |[],[],_=>by simp
 |[],_::_,h=>by simp [qk]at h
 |_::_,[],h=>by simp [qk]at h
 |v::vs,x::xs,h=>by
  simp [qk]at h;obtain⟨ab,ah,ay⟩:=sg (M:=M) h.2;refine⟨by simp [ab],?_,?_⟩
  ·intro u hu;rcases List.mem_cons.1 hu with rfl|hu
   ·exact(AU (M:=M) h.1).2
   ·exact ah u hu
  ·intro i u y hu b1;cases i with
   |zero=>simp at hu b1;subst hu;subst b1;exact⟨(AU h.1).1,h.1⟩
   |succ i=>simp at hu b1;exact ay i u y hu b1
structure Row(P:Program)(t:TypeId)(aE:dZ) where
 info:TypeInfo
 desc:TypeDesc
 z:Value
 hi:P.info? t=some info
 hd:P.underlying t=some desc
 hk:jo P desc=some aE.k
 size:info.size=aE.size
 bytes:info.bytes=aE.bytes
 dQ:info.zero=some z
 AV:aE.zero.length=aE.size
 t':qk z.cells.toList aE.zero=true
 h2:(aE.h2.all λx=>liesAt P P.depth t (aE.size / P.cellsOf t) x.1 x.2 1)=true
 afw:match z with|.agg _=>aE.k.isAgg=true|.tuple _=>False|_=>aE.k.isAgg=false
theorem dR{P:Program}{tt:de}(h:eJ P tt=true){t:TypeId}{aE:dZ}(cc:look tt t=some aE):Nonempty (Row P t aE):=by
 have hm:=ox cc;unfold eJ at h;rw [List.all_eq_true]at h;have:=h _ hm
 unfold I1 at this
 dsimp only at this
 split at this
 case h_2=>cases this
 rename_i i d hi hd;simp only [Bool.and_eq_true,decide_eq_true_eq,Nat.beq_eq]at this;obtain⟨⟨⟨⟨⟨ab,ah⟩,ay⟩,bl⟩,me⟩,bQ⟩:=this;split at bQ
 case h_2=>cases bQ
 rename_i z dQ;simp only [Bool.and_eq_true]at bQ
 exact⟨⟨i,d,z,hi,hd,ab,ah,ay,dQ,bl,bQ.1,me,by
  have:=bQ.2
  cases z<;>simp at this<;>simp [this]⟩⟩
def Row.cellsOf{P:Program}{t:TypeId}{aE:dZ}(r:Row P t aE):P.cellsOf t=aE.size:=by
 simp [Program.cellsOf,r.hi,r.size]
section runs
variable {P:Program} {t:TypeId} {aE:dZ} (w:World)
def Row.run_sizeOf(r:Row P t aE):(sizeOf t).run P w = .ok aE.size w:=by
 rw [Go.run_sizeOf w r.hi,r.cellsOf]
def Row.xc(r:Row P t aE):(zeroValue t).run P w = .ok r.z w:=by
 simp [zeroValue,typeInfo,r.hi,r.dQ]
def Row.run_underlying(r:Row P t aE):(underlying t).run P w = .ok r.desc w:=Go.run_underlying r.hd w
def Row.sh(r:Row P t aE):(isAgg t).run P w = .ok aE.k.isAgg w:=by
 have hk:=r.hk;simp only [isAgg,Sem.run_bind,r.run_underlying,Result.andThen_ok];cases hd:r.desc<;>simp [hd,jo]at hk<;>simp [←hk,jW.isAgg]
end runs
def fa(tmps:Array Value)(p:Path):Prop:=∀x,x∈p→tmps.getD x.1 undef = .bool x.2
structure e0(P:Program)(K:Ctx)(N:Nat)(M:Mem)(β:Nat→Option Nat)(g:cU)(tmps:Array Value)(w:World):Prop where
 bj:bB P K M β {env:=g.env,H:=g.H,aT:=g.aT} tmps w
 size:tmps.size=N
 fresh:∀s id,look g.ids s=some id→look g.H id=none→∀b,β id≠some b
 cond:∀t q d,look g.bN t=some (q,d)→(fa tmps q→ce M β (tmps.getD t undef) d)∧(¬ fa tmps q→tmps.getD t undef=undef)
def Path.VA{q p:Path}(h:q.sub p=true){tmps:Array Value}(hp:fa tmps p):fa tmps q:=by
 intro x hx;unfold Path.sub at h;rw [List.all_eq_true]at h;have:=h x hx
 unfold Path.has at this;rw [List.any_eq_true]at this;obtain⟨y,b1,kt⟩:=this;simp at kt
 have ab:=hp y b1;rw [←kt.1,←kt.2];exact ab
def VB{M:Mem}{v:Value}{x:V}(h:AB v=some x):cT M v x:=by
 unfold AB at h;split at h<;>simp at h<;>subst h
 ·exact .int _ _
 ·exact .bool _
 ·rename_i s;exact .str s.data.toList
 ·exact .dV
 ·exact .gM
 ·exact .aI
def dz{P:Program}{K:Ctx}{N:Nat}{M:Mem}{β:Nat→Option Nat}{g:cU}{tmps:Array Value}{w:World}(h:e0 P K N M β g tmps w){p:Path}(hp:fa tmps p){tt:de}{ty:TypeId}{x:Operand}{d:D}
 (hx:rd g.env g.bN p tt ty x=some d) {ds:List Deferred}:ce M β ((⟨tmps,ds⟩:Act).eval x) d:=by
 cases x with
 |tmp t=>
  simp only [rd]at hx;split at hx
  ·rename_i q dH hc;rw [Bool.cond_eq_ite]at hx;split at hx<;>simp at hx
   subst hx;exact(h.cond t q dH hc).1 (Path.VA (by assumption) hp)
  ·simp only [Option.map_eq_some_iff]at hx;obtain⟨e,he,rfl⟩:=hx;exact h.bj.ew (.slot t) e he
 |const v=>
  simp only [rd]at hx;split at hx
  ·rename_i heq;cases heq
  ·rename_i heq;cases heq;split at hx
   ·cases hx;exact .v _ _ (.jJ _ _)
   ·cases hx
  ·rename_i heq;cases heq;simp only [Option.map_eq_some_iff]at hx;obtain⟨y,b1,rfl⟩:=hx;exact .v _ _ (VB b1)
  ·rename_i heq;cases heq
  ·rename_i heq;cases heq
 |global n=>simp [rd]at hx
 |func f=>
  simp [rd]at hx;subst hx;exact .fn f [] [] rfl (by simp)
def VC{v:Value}(h:v.oneCell'=true):v.cells = #[v]:=by
 cases v<;>first|rfl|(simp [Value.oneCell']at h)
def ce.cells{M:Mem}{β:Nat→Option Nat}{v:Value}{d:D}(h:ce M β v d)(cc:nx d=false):
 v.cells.toList.length=(cellsD d).length∧(∀u,u∈v.cells.toList→u.oneCell'=true)∧∀(i:Nat) u c,v.cells.toList[i]? = some u→(cellsD d)[i]? = some c→ce M β u c:=by
 have single:∀{v:Value} {d:D},v.cells = #[v]→cellsD d=[d]→v.oneCell'=true→ce M β v d→
  v.cells.toList.length=(cellsD d).length∧(∀u,u∈v.cells.toList→u.oneCell'=true)∧∀(i:Nat) u c,v.cells.toList[i]? = some u→(cellsD d)[i]? = some c→ce M β u c:=by
  intro v d ab ah ay bl;rw [ab,ah];refine⟨rfl,by simpa using ay,λi u c hu hc=>?_⟩
  cases i with
  |zero=>simp at hu hc;subst hu;subst hc;exact bl
  |succ i=>simp at hu
 cases h with
 |v u x hx=>
  cases hx with
  |agg vs cs hn ab aj=>
   refine⟨by simp [Value.cells,cellsD,V.cells,hn],by simpa [Value.cells]using ab,λi u c hu hc=>?_⟩
   simp [Value.cells]at hu;simp [cellsD,V.cells]at hc;obtain⟨a,ha,rfl⟩:=hc;exact .v _ _ (aj i u a hu ha)
  |any v ab=>exact single (VC ab) rfl ab (.v _ _ (.any _ ab))
  |_=>exact single rfl rfl rfl (.v _ _ (by constructor<;>assumption))
 |ptr r off b hb=>exact single rfl rfl rfl (.ptr r off b hb)
 |jK r off u=>exact single rfl rfl rfl (.jK r off u)
 |ca r off b u hb=>exact single rfl rfl rfl (.ca r off b u hb)
 |eA b off x val cP ab aj=>exact single rfl rfl rfl (.eA b off x val cP ab aj)
 |full b k n get h=>exact single rfl rfl rfl (.full b k n get h)
 |fn f vs cs hn aj=>exact single rfl rfl rfl (.fn f vs cs hn aj)
 |agg vs cs hn ab aj=>exact⟨hn,ab,aj⟩
 |b_ vs cs hn aj=>simp [nx]at cc
def VD{cs:List D}:∀{xs:List V},tR cs=some xs→cs=xs.map .v:=by
 induction cs with
 |nil=>intro xs h;simp [tR]at h;subst h;rfl
 |cons d l bD=>
  intro xs h;cases d<;>simp [tR]at h
  obtain⟨ys,b1,rfl⟩:=h;simp [bD b1]
def si{M:Mem}{β:Nat→Option Nat}{vs:List Value}{cs:List D}(hn:vs.length=cs.length)(ab:∀v,v∈vs→v.oneCell'=true)
 (h:∀(i:Nat) v c,vs[i]? = some v→cs[i]? = some c→ce M β v c):ce M β (.agg ⟨vs⟩) (ko cs):=by
 unfold ko;split
 ·rename_i xs hx;have:=VD hx
  subst this;refine .v _ _ (.agg vs xs (by simpa using hn) ab λi v c az hc=>?_)
  have:=h i v (.v c) az (by simp [hc])
  cases this;assumption
 ·exact .agg vs cs hn ab h
section
variable {P:Program} {K:Ctx} {N:Nat} {M:Mem} {β:Nat→Option Nat} {st:aF} {g:cU} {tmps:Array Value} {w:World} {v:Value}
def jZ{k:IntKind}{n:Int}(h:ce M β v (.v (.int k n))):v = .int k n:=by
 cases h with|v u x h=>cases h;rfl
def lp{x:V}(h:ce M β v (.v x)):cT M v x:=by
 cases h with|v u x h=>exact h
def qm{b:Bool}(h:ce M β v (.v (.bool b))):v = .bool b:=by
 cases h with|v u x h=>cases h;rfl
def ku{l:ahs}(h:ce M β v (.v (.str l))):v = .string ⟨⟨l⟩⟩:=by
 cases h with|v u x h=>cases h;rfl
def mf{r off:Nat}(h:ce M β v (.ptr r off)):∃b,β r=some b∧v = .pointer (some ⟨b,off,none⟩):=by
 cases h with|ptr r off b h=>exact⟨b,h,rfl⟩
def AW{t:TypeId}{x:V}(h:ce M β v (.v (.iface t x))):∃u,v = .iface t u∧cT M u x:=by
 cases h with|v u x h=>cases h with|iface t u x h=>exact⟨u,rfl,h⟩
def VE{cs:List V}(h:ce M β v (.v (.agg cs))):∃vs:List Value,v = .agg ⟨vs⟩∧vs.length=cs.length∧(∀u,u∈vs→u.oneCell'=true)∧∀(i:Nat) u c,vs[i]? = some u→cs[i]? = some c→cT M u c:=by
 cases h with|v u x h=>cases h with|agg vs cs hn ab h=>exact⟨vs,rfl,hn,ab,h⟩
def VF{cs:List D}(h:ce M β v (.b_ cs)):∃vs:List Value,v = .tuple ⟨vs⟩∧vs.length=cs.length∧∀(i:Nat) u c,vs[i]? = some u→cs[i]? = some c→ce M β u c:=by
 cases h with|b_ vs cs hn h=>exact⟨vs,rfl,hn,h⟩
def I2{f:FuncId}{cs:List D}(h:ce M β v (.fn f cs)):∃vs:List Value,v = .func (.func f) #[] ⟨vs⟩∧vs.length=cs.length∧∀(i:Nat) u c,vs[i]? = some u→cs[i]? = some c→ce M β u c:=by
 cases h with|fn f vs cs hn h=>exact⟨vs,rfl,hn,h⟩
def ph{k n:Nat}{get:Nat→V}(h:ce M β v (.v (.bz k n get))):((v = .slice none 0 0∨∃a,v = .slice (some a) 0 0)∧n=0)∨
 ∃(b off cap:Nat) (val:Nat→Nat→Value),v = .slice (some ⟨b,off,none⟩) n cap∧n≤cap∧(∀i,i<n→(get i).cells.length=k)∧(∀i j,i<n→j<k→M b (off+i*k+j)=some (val i j))∧
  (∀i j,i<n→j<k→(val i j).oneCell'=true)∧(∀(i j:Nat) c,i<n→(get i).cells[j]? = some c→cT M (val i j) c):=by
 cases h with
 |v u x h=>
  cases h with
  |jJ=>exact .inl ⟨.inl rfl,rfl⟩
  |l' a=>exact .inl ⟨.inr ⟨a,rfl⟩,rfl⟩
  |bz b off k n cap get val hc hk cP ab h=>exact .inr ⟨b,off,cap,val,rfl,hc,hk,cP,ab,h⟩
def xd{x:V}(h:ce M β v (.eA x)):∃(b off:Nat) (val:Nat→Value),v = .pointer (some ⟨b,off,none⟩)∧(∀j,j<x.cells.length→M b (off+j)=some (val j))∧(∀j,j<x.cells.length→(val j).oneCell'=true)∧
 (∀(j:Nat) c,x.cells[j]? = some c→cT M (val j) c):=by
 cases h with|eA b off x val cP ab h=>exact⟨b,off,val,rfl,cP,ab,h⟩
def qn{k n:Nat}{get:Nat→V}(h:ce M β v (.v (.bz k n get))):∃a cap,v = .slice a n cap∧n≤cap:=by
 rcases ph h with⟨rfl|⟨a,rfl⟩,rfl⟩|⟨b,off,cap,val,rfl,hc,_⟩
 ·exact⟨_,_,rfl,Nat.le_refl _⟩
 ·exact⟨_,_,rfl,Nat.le_refl _⟩
 ·exact⟨_,_,rfl,hc⟩
def addr_add(b off n:Nat):(⟨b,off,none⟩:Addr).add n=⟨b,off+n,none⟩:=by
 unfold Addr.add;split<;>simp_all
def sj{x:V}(hx:x.isAgg=false):x.cells=[x]:=by
 cases x<;>first|rfl|simp [V.isAgg]at hx
def I3{x:V}{val:Nat→Value}(ab:∀j,j<x.cells.length→(val j).oneCell'=true)(h:∀(j:Nat) c,x.cells[j]? = some c→cT M (val j) c):
 cT M (bif x.isAgg then .agg ⟨(List.range x.cells.length).map val⟩else val 0) x:=by
 cases hx:x.isAgg with
 |false=>
  have:=sj hx
  simpa using h 0 x (by simp [this])
 |true=>
  cases x<;>simp [V.isAgg]at hx
  rename_i cs;refine .agg _ cs (by simp [V.cells]) ?_ ?_
  ·intro u hu;obtain⟨j,hj,rfl⟩:=List.mem_map.1 hu;exact ab j (by simpa using hj)
  ·intro i u c hu hc;simp only [List.getElem?_map,Option.map_eq_some_iff]at hu;obtain⟨j,hj,rfl⟩:=hu
   have:j=i:=by
    rw [List.getElem?_eq_some_iff]at hj;obtain⟨_,h⟩:=hj;simpa using h.symm
   subst this;exact h j c hc
def VG{t:TypeId}{aE:dZ}(r:Row P t aE)(w8:∀b o v,M b o=some v→w.cell? ⟨b,o,none⟩=some v){x:V}(az:ce M β v (.eA x))(hx:x.isAgg=aE.k.isAgg)(hs:x.cells.length=aE.size):
 ∃u,(Instr.loadAt t v).run P w = .ok u w∧cT M u x:=by
 obtain⟨b,off,val,rfl,cP,ab,h⟩:=xd az;refine⟨_,?_,I3 ab h⟩
 have ag:∀j,j<aE.size→w.cell? ((⟨b,off,none⟩:Addr).add j)=some (val j):=λj hj=>by rw [addr_add];exact w8 _ _ _ (cP j (by omega))
 cases ha:x.isAgg with
 |true=>
  rw [ha]at hx;simp [Instr.loadAt,Instr.sureAddr,loadVar,r.sh,←hx,r.run_sizeOf,run_loadCells w ⟨b,off,none⟩ aE.size val ag,hs]
 |false=>
  rw [ha]at hx;have h0:=cP 0 (by rw [sj ha];simp)
  have:=w8 _ _ _ h0
  simp [Instr.loadAt,Instr.sureAddr,loadVar,r.sh,←hx,run_load];simp at this
  rw [this]
def xe{t:TypeId}{aE:dZ}(r:Row P t aE){b off:Nat}{vs:List Value}{T:TypeId}{f:Nat×Nat}(bu:w.heap[b]? = some (.cells ⟨vs⟩ T f))(hle:off+aE.size≤vs.length)(ha:aE.k.isAgg=true):
 (Instr.loadAt t (.pointer (some ⟨b,off,none⟩))).run P w = .ok (.agg ⟨(vs.drop off).take aE.size⟩) w:=by
 have hlen:((vs.drop off).take aE.size).length=aE.size:=by simp;omega
 have:=run_loadCells_list (P:=P) w ⟨b,off,none⟩ ((vs.drop off).take aE.size) (λj u hj=>by
  rw [addr_add,cell_of_heap bu];rw [List.getElem?_take]at hj;split at hj
  ·simpa using hj
  ·cases hj)
 rw [hlen]at this;simp [Instr.loadAt,Instr.sureAddr,loadVar,r.sh,ha,r.run_sizeOf,this]
def AX{t:TypeId}{aE:dZ}(r:Row P t aE){b off:Nat}{u:Value}(hc:w.cell? ⟨b,off,none⟩=some u)(ha:aE.k.isAgg=false):
 (Instr.loadAt t (.pointer (some ⟨b,off,none⟩))).run P w = .ok u w:=by
 simp [Instr.loadAt,Instr.sureAddr,loadVar,r.sh,ha,run_load,hc]
def AY{t:TypeId}{aE:dZ}(r:Row P t aE){cl:List (Nat×TypeId×Nat)}(hk:aE.k = .bV cl):∃gs:Array Field,r.desc = .struct gs∧cl=gs.toList.map λf=>(f.offset,f.type,P.cellsOf f.type):=by
 have:=r.hk
 rw [hk]at this;cases hd:r.desc<;>simp [hd,jo]at this
 exact⟨_,rfl,this.symm⟩
def mU{t:TypeId}{aE:dZ}(r:Row P t aE){e:TypeId}(hk:aE.k = .bz e):r.desc = .slice e:=by
 have:=r.hk
 rw [hk]at this;cases hd:r.desc<;>simp [hd,jo]at this
 rw [this]
def nB{t:TypeId}{aE:dZ}(r:Row P t aE)(hk:aE.k = .str):r.desc = .string:=by
 have:=r.hk
 rw [hk]at this;cases hd:r.desc<;>simp [hd,jo]at this;rfl
def t_{t:TypeId}{aE:dZ}(r:Row P t aE){k:IntKind}(hk:aE.k = .int k):r.desc = .int k:=by
 have:=r.hk
 rw [hk]at this;cases hd:r.desc<;>simp [hd,jo]at this
 rw [this]
def VH{t:TypeId}{aE:dZ}(r:Row P t aE){n:Nat}{e:TypeId}(hk:aE.k = .arr n e):r.desc = .array n e:=by
 have:=r.hk
 rw [hk]at this;cases hd:r.desc<;>simp [hd,jo]at this
 rw [this.1,this.2]
def I4{s:TypeId}{aE:dZ}(r:Row P s aE){cl:List (Nat×TypeId×Nat)}(hk:aE.k = .bV cl){f cF gw fg:Nat}(b2:cl[f]? = some (cF,gw,fg))(dK:1≤fg)(b off:Nat):
 (Instr.fieldAt s (.pointer (some ⟨b,off,none⟩)) f).run P w = .ok (.pointer (some ⟨b,off+cF,none⟩)) w:=by
 obtain⟨gs,hd,rfl⟩:=AY r hk;simp only [List.getElem?_map,Option.map_eq_some_iff]at b2;obtain⟨fd,kv,he⟩:=b2;simp only [Prod.mk.injEq]at he;obtain⟨rfl,rfl,rfl⟩:=he;have xf:gs[f]? = some fd:=by simpa using kv
 have hs:(sizeOf fd.type).run P w = .ok (P.cellsOf fd.type) w:=by
  cases hi:P.info? fd.type with
  |none=>simp [Program.cellsOf,hi]at dK
  |some i=>exact Go.run_sizeOf w hi
 have dF:P.cellsOf fd.type≠0:=by omega
 simp [Instr.fieldAt,r.run_underlying,hd,xf,Instr.sureAddr,fieldPlace,hs,dF,addr_add]
def I5{s:TypeId}{aE:dZ}(r:Row P s aE){cl:List (Nat×TypeId×Nat)}(hk:aE.k = .bV cl){f cF gw fg:Nat}(b2:cl[f]? = some (cF,gw,fg)){sk:dZ}(aq:Row P gw sk)(vs:List Value)(hle:cF+fg≤vs.length):
 (sk.k.isAgg=true→(Instr.field s (.agg ⟨vs⟩) f).run P w = .ok (.agg ⟨(vs.drop cF).take fg⟩) w)∧
 (sk.k.isAgg=false→∀u,vs[cF]? = some u→(Instr.field s (.agg ⟨vs⟩) f).run P w = .ok u w):=by
 obtain⟨gs,hd,rfl⟩:=AY r hk;simp only [List.getElem?_map,Option.map_eq_some_iff]at b2;obtain⟨fd,kv,he⟩:=b2;simp only [Prod.mk.injEq]at he;obtain⟨rfl,rfl,rfl⟩:=he;have xf:gs[f]? = some fd:=by simpa using kv
 have dK:=aq.cellsOf;refine⟨λha=>?_,λha u hu=>?_⟩
 ·simp [Instr.field,r.run_underlying,hd,xf,asAgg,part,aq.sh,ha,aq.run_sizeOf,dK,List.extract_eq_take_drop]
 ·simp [Instr.field,r.run_underlying,hd,xf,asAgg,part,aq.sh,ha,hu]
def VI{t:TypeId}{aE:dZ}(r:Row P t aE){e:TypeId}(hk:aE.k = .bz e){b7:dZ}(dq:Row P e b7){k:IntKind}{j:Int}{b off n cap:Nat}(h0:0≤j)(ab:j<n):
 (Instr.indexAt t (.slice (some ⟨b,off,none⟩) n cap) (.int k j)).run P w = .ok (.pointer (some ⟨b,off+j.toNat*b7.size,none⟩)) w:=by
 simp [Instr.indexAt,asIntOf,r.run_underlying,mU r hk,h0,ab,dq.run_sizeOf,addr_add]
def VJ{t:TypeId}{aE:dZ}(r:Row P t aE)(hk:aE.k = .str){k:IntKind}{j:Int}{l:ahs}(h0:0≤j)(ab:j<l.length):
 (Instr.index t (.string ⟨⟨l⟩⟩) (.int k j)).run P w = .ok (.int .u8 (l.getD j.toNat 0).toNat) w:=by
 have cJ:j.toNat<l.length:=by omega
 have VK:j.toNat<(ByteArray.mk ⟨l⟩).size:=cJ;have hs:(ByteArray.mk ⟨l⟩)[j.toNat]? = some l[j.toNat]:=by rw [getElem?_pos (ByteArray.mk ⟨l⟩) j.toNat VK];rfl
 simp [Instr.index,asIntOf,r.run_underlying,nB r hk,h0,hs,List.getElem?_eq_getElem cJ]
def xg(l:ahs):(⟨⟨l⟩⟩:ByteArray).toList=l:=by
 rw [ByteArray.toList_eq]
end
section
variable {P:Program} {K:Ctx} {N:Nat} {M:Mem} {β:Nat→Option Nat} {g:cU} {tmps:Array Value} {w:World} {o:Oper} {f:jj} {p:Path} {tt:de} {b5:fI} {ops:List Oper}
def after(g:cU)(f:jj):aF:={env:=fT f.f8 g.env,H:=f.hs++g.H,aT:=g.aT+f.ff}
def hh(P:Program)(K:Ctx)(M:Mem)(β:Nat→Option Nat)(g:cU)(f:jj)(tmps:Array Value)(v:Value)(w':World):Prop:=
 ∃M' β',M.le M'∧(∀r b,β r=some b→β' r=some b)∧(∀r b,β' r=some b→β r=some b∨(look f.hs r).isSome=true)∧bB P K M' β' (after g f) tmps w'∧
  ∀e,f.e=some e→ce M' β' v e.d∧∀T l0,e.own=some T→kq P K M' β' (after g f) tmps w' l0 v T
def Yields(P:Program)(K:Ctx)(M:Mem)(β:Nat→Option Nat)(g:cU)(f:jj)(o:Oper)(tmps:Array Value)(w:World):Prop:=
 (∃v w',(execOp (Act.eval ⟨tmps,[]⟩) o).run P w = .ok (.value v) w'∧hh P K M β g f tmps v w')∨
 (f.e=none∧∃w',(execOp (Act.eval ⟨tmps,[]⟩) o).run P w = .ok .skip w'∧hh P K M β g f tmps undef w')∨
 (∃fn vs,(execOp (Act.eval ⟨tmps,[]⟩) o).run P w = .ok (.enter fn vs) w∧Calls P fn vs w λe w'=>∃v,e = .returned v∧hh P K M β g f tmps v w')
def eK(h:e0 P K N M β g tmps w){v:Value}{d:D}(aj:(execOp (Act.eval ⟨tmps,[]⟩) o).run P w = .ok (.value v) w)(hd:ce M β v d){rs:List eT}{a6:List Prop}:
 Yields P K M β g {e:=some {d},rs,a6} o tmps w:=
 .inl ⟨v,w,aj,M,β,Mem.le_refl _,λ_ _ h=>h,λ_ _ h=>.inl h,h.bj,λe he=>by cases he;exact⟨hd,by simp⟩⟩
def hE(x:Sem Value){v:Value}{w':World}(h:x.run P w = .ok v w'):(do pure (.value (←x)):Sem Next).run P w = .ok (.value v) w':=by
 simp [h]
def xh(h:e0 P K N M β g tmps w)(hp:fa tmps p){x:Operand}(aw:o.op = .move x∨o.op = .assign x){d:D}(hx:rd g.env g.bN p tt o.type x=some d):
 Yields P K M β g {e:=some {d},rs:=g.rs} o tmps w:=
 eK h (v:=(⟨tmps,[]⟩:Act).eval x) (by rcases aw with aw|aw<;>simp [execOp,aw]) (dz h hp hx)
def I6(h:e0 P K N M β g tmps w)(hp:fa tmps p){t:Nat}(aw:o.op = .move (.tmp t)∨o.op = .assign (.tmp t)){d:D}(hx:rd g.env g.bN p tt o.type (.tmp t)=some d)
 {s:TypeId} (hs:l_ g (.tmp t)=some s) {rs:List eT}:Yields P K M β g {e:=some {d,own:=some s},f8:=[t],rs} o tmps w:=by
 refine .inl ⟨(⟨tmps,[]⟩:Act).eval (.tmp t),w,by rcases aw with aw|aw<;>simp [execOp,aw],M,β,Mem.le_refl _,λ_ _ h=>h,λ_ _ h=>.inl h,?_,λe he=>?_⟩
 ·have:=h.bj.f8 [t];exact this
 ·cases he;refine⟨dz h hp hx,λT l0 aO=>?_⟩
  cases aO;simp only [l_,Option.bind_eq_some_iff]at hs;obtain⟨e,he,hs⟩:=hs;exact h.bj.hand he hs l0
def VL(h:e0 P K N M β g tmps w)(hp:fa tmps p)(aw:o.op = .assign (.const (.slice none 0 0))){d:D}(hx:rd g.env g.bN p tt o.type (.const (.slice none 0 0))=some d)(s:TypeId):
 Yields P K M β g {e:=some {d,own:=some s},rs:=g.rs} o tmps w:=by
 refine .inl ⟨.slice none 0 0,w,by simp [execOp,aw,Act.eval],M,β,Mem.le_refl _,λ_ _ h=>h,λ_ _ h=>.inl h,h.bj,λe he=>?_⟩
 cases he;exact⟨dz (ds:=[]) h hp hx,λT l0 _=>AQ l0 T⟩
def VM(h:e0 P K N M β g tmps w)(hp:fa tmps p){c:Nat}{a b:Operand}(aw:o.op = .pick (.tmp c) a b){pb tW qb:Bool}(hc:rd g.env g.bN p tt o.type (.tmp c)=some (.v (.bool pb)))
 (ha:rd g.env g.bN ((c,true)::p) tt o.type a=some (.v (.bool tW))) (hb:rd g.env g.bN ((c,false)::p) tt o.type b=some (.v (.bool qb))):
 Yields P K M β g {e:=some {d:=.v (.bool (bif pb then tW else qb))},rs:=g.rs} o tmps w:=by
 have ip:(⟨tmps,[]⟩:Act).eval (.tmp c) = .bool pb:=qm (dz h hp hc);have I7:tmps.getD c undef = .bool pb:=ip;cases pb with
 |true=>
  refine eK h (v:=(⟨tmps,[]⟩:Act).eval a) (by simp [execOp,aw,ip,asBool]) ?_
  exact dz h (p:=(c,true)::p) (λx hx=>by rcases List.mem_cons.1 hx with rfl|hx;exact I7;exact hp x hx) ha
 |false=>
  refine eK h (v:=(⟨tmps,[]⟩:Act).eval b) (by simp [execOp,aw,ip,asBool]) ?_
  exact dz h (p:=(c,false)::p) (λx hx=>by rcases List.mem_cons.1 hx with rfl|hx;exact I7;exact hp x hx) hb
def bB.AZ{st:aF}(h:bB P K M β st tmps w)(o:Nat):M w.heap.size o=none:=by
 cases hm:M w.heap.size o with
 |none=>rfl
 |some v=>have:=lt_of_cell (h.mem _ _ _ hm);omega
def I8(h:e0 P K N M β g tmps w){vs:List Value}{T:TypeId}{cs:List aR}(hlen:vs.length=cs.length)(fL:∀v,v∈vs→v.oneCell'=true)(hlies:jm P T vs.length cs)
 (az:∀(i:Nat) v e,vs[i]? = some v→cs[i]? = some e→ce M β v e.d∧∀T,e.own=some T→v = .slice none 0 0)
 (aj:(execOp (Act.eval ⟨tmps,[]⟩) o).run P w = .ok (.value (.pointer (some ⟨w.heap.size,0,none⟩))) {w with heap:=w.heap.push (.cells ⟨vs⟩ T (0,0))}) {id ff:Nat} (hid:ll g o=some (id,ff)):
 Yields P K M β g {e:=some {d:=.ptr id 0},hs:=[(id,cs)],ff,rs:=g.rs} o tmps w:=by
 have b2:(∀b,β id≠some b)∧id<g.aT+ff:=by
  unfold ll at hid;split at hid
  ·rename_i afx ag;rw [Bool.cond_eq_ite]at hid;split at hid<;>cases hid
   rename_i hc;simp only [Bool.and_eq_true,Option.isNone_iff_eq_none,Nat.blt_eq]at hc;rw [Option.bind_eq_some_iff]at ag;obtain⟨s,_,ag⟩:=ag;exact⟨h.fresh s _ ag hc.1,by omega⟩
  ·cases hid;exact⟨λb hb=>by have:=h.bj.lt _ b hb;simp at this,by omega⟩
 refine .inl ⟨_,_,aj,M,_,Mem.le_refl _,?_,?_,h.bj.Vq (n':=g.aT+ff) b2.1 b2.2 (by simp) (T:=T) hlen fL hlies az,λe he=>?_⟩
 ·intro r b hb;have dF:r≠id:=λe=>b2.1 b (e ▸ hb)
  simp [dF,hb]
 ·intro r b hb;by_cases dF:r=id
  ·exact .inr (by simp [dd,dF])
  ·simp [dF]at hb;exact .inl hb
 ·cases he;exact⟨.ptr _ _ _ (by simp),by simp⟩
def I9{α:Type}:∀(l:List α) (n i:Nat),(cH n l)[i]? = (l[i]?).map (n+i,·)
 |[],n,i=>by simp [cH]
 |x::l,n,0=>by simp [cH]
 |x::l,n,i+1=>by simp [cH,I9 l (n+1) i];congr 1;funext;congr 1;omega
def I'{α:Type}:∀(l:List α) (n:Nat),(cH n l).length=l.length
 |[],n=>rfl
 |x::l,n=>by simp [cH,I' l (n+1)]
def I_{x:V}{t:Option TypeId}{T:TypeId}(h:w3 x t=some T):∃k n get,x = .bz k n get:=by
 cases x<;>simp [w3]at h;exact⟨_,_,_,rfl⟩
def Ja(h2:List (Nat×TypeId))(id i:Nat)(x:V):tU h2 id i x = .v x∨(x = .dV∧∃u,tU h2 id i x = .ca id i u∧(i,u)∈h2):=by
 unfold tU;split
 ·split
  ·rename_i y b1;right
   have ab:=List.find?_some b1;have ah:=List.mem_of_find?_eq_some b1;obtain⟨j,u⟩:=y;obtain rfl:j=i:=by simpa using ab
   exact⟨rfl,u,rfl,ah⟩
  ·exact .inl rfl
 ·exact .inl rfl
def VN{t:TypeId}{id:Nat}{z:List aR}(h:w5 tt t id=some z):∃aE,look tt t=some aE∧z.length=aE.zero.length∧
 ∀(i:Nat) e,z[i]? = some e→∃x,aE.zero[i]? = some x∧(e.d = .v x∨(x = .dV∧∃u,e.d = .ca id i u∧(i,u)∈aE.h2))∧∀T,e.own=some T→∃k n get,x = .bz k n get:=by
 unfold w5 at h;split at h<;>simp at h
 ·rename_i e fg iE zero qo ag;subst h;refine⟨_,ag,by simp,λi aZ he=>?_⟩
  simp only [List.getElem?_map,Option.map_eq_some_iff]at he;obtain⟨x,hx,rfl⟩:=he;exact⟨x,hx,.inl rfl,λT aO=>I_ aO⟩
 ·rename_i cl fg iE zero qo ag;subst h;refine⟨_,ag,by simp [I'],λi aZ he=>?_⟩
  simp only [List.getElem?_map,Option.map_eq_some_iff,I9]at he;obtain⟨_,⟨x,hx,rfl⟩,rfl⟩:=he;simp only [Nat.zero_add];exact⟨x,hx,Ja qo id i x,λT aO=>I_ aO⟩
 ·rename_i k fg iE zero qo _ _ ag;subst h;refine⟨_,ag,by simp,λi aZ he=>?_⟩
  simp only [List.getElem?_map,Option.map_eq_some_iff]at he;obtain⟨x,hx,rfl⟩:=he;exact⟨x,hx,.inl rfl,by simp⟩
def VO(h:e0 P K N M β g tmps w)(b0:eJ P tt=true){t:TypeId}(aw:o.op = .alloc t){z:List aR}{id ff:Nat}(dQ:w5 tt t id=some z)(hid:ll g o=some (id,ff)):
 Yields P K M β g {e:=some {d:=.ptr id 0},hs:=[(id,z)],ff,rs:=g.rs} o tmps w:=by
 obtain⟨aE,ag,hlen,Jb⟩:=VN dQ;obtain⟨r⟩:=dR b0 ag;obtain⟨ab,ah,ay⟩:=sg (M:=M) r.t';refine I8 h (vs:=r.z.cells.toList) (T:=t) (by omega) ah (λe he q off u hd=>?_) (λi v e az he=>?_) ?_ hid
 ·obtain⟨i,hi,rfl⟩:=List.getElem_of_mem he;obtain⟨x,hx,i6,_⟩:=Jb i z[i] (List.getElem?_eq_getElem hi);rcases i6 with i6|⟨_,afy,i6,hm⟩
  ·rw [i6]at hd;cases hd
  ·rw [i6]at hd;cases hd;have:=List.all_eq_true.1 r.h2 _ hm
   have dK:=r.AV;rw [show r.z.cells.toList.length=aE.size by omega]
   exact this
 ·obtain⟨x,hx,hd,fh⟩:=Jb i e he;obtain⟨bl,bQ⟩:=ay i v x az hx
  refine⟨by
   rcases hd with hd|⟨rfl,u,hd,_⟩
   ·rw [hd];exact .v _ _ bl
   ·rw [hd];cases bl;exact .jK _ _ _,λT aO=>?_⟩
  obtain⟨k,n,get,rfl⟩:=fh T aO;unfold qj at bQ;split at bQ<;>simp_all
 ·simp [execOp,aw,Instr.alloc,r.xc,newVar,newRow]
def A0(tt:de)(aE:dZ)(id:Nat):∀(l:List D) (i j:Nat),(ny tt aE id i l)[j]? = (l[j]?).map (r8 tt aE id (i+j))
 |[],i,j=>by simp [ny]
 |d::l,i,0=>by simp [ny]
 |d::l,i,j+1=>by
  simp only [ny,List.getElem?_cons_succ];rw [A0 tt aE id l (i+1) j,show i+1+j=i+(j+1)by omega]
def A1(tt:de)(aE:dZ)(id:Nat):∀(l:List D) (i:Nat),(ny tt aE id i l).length=l.length
 |[],i=>rfl
 |d::l,i=>by simp only [ny,List.length_cons,A1 tt aE id l (i+1)]
def Jc{M:Mem}{β:Nat→Option Nat}(tt:de)(aE:dZ)(id i:Nat)(d:D)(nC:∀r o u,d ≠ .ca r o u){v:Value}(h:ce M β v d):
 ce M β v (r8 tt aE id i d).d∧(∀T,(r8 tt aE id i d).own=some T→v = .slice none 0 0)∧∀r o u,(r8 tt aE id i d).d = .ca r o u→(o,u)∈aE.h2:=by
 unfold r8;split
 ·rcases Ja aE.h2 id i .dV with ab|⟨_,u,ab,ah⟩
  ·simp only [ab];exact⟨h,(λT aO=>by cases aO),(λr o u e=>by cases e)⟩
  ·simp only [ab]
   cases h with|v u x hx=>cases hx with
    |dV=>exact⟨.jK _ _ _,(λT aO=>by cases aO),(λr o u e=>by cases e;exact ah)⟩
 ·split
  ·cases h with|v u x hx=>cases hx with
    |l8=>exact⟨.v _ _ (.jJ _ _),λ_ _=>rfl,λr o u e=>by cases e⟩
  ·exact⟨h,(λT aO=>by cases aO),(λr o u e=>by cases e)⟩
 ·exact⟨h,(λT aO=>by cases aO),λr o u e=>absurd e (nC r o u)⟩
def VP(h:e0 P K N M β g tmps w)(hp:fa tmps p){t:TypeId}{x:Operand}(aw:o.op = .box t x){d:D}(hx:rd g.env g.bN p tt o.type x=some d)(cc:nx d=false)(nC:ol (cellsD d)=true)(b0:eJ P tt=true){aE:dZ}(ag:look tt t=some aE)(dK:(cellsD d).length=aE.size){id ff:Nat}(hid:ll g o=some (id,ff)):
 Yields P K M β g {e:=some {d:=.ptr id 0},hs:=[(id,ny tt aE id 0 (cellsD d))],ff,rs:=g.rs} o tmps w:=by
 obtain⟨r⟩:=dR b0 ag;obtain⟨ab,ah,ay⟩:=(dz (ds:=[]) h hp hx).cells cc;refine I8 h (vs:=((⟨tmps,[]⟩:Act).eval x).cells.toList) (T:=t) (by rw [A1];simpa using ab) ah (λe he q off u hd=>?_) (λi v e az he=>?_) ?_ hid
 ·obtain⟨i,hi,rfl⟩:=List.getElem_of_mem he;have hg:(ny tt aE id 0 (cellsD d))[i]? = some _:=List.getElem?_eq_getElem hi;rw [A0,Option.map_eq_some_iff]at hg;obtain⟨c,hc,A2⟩:=hg;rw [←A2]at hd;have Jd:i<((⟨tmps,[]⟩:Act).eval x).cells.toList.length:=by rw [A1]at hi;omega
  have:=(Jc tt aE id (0+i) c (tZ nC c (List.mem_of_getElem? hc)) (ay i _ c (List.getElem?_eq_getElem Jd) hc)).2.2 q off u hd
  have hb:=List.all_eq_true.1 r.h2 _ this;rw [ab,dK];exact hb
 ·rw [A0,Option.map_eq_some_iff]at he;obtain⟨c,hc,rfl⟩:=he;obtain⟨g1,g2,_⟩:=Jc tt aE id (0+i) c (tZ nC c (List.mem_of_getElem? hc)) (ay i v c az hc);exact⟨g1,g2⟩
 ·simp [execOp,aw,Instr.box,newVar,newRow]
end
def lq{α:Type}:∀(cs:List α) (off:Nat) (xs:List α),off+xs.length≤cs.length→(setAt cs off xs).length=cs.length∧∀(i:Nat),(setAt cs off xs)[i]? = if off≤i∧i<off+xs.length then xs[i-off]? else cs[i]?
 |[],0,[],_=>by simp [setAt]
 |[],0,x::xs,h=>by simp at h
 |[],n+1,xs,h=>by simp at h
 |c::cs,0,[],_=>by
  refine⟨by simp [setAt],λi=>?_⟩
  simp only [setAt,List.length_nil];rw [if_neg (by omega)]
 |c::cs,0,x::xs,h=>by
  obtain⟨ab,ah⟩:=lq cs 0 xs (by simp at h ⊢;omega)
  refine⟨by simp [setAt,ab],λi=>?_⟩
  cases i with
  |zero=>simp [setAt]
  |succ i=>
   simp only [setAt,List.getElem?_cons_succ,ah i,Nat.zero_add,List.length_cons];by_cases hi:i<xs.length<;>simp [hi]
 |c::cs,n+1,xs,h=>by
  obtain⟨ab,ah⟩:=lq cs n xs (by simp at h ⊢;omega)
  refine⟨by simp [setAt,ab],λi=>?_⟩
  cases i with
  |zero=>simp [setAt]
  |succ i=>
   simp only [setAt,List.getElem?_cons_succ,ah i];by_cases hi:n≤i∧i<n+xs.length
   ·rw [if_pos hi,if_pos (by omega)];congr 1;omega
   ·rw [if_neg hi,if_neg (by omega)]
def A3(off:Nat):∀(l:List Value) (k:Nat) (cs:Array Value),off+k+l.length≤cs.size→
 ((l.zipIdx k).foldl (λcs (x:Value×Nat)=>cs.setIfInBounds (off+x.2) x.1) cs).size=cs.size∧
 ∀(i:Nat),((l.zipIdx k).foldl (λcs (x:Value×Nat)=>cs.setIfInBounds (off+x.2) x.1) cs)[i]? = if off+k≤i∧i<off+k+l.length then l[i-(off+k)]? else cs[i]?
 |[],k,cs,h=>by
  refine⟨rfl,λi=>?_⟩
  simp only [List.zipIdx_nil,List.foldl_nil,List.length_nil];rw [if_neg (by omega)]
 |x::l,k,cs,h=>by
  obtain⟨ab,ah⟩:=A3 off l (k+1) (cs.setIfInBounds (off+k) x) (by simp at h ⊢;omega)
  simp only [List.zipIdx_cons,List.foldl_cons];refine⟨by simpa using ab,λi=>?_⟩
  rw [ah i];simp only [List.length_cons]at h ⊢;by_cases ay:off+(k+1)≤i∧i<off+(k+1)+l.length
  ·rw [if_pos ay,if_pos (by omega)]
   obtain⟨j,rfl⟩:∃j,i=off+k+1+j:=⟨i-(off+k+1),by omega⟩
   rw [show off+k+1+j-(off+(k+1))=j by omega,show off+k+1+j-(off+k)=j+1 by omega]
   simp
  ·rw [if_neg ay];by_cases bl:i=off+k
   ·subst bl;rw [if_pos (by omega)]
    have:off+k<cs.size:=by omega
    simp [this]
   ·rw [if_neg (by omega)]
    rw [Array.getElem?_setIfInBounds_ne (Ne.symm bl)]
section
variable {P:Program} {K:Ctx} {N:Nat} {M:Mem} {β:Nat→Option Nat} {g:cU} {tmps:Array Value} {w:World} {o:Oper} {f:jj} {p:Path} {tt:de} {b5:fI} {ops:List Oper}
structure Cells(M:Mem)(β:Nat→Option Nat)(vs:List Value)(cs:List D):Prop where
 len:vs.length=cs.length
 one:∀v,v∈vs→v.oneCell'=true
 rep:∀(i:Nat) v c,vs[i]? = some v→cs[i]? = some c→ce M β v c
def xi{vs:List Value}(h:∀v,v∈vs→v.oneCell'=true){i:Nat}{v:Value}(hi:vs[i]? = some v):v.oneCell'=true:=h v (List.mem_of_getElem? hi)
def Je{vs:List Value}(h:∀(i:Nat) v,vs[i]? = some v→v.oneCell'=true):∀v,v∈vs→v.oneCell'=true:=λv az=>by
 obtain⟨i,hi⟩:=List.getElem?_of_mem az;exact h i v hi
def Cells.set{vs:List Value}{cs:List D}(h:Cells M β vs cs){ws:List Value}{ds:List D}(c8:Cells M β ws ds){off:Nat}(hle:off+ds.length≤cs.length){vs':List Value}(hlen:vs'.length=vs.length)
 (hl:∀(i:Nat),vs'[i]? = if off≤i∧i<off+ws.length then ws[i-off]? else vs[i]?):Cells M β vs' (setAt cs off ds):=by
 obtain⟨ab,ah⟩:=lq cs off ds hle;refine⟨by rw [hlen,ab,h.len],Je λi v az=>?_,λi v c az hc=>?_⟩
 ·rw [hl i]at az;split at az
  ·exact xi c8.one az
  ·exact xi h.one az
 ·rw [hl i]at az;rw [ah i]at hc;by_cases hi:off≤i∧i<off+ds.length
  ·rw [if_pos hi]at hc;rw [if_pos (by rw [c8.len];exact hi)]at az
   exact c8.rep _ v c az hc
  ·rw [if_neg hi]at hc;rw [if_neg (by rw [c8.len];exact hi)]at az
   exact h.rep _ v c az hc
def A4{place:Nat→Option (Nat×Nat)}:∀{cp:List (Nat×D)} {vs:List (Nat×Value)} {cs cs':List D} {cells:Array Value},vs.length=cp.length→
 (∀(i:Nat) a b,cp[i]? = some a→vs[i]? = some b→a.1=b.1∧ce M β b.2 a.2)→Cells M β cells.toList cs→om place cs cp=some cs'→
 ∃h7,Instr.fill place cells vs=some h7∧Cells M β h7.toList cs'
 |[],[],cs,cs',cells,_,_,hc,h=>by simp [om]at h;subst h;exact⟨cells,rfl,hc⟩
 |[],_::_,_,_,_,h,_,_,_=>by simp at h
 |_::_,[],_,_,_,h,_,_,_=>by simp at h
 |(i,d)::cp,(j,v)::vs,cs,cs',cells,hn,aj,hc,h=>by
  obtain⟨Jf,hd⟩:=aj 0 (i,d) (j,v) (by simp) (by simp)
  simp only at Jf hd
  subst Jf;simp only [om]at h;split at h
  ·cases h
  ·rename_i off size i7;rw [Bool.cond_eq_ite]at h;split at h
   case isFalse=>cases h
   rename_i hb;simp only [Bool.and_eq_true,Nat.beq_eq,Nat.ble_eq,Bool.not_eq_true']at hb;obtain⟨⟨cI,fj⟩,A5⟩:=hb;obtain⟨ab,ah,ay⟩:=hd.cells A5;have dK:cells.size=cs.length:=by simpa using hc.len
   have dE:v.cells.size=size:=by simpa [cI]using ab
   have b2:=A3 off v.cells.toList 0 cells (by simp [dE];omega)
   have A6:v.cells.zipIdx.foldl (λcs (x:Value×Nat)=>cs.setIfInBounds (off+x.2) x.1) cells=(v.cells.toList.zipIdx 0).foldl (λcs (x:Value×Nat)=>cs.setIfInBounds (off+x.2) x.1) cells:=by
    rw [←Array.foldl_toList,Array.toList_zipIdx]
   have ip:Cells M β (v.cells.zipIdx.foldl (λcs (x:Value×Nat)=>cs.setIfInBounds (off+x.2) x.1) cells).toList (setAt cs off (cellsD d)):=by
    rw [A6];refine hc.set ⟨ab,ah,ay⟩ (by omega) (by simpa using b2.1) (λk=>?_)
    have:=b2.2 k
    simp only [Nat.add_zero]at this;rw [Array.getElem?_toList,this];simp only [Array.getElem?_toList]
   obtain⟨h7,ua,mV⟩:=A4 (place:=place) (by simpa using hn) (λk a b ha hb=>aj (k+1) a b (by simpa using ha) (by simpa using hb)) ip h
   refine⟨h7,?_,mV⟩
   simp only [Instr.fill,i7];rw [if_neg (by simp;omega)]
   exact ua
def pi{α dj:Type}{f:α→Option dj}:∀{l:List α} {cr:List dj},mapM' f l=some cr→cr.length=l.length∧∀(i:Nat) a b,l[i]? = some a→cr[i]? = some b→f a=some b
 |[],cr,h=>by simp [mapM']at h;subst h;simp
 |x::l,cr,h=>by
  simp only [mapM']at h;split at h<;>simp at h
  rename_i y ys b1 VQ;subst h;obtain⟨ab,ah⟩:=pi VQ;refine⟨by simp [ab],λi a b ha hb=>?_⟩
  cases i with
  |zero=>simp at ha hb;subst ha;subst hb;exact b1
  |succ i=>simp at ha hb;exact ah i a b ha hb
def Row.Jg{t:TypeId}{aE:dZ}(r:Row P t aE):Cells M β r.z.cells.toList (aE.zero.map .v):=by
 obtain⟨ab,ah,ay⟩:=sg (M:=M) r.t';refine⟨by simpa using ab,ah,λi v c az hc=>?_⟩
 simp only [List.getElem?_map,Option.map_eq_some_iff]at hc;obtain⟨x,hx,rfl⟩:=hc;exact .v _ _ (ay i v x az hx).1
def VR{M:Mem}{v:Value}{x:V}(h:qj v x=true):cT M v (AG x):=by
 have h0:=(AU (M:=M) h).1;unfold qj at h;split at h<;>first|exact h0|skip
 ·rename_i k n g;have:n=0:=by simpa using h
  subst this;exact .l8 _ _
 ·cases h
def Row.VS{t:TypeId}{aE:dZ}(r:Row P t aE):Cells M β r.z.cells.toList (aE.zero.map λx=>.v (AG x)):=by
 obtain⟨ab,ah,ay⟩:=sg (M:=M) r.t';refine⟨by simpa using ab,ah,λi v c az hc=>?_⟩
 simp only [List.getElem?_map,Option.map_eq_some_iff]at hc;obtain⟨x,hx,rfl⟩:=hc;exact .v _ _ (VR (ay i v x az hx).2)
def A7(h:e0 P K N M β g tmps w)(hp:fa tmps p){ty:Nat→TypeId}{parts:Array (Nat×Operand)}{cp:List (Nat×D)}(j':mapM' (fun(x:Nat×Operand)=>(rd g.env g.bN p tt (ty x.1) x.2).map λd=>(x.1,d)) parts.toList=some cp):
 ((parts.map fun(x:Nat×Operand)=>(x.1,(⟨tmps,[]⟩:Act).eval x.2)).toList).length=cp.length∧
 ∀(i:Nat) a b,cp[i]? = some a→(parts.map fun(x:Nat×Operand)=>(x.1,(⟨tmps,[]⟩:Act).eval x.2)).toList[i]? = some b→a.1=b.1∧ce M β b.2 a.2:=by
 obtain⟨ab,ah⟩:=pi j';refine⟨by simpa using ab.symm,λi a b ha hb=>?_⟩
 simp only [Array.toList_map,List.getElem?_map,Option.map_eq_some_iff]at hb;obtain⟨x,hx,rfl⟩:=hb;have:=ah i x a hx ha
 simp only [Option.map_eq_some_iff]at this;obtain⟨d,hd,rfl⟩:=this;exact⟨rfl,dz h hp hd⟩
def run_places{cl:Array Field}{l:List (Nat×TypeId×Nat)}(ag:l=cl.toList.map λf=>(f.offset,f.type,P.cellsOf f.type))(hs:∀f,f∈cl.toList→1≤P.cellsOf f.type):
 (cl.mapM λf=>(do pure (f.offset,←sizeOf f.type):Sem (Nat×Nat))).run P w = .ok (cl.map λf=>(f.offset,P.cellsOf f.type)) w:=by
 obtain⟨sl⟩:=cl;rw [List.mapM_toArray]
 have key:∀(l:List Field),(∀f,f∈l→1≤P.cellsOf f.type)→(l.mapM λf=>(do pure (f.offset,←sizeOf f.type):Sem (Nat×Nat))).run P w = .ok (l.map λf=>(f.offset,P.cellsOf f.type)) w:=by
  intro l;induction l with
  |nil=>intro _;rfl
  |cons f l bD=>
   intro b2;have h0:=b2 f (by simp)
   have ab:(sizeOf f.type).run P w = .ok (P.cellsOf f.type) w:=by
    cases hi:P.info? f.type with
    |none=>simp [Program.cellsOf,hi]at h0
    |some i=>exact Go.run_sizeOf w hi
   simp only [List.mapM_cons,Sem.run_bind,ab,Result.andThen_ok,Sem.run_pure,bD (λf h=>b2 f (by simp [h])),List.map_cons]
 simp only [Sem.run_map,key sl (by simpa using hs),Result.andThen_ok]
 simp
def Jh(h:e0 P K N M β g tmps w)(hp:fa tmps p)(b0:eJ P tt=true){t:TypeId}{aE:dZ}(ag:look tt t=some aE){cl:List (Nat×TypeId×Nat)}(hk:aE.k = .bV cl)(qp:cl.all (λf=>Nat.ble 1 f.2.2)=true)
 {parts:Array (Nat×Operand)} (aw:o.op = .build t parts) {cp:List (Nat×D)} (j':mapM' (fun(x:Nat×Operand)=>(rd g.env g.bN p tt (oo tt t x.1) x.2).map λd=>(x.1,d)) parts.toList=some cp)
 {zs:List D} (qq:∀(r:Row P t aE),Cells M β r.z.cells.toList zs) {cs:List D} (b2:om (fun(i:Nat)=>(cl[i]?).map fun(f:Nat×TypeId×Nat)=>(f.1,f.2.2)) zs cp=some cs) {rs:List eT}:
 Yields P K M β g {e:=some {d:=ko cs},rs} o tmps w:=by
 obtain⟨r⟩:=dR b0 ag;obtain⟨gs,hd,A8⟩:=AY r hk;obtain⟨ab,ah⟩:=A7 h hp j';obtain⟨cells,ua,hc⟩:=A4 ab ah (qq r) b2
 have xj:∀f,f∈gs.toList→1≤P.cellsOf f.type:=by
  intro fd kv;rw [List.all_eq_true]at qp;have:=qp (fd.offset,fd.type,P.cellsOf fd.type) (by rw [A8];exact List.mem_map.2 ⟨fd,kv,rfl⟩)
  simpa using this
 have i7:(fun(i:Nat)=>(gs.map λf=>(f.offset,P.cellsOf f.type))[i]?)=fun(i:Nat)=>(cl[i]?).map fun(f:Nat×TypeId×Nat)=>(f.1,f.2.2):=by
  funext i
  rw [A8];cases hi:gs[i]? <;> simp [hi]
 refine eK h (v:=.agg cells) ?_ ?_
 ·simp only [execOp,aw];refine hE _ ?_;have VT:=run_places (P:=P) (w:=w) A8 xj;simp only [Instr.build,Sem.run_bind,r.xc,Result.andThen_ok,r.run_underlying,hd,VT,i7];have:Instr.fill (fun(i:Nat)=>(cl[i]?).map fun(f:Nat×TypeId×Nat)=>(f.1,f.2.2)) r.z.cells (parts.map fun(x:Nat×Operand)=>(x.1,(⟨tmps,[]⟩:Act).eval x.2)).toList=some cells:=ua
  rw [this];rfl
 ·have:=si hc.len hc.one hc.rep
  simpa using this
def VU(h:e0 P K N M β g tmps w)(hp:fa tmps p)(b0:eJ P tt=true){t:TypeId}{aE:dZ}(ag:look tt t=some aE){n:Nat}{e:TypeId}(hk:aE.k = .arr n e){b7:dZ}(eI:look tt e=some b7)
 {parts:Array (Nat×Operand)} (aw:o.op = .build t parts) {cp:List (Nat×D)} (j':mapM' (fun(x:Nat×Operand)=>(rd g.env g.bN p tt (oo tt t x.1) x.2).map λd=>(x.1,d)) parts.toList=some cp)
 {cs:List D} (b2:om (λi=>some (i*b7.size,b7.size)) (aE.zero.map .v) cp=some cs):
 Yields P K M β g {e:=some {d:=ko cs},rs:=g.rs} o tmps w:=by
 obtain⟨r⟩:=dR b0 ag;obtain⟨aq⟩:=dR b0 eI;obtain⟨ab,ah⟩:=A7 h hp j';obtain⟨cells,ua,hc⟩:=A4 ab ah (r.Jg (β:=β)) b2;refine eK h (v:=.agg cells) ?_ ?_
 ·simp only [execOp,aw];refine hE _ ?_;simp only [Instr.build,Sem.run_bind,r.xc,Result.andThen_ok,r.run_underlying,VH r hk,aq.run_sizeOf];have:Instr.fill (λi=>some (i*b7.size,b7.size)) r.z.cells (parts.map fun(x:Nat×Operand)=>(x.1,(⟨tmps,[]⟩:Act).eval x.2)).toList=some cells:=ua
  rw [this];rfl
 ·have:=si hc.len hc.one hc.rep
  simpa using this
end
section
variable {P:Program} {K:Ctx} {N:Nat} {M:Mem} {β:Nat→Option Nat} {g:cU} {tmps:Array Value} {w:World} {o:Oper} {f:jj} {p:Path} {tt:de} {b5:fI} {ops:List Oper}
def hF(M:Mem)(b:Nat)(lo:Nat)(vs:List Value):Mem:=λbF o=>if bF=b∧lo≤o∧o<lo+vs.length then vs[o-lo]? else M bF o
def A9{b lo:Nat}{vs:List Value}(h:∀o,lo≤o→M b o=none):M.le (hF M b lo vs):=by
 intro bF o v az;unfold hF;split
 ·rename_i hc;obtain⟨rfl,ab,ah⟩:=hc;rw [h o ab]at az;cases az
 ·exact az
def xk{b lo:Nat}{vs:List Value}{i:Nat}{v:Value}(h:vs[i]? = some v):hF M b lo vs b (lo+i)=some v:=by
 have hi:i<vs.length:=(List.getElem?_eq_some_iff.1 h).1;unfold hF;rw [if_pos ⟨rfl,by omega,by omega⟩,show lo+i-lo=i by omega,h]
def VV{k:Nat}{n:Nat}{cells:List Value}(ag:cells.length=n*k){i j:Nat}(hi:i<n)(hj:j<k):cells[i*k+j]? = some (cells.getD (i*k+j) undef):=by
 have:i*k+j<cells.length:=by
  have ab:(i+1)*k≤n*k:=Nat.mul_le_mul_right k hi;rw [Nat.add_mul]at ab;omega
 simp [List.getD,List.getElem?_eq_getElem this]
def bB.newRow{st:aF}(h:bB P K M β st tmps w){vs:List Value}{T:TypeId}{n:Nat}{w':World}(hw:w'.heap=w.heap.push (.cells ⟨vs⟩ T (0,0)))(md:(w'.os,w'.output)=(w.os,w.output):=by rfl):
 bB P K (hF M w.heap.size 0 (vs.take n)) β st tmps w'∧M.le (hF M w.heap.size 0 (vs.take n)):=by
 have cP:M.le (hF M w.heap.size 0 (vs.take n)):=A9 λo _=>h.AZ o
 refine⟨h.free w.heap.size ?_ ?_ ?_ ?_ cP ?_ ?_ md,cP⟩
 ·cases dg:K.F w.heap.size with
  |none=>rfl
  |some a6=>have:=lt_of_heap (h.frame _ a6 dg).1;omega
 ·intro r cs aj hb;have:=h.t6 aj hb;omega
 ·intro l e T ag aO hb;have:=(h.own l e T ag aO).lt hb;omega
 ·intro bF _ bH;rw [hw];simp [Array.getElem?_push,Nat.ne_of_lt bH]
 ·intro bF o bH;simp [hF,bH]
 ·intro o v az;unfold hF at az;split at az
  ·rename_i hc;simp only [Nat.sub_zero]at az;rw [List.getElem?_take]at az;split at az
   ·have:w'.heap[w.heap.size]? = some (.cells ⟨vs⟩ T (0,0)):=by rw [hw];simp
    rw [cell_of_heap this,az]
   ·cases az
  ·rw [h.AZ o]at az;cases az
def A'{st:aF}(h:bB P K M β st tmps w){l0:Loc}{T:TypeId}{vs:List Value}{T':TypeId}(A_:T'=T){n cap:Nat}{w':World}(hw:w'.heap=w.heap.push (.cells ⟨vs⟩ T' (0,0)))(hn:n≤cap)
 (hcap:cap*P.cellsOf T≤vs.length):kq P K (hF M w.heap.size 0 (vs.take (n*P.cellsOf T))) β st tmps w' l0 (.slice (some ⟨w.heap.size,0,none⟩) n cap) T:=by
 have nD:w'.heap[w.heap.size]? = some (.cells ⟨vs⟩ T' (0,0)):=by rw [hw];simp
 refine⟨.inr ⟨w.heap.size,n,cap,vs,T',rfl,hn,nD,hcap,λo aw=>?_,?_,A_⟩,?_,?_⟩
 ·have hle:n*P.cellsOf T≤vs.length:=Nat.le_trans (Nat.mul_le_mul_right _ hn) hcap;unfold hF;rw [if_neg,h.AZ o]
  rintro ⟨_,_,ay⟩
  simp only [List.length_take]at ay;omega
 ·cases dg:K.F w.heap.size with
  |none=>rfl
  |some a6=>have:=lt_of_heap (h.frame _ a6 dg).1;omega
 ·intro l e mT b ag aO _ hb bH;simp [hA,il]at hb;subst hb
  have hold:bZ tmps w' β l=bZ tmps w β l:=by
   cases l with
   |slot s=>rfl
   |cell r i=>
    simp only [aF.at]at ag;cases aj:look st.H r with
    |none=>simp [aj]at ag
    |some cs=>
     obtain⟨cb,kN,fY,cI,bu,_⟩:=h.box r cs aj;simp only [bZ,cI];rw [ov (w:=w) (by rw [hw];simp [Array.getElem?_push,Nat.ne_of_lt (lt_of_heap bu)])]
  rw [hold]at bH;have:=(h.own l e mT ag aO).lt bH
  omega
 ·intro b r cs hb aj bH;simp [hA,il]at hb;subst hb;have:=h.t6 aj bH
  omega
def Ji{size:Nat}:∀(l:List (Nat×Value)) (m:Nat) (cells:Array Value),(∀(i:Nat) x,l[i]? = some x→x.1=m+i∧x.2.cells.size=size)→(m+l.length)*size≤cells.size→
 ∃h7,Instr.fill (λi=>some (i*size,size)) cells l=some h7∧h7.size=cells.size∧(∀i,i<m*size→h7[i]? = cells[i]?)∧
  ∀(i:Nat) x (j:Nat) u,l[i]? = some x→x.2.cells[j]? = some u→h7[(m+i)*size+j]? = some u
 |[],m,cells,_,_=>⟨cells,rfl,rfl,λ_ _=>rfl,by simp⟩
 |(a,v)::l,m,cells,ag,hle=>by
  obtain⟨ha,dK⟩:=ag 0 (a,v) (by simp)
  simp only [Nat.add_zero]at ha;simp only at dK
  subst ha
  have afz:a*size+size≤cells.size:=by
   have ab:(a+1)*size≤(a+((a,v)::l).length)*size:=Nat.mul_le_mul_right _ (by simp)
   rw [Nat.add_mul,Nat.one_mul]at ab;omega
  have b2:=A3 (a*size) v.cells.toList 0 cells (by simp [dK];omega)
  have A6:v.cells.zipIdx.foldl (λcs (x:Value×Nat)=>cs.setIfInBounds (a*size+x.2) x.1) cells=(v.cells.toList.zipIdx 0).foldl (λcs (x:Value×Nat)=>cs.setIfInBounds (a*size+x.2) x.1) cells:=by
   rw [←Array.foldl_toList,Array.toList_zipIdx]
  rw [←A6]at b2;generalize ir:v.cells.zipIdx.foldl (λcs (x:Value×Nat)=>cs.setIfInBounds (a*size+x.2) x.1) cells=c1 at b2
  obtain⟨h7,ab,ah,ay,bl⟩:=Ji l (a+1) c1 (λi x hx=>by
   obtain⟨ab,ah⟩:=ag (i+1) x (by simpa using hx)
   exact⟨by omega,ah⟩) (by rw [b2.1];simpa [Nat.add_assoc,Nat.add_comm 1]using hle)
  refine⟨h7,?_,by rw [ah,b2.1],λi hi=>?_,λi x j u hx hu=>?_⟩
  ·simp only [Instr.fill];rw [if_neg (by simp [dK];omega)]
   have:v.cells.zipIdx.foldl (λcs (c,j)=>cs.setIfInBounds (a*size+j) c) cells=c1:=ir
   rw [this];exact ab
  ·rw [ay i (by rw [Nat.add_mul];omega),b2.2 i,if_neg (by omega)]
  ·cases i with
   |zero=>
    simp at hx;subst hx
    simp only at hu
    have hj:j<size:=by rw [←dK];exact(Array.getElem?_eq_some_iff.1 hu).1
    rw [Nat.add_zero,ay _ (by rw [Nat.add_mul,Nat.one_mul];omega),b2.2,if_pos (by simp [dK];omega)]
    simpa using hu
   |succ i=>
    have:=bl i x j u (by simpa using hx) hu
    rw [show a+(i+1)=a+1+i by omega];exact this
def Jj{Jk:Bool}{size:Nat}:∀{cp:List (Nat×D)} {n:Nat} {xs:List V},elems Jk size n cp=some xs→xs.length=cp.length∧
 ∀(i:Nat) y x,cp[i]? = some y→xs[i]? = some x→y=(n+i,.v x)∧x.cells.length=size∧x.isAgg=Jk
 |[],n,xs,h=>by simp [elems]at h;subst h;simp
 |(j,d)::cp,n,xs,h=>by
  cases d<;>simp only [elems]at h<;>try cases h
  rename_i mg;rw [Bool.cond_eq_ite]at h;split at h
  case isFalse=>cases h
  rename_i hb;simp only [Bool.and_eq_true,Nat.beq_eq,beq_iff_eq]at hb;obtain⟨⟨cI,fj⟩,A5⟩:=hb;simp only [Option.map_eq_some_iff]at h;obtain⟨ys,b1,rfl⟩:=h;obtain⟨ab,ah⟩:=Jj b1;refine⟨by simp [ab],λi y x hi hx=>?_⟩
  cases i with
  |zero=>simp at hi hx;subst hi;subst hx;exact⟨by simp [cI],fj,A5⟩
  |succ i=>
   simp at hi hx
   obtain⟨ay,bl⟩:=ah i y x hi hx;exact⟨by rw [ay];simp;omega,bl⟩
def VW(h:e0 P K N M β g tmps w)(hp:fa tmps p)(b0:eJ P tt=true){t e:TypeId}{aE b7:dZ}(ag:look tt t=some aE)(hk:aE.k = .bz e)(eI:look tt e=some b7){len:Nat}
 {parts:Array (Nat×Operand)} (aw:o.op = .buildSlice t len parts) {cp:List (Nat×D)} (j':mapM' (fun(x:Nat×Operand)=>(rd g.env g.bN p tt (oo tt t x.1) x.2).map λd=>(x.1,d)) parts.toList=some cp)
 {xs:List V} (hx:elems b7.k.isAgg b7.size 0 cp=some xs) (hlen:xs.length=len) (_hs:1≤b7.size) (hb:len*b7.size≤16777216) {x:V} (az:f6 (.bz b7.size len λi=>xs.getD i .dV) x) {rs:List eT} {a6:List Prop}:
 Yields P K M β g {e:=some {d:=.v x,own:=some e},rs,a6} o tmps w:=by
 obtain⟨r⟩:=dR b0 ag;obtain⟨dq⟩:=dR b0 eI;obtain⟨ab,ah⟩:=A7 h hp j';obtain⟨afA,Ba⟩:=Jj hx;generalize VX:(parts.map fun(x:Nat×Operand)=>(x.1,(⟨tmps,[]⟩:Act).eval x.2))=pa at ab ah
 generalize kP:pa.toList=vs at ab ah
 have i7:vs.length=len:=by omega
 have gH:∀(i:Nat) b,vs[i]? = some b→∃x,xs[i]? = some x∧b.1=i∧cT M b.2 x∧x.cells.length=b7.size:=by
  intro i b hi;have AO:i<vs.length:=(List.getElem?_eq_some_iff.1 hi).1;have ha:cp[i]? = some cp[i]:=List.getElem?_eq_getElem (by omega)
  have kQ:xs[i]? = some xs[i]:=List.getElem?_eq_getElem (by omega)
  obtain⟨ay,bl,_⟩:=Ba i _ _ ha kQ;obtain⟨bQ,df⟩:=ah i _ b ha hi;rw [ay]at bQ df;exact⟨_,kQ,by simpa using bQ.symm,lp df,bl⟩
 have mV:∀(i:Nat) b,vs[i]? = some b→∃x,xs[i]? = some x∧b.1=i∧b.2.cells.size=b7.size∧(∀u,u∈b.2.cells.toList→u.oneCell'=true)∧∀(j:Nat) u c,b.2.cells.toList[j]? = some u→x.cells[j]? = some c→cT M u c:=by
  intro i b hi;obtain⟨x,ay,bl,bQ,df⟩:=gH i b hi;obtain⟨fK,hR,sm⟩:=(ce.v (β:=β) _ _ bQ).cells rfl;refine⟨x,ay,bl,by simp [cellsD]at fK;omega,hR,λj u c hu hc=>?_⟩
  exact lp (sm j u (.v c) hu (by simp [cellsD,hc]))
 obtain⟨h7,pj,qr,afB,VY⟩:=Ji (size:=b7.size) vs 0 ((Array.range (len*b7.size)).map λi=>dq.z.cells[i % dq.z.cells.size]!) (λi x hi=>by
  obtain⟨y,ay,bl,bQ,_⟩:=mV i x hi;exact⟨by omega,bQ⟩) (by simp [i7])
 have dK:h7.size=len*b7.size:=by rw [qr];simp
 have hl:∀i j,i<len→j<b7.size→∃b u,vs[i]? = some b∧b.2.cells.toList[j]? = some u∧h7.toList[i*b7.size+j]? = some u:=by
  intro i j hi hj;have d9:vs[i]? = some vs[i]:=List.getElem?_eq_getElem (by omega)
  obtain⟨y,ay,bl,bQ,_⟩:=mV i _ d9;have hu:vs[i].2.cells[j]? = some vs[i].2.cells[j]:=Array.getElem?_eq_getElem (by omega)
  refine⟨vs[i],vs[i].2.cells[j],d9,(Array.getElem?_toList ..).trans hu,?_⟩
  have:=VY i _ j _ d9 hu
  simpa using this
 have ec:(execOp (Act.eval ⟨tmps,[]⟩) o).run P w = .ok (.value (.slice (some ⟨w.heap.size,0,none⟩) len len)) {w with heap:=w.heap.push (.cells ⟨h7.toList⟩ e (0,0))}:=by
  simp only [execOp,aw];refine hE _ ?_;have bH:¬ (16777216<len*b7.size):=by omega
  have VZ:(parts.map fun(x:Nat×Operand)=>match x with|(i,x)=>(i,(⟨tmps,[]⟩:Act).eval x))=pa:=VX
  rw [VZ];simp only [Instr.buildSlice,Sem.run_bind,r.run_underlying,mU r hk,Result.andThen_ok,dq.run_sizeOf];by_cases h0:len*b7.size=0
  ·have bI:∀f:Nat→Value,(Array.range (len*b7.size)).map f = #[]:=by intro f;rw [h0];simp
   rw [bI]at pj;have e1:∀f:Nat→Value,(Array.range 0).map f = #[]:=by intro f;simp
   simp [h0,kP,e1,pj,newRow]
  ·simp [h0,bH,dq.xc,kP,pj,newRow]
 obtain⟨cD,hle⟩:=h.bj.newRow (w':={w with heap:=w.heap.push (.cells ⟨h7.toList⟩ e (0,0))}) (T:=e) (vs:=h7.toList) (n:=len*b7.size) rfl;have ub:h7.toList.take (len*b7.size)=h7.toList:=List.take_of_length_le (by simp [dK])
 refine .inl ⟨_,_,ec,_,β,hle,λ_ _ h=>h,λ_ _ h=>.inl h,cD,λe1 he=>?_⟩
 cases he;refine⟨.v _ _ (az _ _ (.bz _ 0 b7.size len len _ (λi j=>h7.toList.getD (i*b7.size+j) undef) (Nat.le_refl _) ?_ ?_ ?_ ?_)),λT l0 aO=>?_⟩
 ·intro i hi;have kQ:xs[i]? = some xs[i]:=List.getElem?_eq_getElem (by omega)
  have ha:cp[i]? = some cp[i]:=List.getElem?_eq_getElem (by omega)
  simp only [List.getD,kQ,Option.getD_some];exact(Ba i _ _ ha kQ).2.1
 ·intro i j hi hj;obtain⟨b,u,_,_,hu⟩:=hl i j hi hj;rw [ub,Nat.zero_add];have:=xk (M:=M) (b:=w.heap.size) (lo:=0) hu
  simpa [List.getD,hu]using this
 ·intro i j hi hj;obtain⟨b,u,cI,Bb,hu⟩:=hl i j hi hj;obtain⟨y,_,_,_,df,_⟩:=mV i b cI;simp only [List.getD,hu,Option.getD_some];exact xi df Bb
 ·intro i j c hi hc;have kQ:xs[i]? = some xs[i]:=List.getElem?_eq_getElem (by omega)
  simp only [List.getD,kQ,Option.getD_some]at hc
  have hj:j<b7.size:=by
   have ha:cp[i]? = some cp[i]:=List.getElem?_eq_getElem (by omega)
   rw [←(Ba i _ _ ha kQ).2.1];exact(List.getElem?_eq_some_iff.1 hc).1
  obtain⟨b,u,cI,Bb,hu⟩:=hl i j hi hj;obtain⟨y,b1,_,_,_,fK⟩:=mV i b cI;rw [kQ]at b1;cases b1;simp only [List.getD,hu,Option.getD_some];exact(fK j u c Bb hc).mono hle
 ·cases aO;have:=A' (l0:=l0) (T:=e) h.bj (vs:=h7.toList) (T':=e) (n:=len) (cap:=len) (w':={w with heap:=w.heap.push (.cells ⟨h7.toList⟩ e (0,0))}) rfl rfl (Nat.le_refl _) (by rw [dq.cellsOf];simp [dK])
  rw [dq.cellsOf]at this;exact this
end
section
variable {P:Program} {K:Ctx} {N:Nat} {M:Mem} {β:Nat→Option Nat} {g:cU} {tmps:Array Value} {w:World} {o:Oper} {f:jj} {p:Path} {tt:de} {b5:fI} {ops:List Oper}
def V0(h:e0 P K N M β g tmps w)(hp:fa tmps p)(b0:eJ P tt=true){t:TypeId}{aE:dZ}(ag:look tt t=some aE){a:Operand}(aw:o.op = .load t a){q off:Nat}(ha:rd g.env g.bN p tt o.type a=some (.ptr q off))
 {cs:List aR} (aP:look g.H q=some cs) (gq:aE.k.isAgg=true) (hle:off+aE.size≤cs.length):
 Yields P K M β g {e:=some {d:=ko (((cs.drop off).take aE.size).map (·.d))},rs:=g.rs} o tmps w:=by
 obtain⟨r⟩:=dR b0 ag;obtain⟨b,hb,az⟩:=mf (dz (ds:=[]) h hp ha);obtain⟨bF,vs,T,bH,bu,hlen,_,_,fL,iX⟩:=h.bj.box q cs aP;rw [hb]at bH;cases bH;have ec:=xe (P:=P) (w:=w) r (off:=off) bu (by omega) gq
 refine eK h (v:=.agg ⟨(vs.drop off).take aE.size⟩) ?_ ?_
 ·simp only [execOp,aw];rw [az];exact hE _ ec
 ·refine si (by simp;omega) (λv az=>fL v (List.mem_of_mem_drop (List.mem_of_mem_take az))) (λi v c az hc=>?_)
  rw [List.getElem?_map,Option.map_eq_some_iff]at hc;obtain⟨e,he,rfl⟩:=hc;rw [List.getElem?_take]at az he;split at az
  ·rename_i hi;rw [if_pos hi,List.getElem?_drop]at he;rw [List.getElem?_drop]at az;have:=h.bj.ew (.cell q (off+i)) e (by simp [aF.at,aP,he])
   simpa [bZ,hb,cell_of_heap bu,az]using this
  ·cases az
def V1(h:e0 P K N M β g tmps w)(hp:fa tmps p)(b0:eJ P tt=true){t:TypeId}{aE:dZ}(ag:look tt t=some aE){a:Operand}(aw:o.op = .load t a){q off:Nat}(ha:rd g.env g.bN p tt o.type a=some (.ptr q off))
 {cs:List aR} (aP:look g.H q=some cs) (gq:aE.k.isAgg=false) {e:aR} (he:cs[off]? = some e):
 Yields P K M β g {e:=some {d:=e.d},rs:=g.rs} o tmps w:=by
 obtain⟨r⟩:=dR b0 ag;obtain⟨b,hb,az⟩:=mf (dz (ds:=[]) h hp ha);obtain⟨bF,vs,T,v,bH,bu,d9,bY⟩:=AN h.bj aP he;rw [hb]at bH;cases bH;have hc:w.cell? ⟨b,off,none⟩=some v:=by rw [cell_of_heap bu,d9]
 refine eK h (v:=v) ?_ ?_
 ·simp only [execOp,aw];rw [az];exact hE _ (AX (P:=P) r hc gq)
 ·have:=h.bj.ew (.cell q off) e (by simp [aF.at,aP,he])
  rwa [bY]at this
def Jl{cs:List aR}{off:Nat}{e:aR}(cJ:off<cs.length)(i:Nat):(setAt cs off [e])[i]? = if i=off then some e else cs[i]? := by
 rw [(lq cs off [e] (by simp;omega)).2 i]
 by_cases hi:i=off
 ·subst hi;simp
 ·rw [if_neg (by simp;omega),if_neg hi]
def V2(h:e0 P K N M β g tmps w)(hp:fa tmps p)(b0:eJ P tt=true){t:TypeId}{aE:dZ}(ag:look tt t=some aE){a:Operand}(aw:o.op = .load t a){q off:Nat}(ha:rd g.env g.bN p tt o.type a=some (.ptr q off))
 {cs:List aR} (aP:look g.H q=some cs) (gq:aE.k.isAgg=false) {e:aR} (he:cs[off]? = some e) {s:TypeId} (hs:e.own=some s) {rs:List eT}:
 Yields P K M β g {e:=some e,hs:=[(q,setAt cs off [{d:=e.d}])],rs} o tmps w:=by
 obtain⟨r⟩:=dR b0 ag;obtain⟨b,hb,az⟩:=mf (dz (ds:=[]) h hp ha);obtain⟨bF,vs,T,v,bH,bu,d9,bY⟩:=AN h.bj aP he;rw [hb]at bH;cases bH;have hc:w.cell? ⟨b,off,none⟩=some v:=by rw [cell_of_heap bu,d9]
 have cJ:off<cs.length:=(List.getElem?_eq_some_iff.1 he).1
 have hD:=λl0=>h.bj.IY aP he hs (cs':=setAt cs off [{d:=e.d}]) (lq cs off _ (by simp;omega)).1 (λj aZ hj=>by
  rw [Jl cJ]at hj;by_cases Bc:j=off
  ·subst Bc;simp at hj;subst hj;exact⟨e,he,rfl,by simp⟩
  ·rw [if_neg Bc]at hj;exact⟨aZ,hj,rfl,λT aO=>⟨aO,Bc⟩⟩) l0
 refine .inl ⟨v,w,?_,M,β,Mem.le_refl _,λ_ _ h=>h,λ_ _ h=>.inl h,(hD (.slot 0)).1,λe1 mW=>?_⟩
 ·simp only [execOp,aw];rw [az];exact hE _ (AX (P:=P) r hc gq)
 ·cases mW;refine⟨?_,λT l0 aO=>?_⟩
  ·have:=h.bj.ew (.cell q off) e (by simp [aF.at,aP,he])
   rwa [bY]at this
  ·rw [hs]at aO;cases aO;have:=(hD l0).2
   rwa [bY]at this
def V3(h:e0 P K N M β g tmps w)(hp:fa tmps p)(b0:eJ P tt=true){t:TypeId}{aE:dZ}(ag:look tt t=some aE){a:Operand}(aw:o.op = .load t a){x:V}(ha:rd g.env g.bN p tt o.type a=some (.eA x))
 (gq:x.isAgg=aE.k.isAgg) (hs:x.cells.length=aE.size):Yields P K M β g {e:=some {d:=.v x},rs:=g.rs} o tmps w:=by
 obtain⟨r⟩:=dR b0 ag;obtain⟨u,ab,ah⟩:=VG (w:=w) r h.bj.mem (dz (ds:=[]) h hp ha) gq hs;exact eK h (v:=u) (by simp only [execOp,aw];exact hE _ ab) (.v _ _ ah)
def Bd{t:TypeId}{aE:dZ}(r:Row P t aE){b off:Nat}{vs:List Value}{T:TypeId}(bu:w.heap[b]? = some (.cells ⟨vs⟩ T (0,0))){v:Value}(hs:v.cells.size=aE.size)(fL:∀u,u∈v.cells.toList→u.oneCell'=true)
 (hle:off+aE.size≤vs.length):(Instr.storeAt t (.pointer (some ⟨b,off,none⟩)) v).run P w = .ok () (w.setRow b (vs.take off++v.cells.toList++vs.drop (off+aE.size)).toArray):=by
 have:=run_storeCells_at P b off T v.cells.toList 0 ⟨vs⟩ w bu (by simpa [hs]using hle) fL
 simp only [Nat.add_zero,Array.length_toList,hs]at this;simp [Instr.storeAt,Instr.sureAddr,storeVar,r.run_sizeOf,hs,this]
def uc{vs us:List Value}{off:Nat}(hle:off+us.length≤vs.length)(i:Nat):(vs.take off++us++vs.drop (off+us.length))[i]? = if off≤i∧i<off+us.length then us[i-off]? else vs[i]? := by
 have cc:(vs.take off).length=off:=by simp;omega
 by_cases ab:i<off
 ·rw [if_neg (by omega),List.append_assoc,List.getElem?_append_left (by omega),List.getElem?_take,if_pos ab]
 ·by_cases ah:i<off+us.length
  ·rw [if_pos (by omega),List.append_assoc,List.getElem?_append_right (by omega),cc,List.getElem?_append_left (by omega)]
  ·rw [if_neg (by omega),List.getElem?_append_right (by simp;omega),List.getElem?_drop]
   congr 1
   simp;omega
def qs{vs us:List Value}{off:Nat}(hle:off+us.length≤vs.length):(vs.take off++us++vs.drop (off+us.length)).length=vs.length:=by
 simp;omega
def Be{vs us:List Value}{off:Nat}(ab:∀v,v∈vs→v.oneCell'=true)(ah:∀v,v∈us→v.oneCell'=true):∀v,v∈vs.take off++us++vs.drop (off+us.length)→v.oneCell'=true:=by
 intro v az;rcases List.mem_append.1 az with az|az
 ·rcases List.mem_append.1 az with az|az
  ·exact ab v (List.mem_of_mem_take az)
  ·exact ah v az
 ·exact ab v (List.mem_of_mem_drop az)
def Bf{v:Value}{t:TypeId}{a x:Operand}(aw:o.op = .store t a x)(hx:(⟨tmps,[]⟩:Act).eval x=v){gr:Value}(ha:(⟨tmps,[]⟩:Act).eval a=gr){w':World}(h:(Instr.storeAt t gr v).run P w = .ok () w'):
 (execOp (Act.eval ⟨tmps,[]⟩) o).run P w = .ok .skip w':=by
 simp only [execOp,aw,hx,ha];simp [h]
def jm.set{T:TypeId}{n:Nat}{cs ds:List aR}{off:Nat}(h:jm P T n cs)(hn:∀e,e∈ds→∀r o u,e.d ≠ .ca r o u)(hle:off+ds.length≤cs.length):jm P T n (setAt cs off ds):=λe he r o u hd=>by
 obtain⟨i,hi,rfl⟩:=List.getElem_of_mem he;have hg:(setAt cs off ds)[i]? = some (setAt cs off ds)[i]:=List.getElem?_eq_getElem hi;rw [(lq cs off ds hle).2 i]at hg;split at hg
 ·exact absurd hd (hn _ (List.mem_of_getElem? hg) r o u)
 ·exact h _ (List.mem_of_getElem? hg) r o u hd
def V4(h:e0 P K N M β g tmps w)(hp:fa tmps p)(b0:eJ P tt=true){t:TypeId}{aE:dZ}(ag:look tt t=some aE){a x:Operand}(aw:o.op = .store t a x){q off:Nat}(ha:rd g.env g.bN p tt o.type a=some (.ptr q off))
 {cs:List aR} (aP:look g.H q=some cs) {d:D} (hx:rd g.env g.bN p tt t x=some d) (cc:nx d=false) (nC:ol (cellsD d)=true) (hs:(cellsD d).length=aE.size) (hle:off+aE.size≤cs.length):
 Yields P K M β g {e:=none,hs:=[(q,setAt cs off ((cellsD d).map λd=>{d}))],rs:=g.rs} o tmps w:=by
 obtain⟨r⟩:=dR b0 ag;obtain⟨b,hb,az⟩:=mf (dz (ds:=[]) h hp ha);obtain⟨bF,vs,T,bH,bu,hlen,_,_,fL,iX⟩:=h.bj.box q cs aP;rw [hb]at bH;cases bH;obtain⟨ab,ah,ay⟩:=(dz (ds:=[]) h hp hx).cells cc;generalize hu:(⟨tmps,[]⟩:Act).eval x=u at ab ah ay
 have Jm:u.cells.size=aE.size:=by simp at ab;omega
 have nE:u.cells.toList.length=aE.size:=by simpa using Jm
 have ec:=Bd (P:=P) r (off:=off) bu Jm ah (by omega)
 rw [←nE]at ec;refine .inr (.inl ⟨rfl,_,Bf aw hu az ec,M,β,Mem.le_refl _,λ_ _ h=>h,λ_ _ h=>.inl h,?_,λe he=>by cases he⟩)
 have jp:=lq cs off ((cellsD d).map λd=>({d}:aR)) (by simp;omega)
 refine h.bj.w_ aP hb bu (vs':=vs.take off++u.cells.toList++vs.drop (off+u.cells.toList.length)) (by rw [qs (by omega),jp.1,hlen]) (Be fL ah) (λ_=>by
  rw [qs (by omega)]
  refine iX.set (λe he=>?_) (by simp;omega)
  obtain⟨c,hc,rfl⟩:=List.mem_map.1 he;exact tZ nC c hc) jp.1
  (setRow_heap w b _ _ T (0,0) bu) (λbF dF=>setRow_other w b bF _ dF) cs.length (λi v e d9 hG=>?_)
 rw [uc (by omega)]at d9
 rw [jp.2]at hG;simp only [List.length_map]at hG;by_cases hi:off≤i∧i<off+aE.size
 ·rw [if_pos (by omega)]at d9
  rw [if_pos (by omega),List.getElem?_map,Option.map_eq_some_iff]at hG
  obtain⟨c,hc,rfl⟩:=hG;exact⟨ay _ v c d9 hc,by simp⟩
 ·rw [if_neg (by omega)]at d9
  rw [if_neg (by omega)]at hG
  have V5:i<cs.length:=(List.getElem?_eq_some_iff.1 hG).1;refine⟨?_,λT aO=>.inl ⟨by omega,⟨e,hG,aO⟩,d9⟩⟩
  have:=h.bj.ew (.cell q i) e (by simp [aF.at,aP,hG])
  simpa [bZ,hb,cell_of_heap bu,d9]using this
def Jn(ty:Nat→Option TypeId):∀(l:List aR) (n:Nat),(mO ty n l).length=l.length∧∀(i:Nat) aZ,(mO ty n l)[i]? = some aZ→∃e,l[i]? = some e∧((e.d=aZ.d∧∀T,aZ.own=some T→e.own=some T)∨∃k g,e.d = .v (.l8 k g)∧aZ.d = .v (.bz k 0 g))
 |[],n=>by simp [mO]
 |e::l,n=>by
  obtain⟨ab,ah⟩:=Jn ty l (n+1);refine⟨by simp [mO,ab],λi aZ he=>?_⟩
  cases i with
  |zero=>
   simp only [mO,List.getElem?_cons_zero,Option.some.injEq]at he;refine⟨e,rfl,?_⟩
   split at he
   ·rename_i k g hd;subst he;exact .inr ⟨k,g,hd,rfl⟩
   ·subst he;exact .inl ⟨rfl,λ_ h=>h⟩
  |succ i=>simp only [mO,List.getElem?_cons_succ]at he ⊢;exact ah i aZ he
def Jo(h:e0 P K N M β g tmps w)(hp:fa tmps p)(b0:eJ P tt=true){t:TypeId}{aE:dZ}(ag:look tt t=some aE){a x:Operand}(aw:o.op = .store t a x){q off:Nat}(ha:rd g.env g.bN p tt o.type a=some (.ptr q off))
 {cs:List aR} (aP:look g.H q=some cs) {d:D} (hx:rd g.env g.bN p tt t x=some d) (cc:nx d=false) (nC:ol (cellsD d)=true) (hs:(cellsD d).length=aE.size) (hle:off+aE.size≤cs.length) (ty:Nat→Option TypeId):
 Yields P K M β g {e:=none,hs:=[(q,mO ty 0 (setAt cs off ((cellsD d).map λd=>{d})))],rs:=g.rs} o tmps w:=by
 have up:∀{M':Mem} {β':Nat→Option Nat} {v:Value} {w':World},hh P K M β g {e:=none,hs:=[(q,setAt cs off ((cellsD d).map λd=>{d}))],rs:=g.rs} tmps v w'→
  hh P K M β g {e:=none,hs:=[(q,mO ty 0 (setAt cs off ((cellsD d).map λd=>{d})))],rs:=g.rs} tmps v w':=by
  rintro M' β' v w' ⟨qt,oz,ab,ah,ay,bl,_⟩
  refine⟨qt,oz,ab,ah,λr b hb=>?_,?_,λe he=>by cases he⟩
  ·rcases ay r b hb with bQ|bQ
   ·exact .inl bQ
   ·right
    simp only [dd]at bQ ⊢;split at bQ
    ·rename_i lr;simp [lr]
    ·cases bQ
  ·obtain⟨g1,g2⟩:=Jn ty (setAt cs off ((cellsD d).map λd=>({d}:aR))) 0
   refine bl.Vo rfl (λl aZ cx=>?_) (λr cs' aj=>?_)
   ·cases l with
    |slot s=>exact⟨aZ,cx,.inl ⟨rfl,λ_ h=>h⟩⟩
    |cell r i=>
     simp only [aF.at,after,List.cons_append,List.nil_append,dd]at cx ⊢;by_cases lr:q=r
     ·simp only [lr,if_true,Option.bind_some]at cx ⊢;exact g2 i aZ cx
     ·simp only [lr,if_false]at cx ⊢;exact⟨aZ,cx,.inl ⟨rfl,λ_ h=>h⟩⟩
   ·simp only [after,List.cons_append,List.nil_append,dd]at aj ⊢;by_cases lr:q=r
    ·simp only [lr,if_true,Option.some.injEq]at aj ⊢;subst aj;exact⟨_,rfl,g1.symm⟩
    ·simp only [lr,if_false]at aj ⊢;exact⟨cs',aj,rfl⟩
 rcases V4 h hp b0 ag aw ha aP hx cc nC hs hle with⟨v,w',ab,ah⟩|⟨h0,w',ab,ah⟩|⟨fn,vs,ab,ah⟩
 ·exact .inl ⟨v,w',ab,up (M':=M) (β':=β) ah⟩
 ·exact .inr (.inl ⟨h0,w',ab,up (M':=M) (β':=β) ah⟩)
 ·exact .inr (.inr ⟨fn,vs,ab,ah.mono λe w' ⟨v,ay,bl⟩=>⟨v,ay,up (M':=M) (β':=β) bl⟩⟩)
def Jp(h:e0 P K N M β g tmps w)(hp:fa tmps p)(b0:eJ P tt=true){t:TypeId}{aE:dZ}(ag:look tt t=some aE){a x:Operand}(aw:o.op = .store t a x){q off:Nat}(ha:rd g.env g.bN p tt o.type a=some (.ptr q off))
 {cs:List aR} (aP:look g.H q=some cs) {k n:Nat} {get:Nat→V} (hx:rd g.env g.bN p tt t x=some (.v (.bz k n get))) (hs:aE.size=1) (hle:off+aE.size≤cs.length) {s:TypeId} {l:List Nat}
 (fh:kq P K M β {env:=fT l g.env,H:=g.H,aT:=g.aT} tmps w (.cell q off) ((⟨tmps,[]⟩:Act).eval x) s):
 Yields P K M β g {e:=none,f8:=l,hs:=[(q,setAt cs off [{d:=.v (.bz k n get),own:=some s}])],rs:=g.rs} o tmps w:=by
 obtain⟨r⟩:=dR b0 ag;obtain⟨b,hb,az⟩:=mf (dz (ds:=[]) h hp ha);have mh:=h.bj.f8 l;obtain⟨bF,vs,T,bH,bu,hlen,_,_,fL,iX⟩:=h.bj.box q cs aP;rw [hb]at bH;cases bH;have jq:=dz (ds:=[]) h hp hx;generalize hu:(⟨tmps,[]⟩:Act).eval x=u at jq fh
 have ud:u.cells = #[u]∧u.oneCell'=true:=by
  obtain⟨a,cap,rfl,_⟩:=qn jq;exact⟨rfl,rfl⟩
 have ec:=Bd (P:=P) r (off:=off) bu (v:=u) (by rw [ud.1,hs];rfl) (by rw [ud.1];simpa using ud.2) (by omega)
 rw [ud.1,hs]at ec;have cJ:off<cs.length:=by omega
 refine .inr (.inl ⟨rfl,_,Bf aw hu az ec,M,β,Mem.le_refl _,λ_ _ h=>h,λ_ _ h=>.inl h,?_,λe he=>by cases he⟩)
 refine mh.w_ (st:={env:=fT l g.env,H:=g.H,aT:=g.aT}) aP hb bu (vs':=vs.take off++[u]++vs.drop (off+1)) (by rw [show off+1=off+[u].length by rfl,qs (by simp;omega),(lq cs off _ (by simp;omega)).1,hlen])
  (Be (us:=[u]) fL (by simpa using ud.2)) (λ_=>by
   rw [show off+1=off+[u].length by rfl,qs (by simp;omega)]
   refine iX.set (λe he=>?_) (by simp;omega)
   obtain rfl:=List.mem_singleton.1 he;exact λ_ _ _ e=>by cases e) (lq cs off _ (by simp;omega)).1 (setRow_heap w b _ _ T (0,0) bu) (λbF dF=>setRow_other w b bF _ dF) off (λi v e d9 hG=>?_)
 rw [show off+1=off+[u].length by rfl,uc (by simp;omega)]at d9
 rw [Jl cJ]at hG;by_cases hi:i=off
 ·subst hi;simp at d9 hG
  subst d9;subst hG;refine⟨jq,λT aO=>.inr ⟨rfl,?_⟩⟩
  cases aO;exact fh
 ·rw [if_neg hi]at hG;rw [if_neg (by simp;omega)]at d9
  refine⟨?_,λT aO=>.inl ⟨hi,⟨e,hG,aO⟩,d9⟩⟩
  have:=h.bj.ew (.cell q i) e (by simp [aF.at,aP,hG])
  simpa [bZ,hb,cell_of_heap bu,d9]using this
end
section
variable {P:Program} {K:Ctx} {M:Mem} {β:Nat→Option Nat} {st:aF} {tmps:Array Value} {w:World}
def bB.Jq(h:bB P K M β st tmps w){r off size T b:Nat}{cs cs':List aR}{vs:List Value}{de:TypeId}(aj:look st.H r=some cs)(hb:β r=some b)(bu:w.heap[b]? = some (.cells ⟨vs⟩ de (0,0)))
 (fL:∀v,v∈vs→v.oneCell'=true) (hlen:vs.length=cs.length)
 (hm:∀x,x∈marks T→x.1<size∧∃e,cs[off+x.1]? = some e∧e.own=some x.2)
 (dE:cs'.length=cs.length) (hD:∀(j:Nat) aZ,cs'[j]? = some aZ→∃bI,cs[j]? = some bI∧bI.d=aZ.d∧(∀U,aZ.own=some U→bI.own=some U∧∀x,x∈marks T→j≠off+x.1)) (l0:Loc):
 bB P K M β {st with H:=(r,cs')::st.H} tmps w∧kq P K M β {st with H:=(r,cs')::st.H} tmps w l0 (.agg ⟨(vs.drop off).take size⟩) T:=by
 have eQ:∀l aZ,({st with H:=(r,cs')::st.H}:aF).at l=some aZ→∃bI,st.at l=some bI∧bI.d=aZ.d∧∀U,aZ.own=some U→bI.own=some U∧∀x,x∈marks T→l ≠ .cell r (off+x.1):=by
  intro l aZ cx;cases l with
  |slot s=>exact⟨aZ,cx,rfl,λU h=>⟨h,λ_ _=>by simp⟩⟩
  |cell ct j=>
   by_cases gc:r=ct
   ·subst gc;simp [aF.at,dd]at cx;obtain⟨bI,ab,ah,ay⟩:=hD j aZ cx;exact⟨bI,by simp [aF.at,aj,ab],ah,λU gt=>⟨(ay U gt).1,λx hx=>by simp [(ay U gt).2 x hx]⟩⟩
   ·refine⟨aZ,by simpa [aF.at,dd,gc]using cx,rfl,λU h=>⟨h,λ_ _=>by simp [Ne.symm gc]⟩⟩
 have eb:∀ct c,look ((r,cs')::st.H) ct=some c→∃gp,look st.H ct=some gp∧gp.length=c.length:=by
  intro ct c hc;by_cases gc:r=ct
  ·subst gc;simp [dd]at hc;subst hc;exact⟨cs,aj,dE.symm⟩
  ·exact⟨c,by simpa [dd,gc]using hc,rfl⟩
 -- xl afC at a mark
 have mk:∀x,x∈marks T→∃e,st.at (.cell r (off+x.1))=some e∧e.own=some x.2∧bZ tmps w β (.cell r (off+x.1))=(Array.mk ((vs.drop off).take size)).getD x.1 undef∧jL P K.F M w x.2 ((Array.mk ((vs.drop off).take size)).getD x.1 undef)∧
  ∀cb,hA x.2 (bZ tmps w β (.cell r (off+x.1))) cb↔il ((Array.mk ((vs.drop off).take size)).getD x.1 undef)=some cb:=by
  intro x hx;obtain⟨cJ,e,he,aO⟩:=hm x hx;have ag:st.at (.cell r (off+x.1))=some e:=by simp [aF.at,aj,he]
  have Bg:off+x.1<vs.length:=by rw [hlen];exact(List.getElem?_eq_some_iff.1 he).1
  have az:bZ tmps w β (.cell r (off+x.1))=vs[off+x.1]:=by simp only [bZ,hb,cell_of_heap bu,List.getElem?_eq_getElem Bg,Option.getD_some]
  have hg:(Array.mk ((vs.drop off).take size)).getD x.1 undef=vs[off+x.1]:=by
   have:((vs.drop off).take size)[x.1]? = some vs[off+x.1]:=by rw [List.getElem?_take,if_pos cJ,List.getElem?_drop,List.getElem?_eq_getElem Bg]
   simp [Array.getD_eq_getD_getElem?,this]
  have aw:=h.own _ e x.2 ag aO;have ab:=fL vs[off+x.1] (List.getElem_mem Bg);refine⟨e,ag,aO,az.trans hg.symm,?_,?_⟩
  ·rw [hg];rw [az]at aw;rcases aw.cases with⟨c,hc⟩|⟨ah,_⟩
   ·rw [hc]at ab;cases ab
   ·exact ah
  ·rw [hg];rw [az]at aw ⊢;rcases aw.cases with⟨c,hc⟩|⟨_,ah⟩
   ·rw [hc]at ab;cases ab
   ·exact ah
 refine⟨h.sub rfl (λl aZ cx=>?_) eb,⟨λx hx=>?_,λx hx y b1 kt cb ab ah=>?_⟩,λl aZ T' cb cx dy _ cI bH=>?_,λcb ct c cI eH=>?_⟩
 ·obtain⟨bI,ab,ah,ay⟩:=eQ l aZ cx;exact⟨bI,ab,ah,λT aO=>(ay T aO).1⟩
 ·obtain⟨_,_,_,_,ab,_⟩:=mk x hx;exact ab
 ·obtain⟨e1,aU,a2,_,_,a3⟩:=mk x hx;obtain⟨e2,c1,c2,_,_,c3⟩:=mk y b1;have:=h.uniq _ _ e1 e2 x.2 y.2 cb aU a2 c1 c2 ((a3 cb).2 ab) ((c3 cb).2 ah)
  simp only [Loc.cell.injEq]at this;omega
 ·obtain⟨x,hx,cI⟩:=cI;obtain⟨e1,aU,a2,_,_,a3⟩:=mk x hx;obtain⟨bI,ab,_,ay⟩:=eQ l aZ cx;exact(ay T' dy).2 x hx (h.uniq l _ bI e1 T' x.2 cb ab (ay T' dy).1 aU a2 bH ((a3 cb).2 cI))
 ·obtain⟨x,hx,cI⟩:=cI;obtain⟨e1,aU,a2,_,_,a3⟩:=mk x hx;obtain⟨gp,ab,_⟩:=eb ct c eH;exact h.unbox _ e1 x.2 cb ct gp aU a2 ((a3 cb).2 cI) ab
def bB.V6(h:bB P K M β st tmps w){s r off T:Nat}{e:aR}{cs cs':List aR}{us:List Value}(hs:look st.env s=some e)(aO:e.own=some T)(hu:tmps.getD s undef = .agg ⟨us⟩)
 (aj:look st.H r=some cs) (az:∀x,x∈marks T→bZ tmps w β (.cell r (off+x.1))=(Array.mk us).getD x.1 undef) (dE:cs'.length=cs.length)
 (fL:∀x,x∈marks T→∀c,(Array.mk us).getD x.1 undef ≠ .agg c)
 (hD:∀(j:Nat) aZ,cs'[j]? = some aZ→∃bI,cs[j]? = some bI∧bI.d=aZ.d∧∀U,aZ.own=some U→bI.own=some U∨∃x,x∈marks T∧j=off+x.1∧U=x.2):
 bB P K M β {st with env:=fT [s] st.env,H:=(r,cs')::st.H} tmps w:=by
 have ag:st.at (.slot s)=some e:=hs;have aw:=h.own (.slot s) e T ag aO;have bY:bZ tmps w β (.slot s) = .agg ⟨us⟩:=hu;rw [bY]at aw
 have eQ:∀l aZ,({st with env:=fT [s] st.env,H:=(r,cs')::st.H}:aF).at l=some aZ→∃bI,st.at l=some bI∧bI.d=aZ.d∧∀U,aZ.own=some U→(bI.own=some U∧l ≠ .slot s)∨∃x,x∈marks T∧l = .cell r (off+x.1)∧U=x.2:=by
  intro l aZ cx;cases l with
  |slot ow=>
   simp only [aF.at,kO]at cx ⊢;by_cases qi:ow=s
   ·subst qi;simp at cx
    obtain⟨e1,ab,rfl⟩:=cx;exact⟨e1,ab,rfl,λU gt=>by simp at gt⟩
   ·simp [qi]at cx;exact⟨aZ,cx,rfl,λU gt=>.inl ⟨gt,by simp [qi]⟩⟩
  |cell ct j=>
   by_cases gc:r=ct
   ·subst gc;simp [aF.at,dd]at cx;obtain⟨bI,ab,ah,ay⟩:=hD j aZ cx;refine⟨bI,by simp [aF.at,aj,ab],ah,λU gt=>?_⟩
    rcases ay U gt with bl|⟨x,hx,bl,bQ⟩
    ·exact .inl ⟨bl,by simp⟩
    ·exact .inr ⟨x,hx,by rw [bl],bQ⟩
   ·exact⟨aZ,by simpa [aF.at,dd,gc]using cx,rfl,λU gt=>.inl ⟨gt,by simp⟩⟩
 have eb:∀ct c,look ((r,cs')::st.H) ct=some c→∃gp,look st.H ct=some gp∧gp.length=c.length:=by
  intro ct c hc;by_cases gc:r=ct
  ·subst gc;simp [dd]at hc;subst hc;exact⟨cs,aj,dE.symm⟩
  ·exact⟨c,by simpa [dd,gc]using hc,rfl⟩
 have xm:∀x,x∈marks T→∀cb,hA x.2 ((Array.mk us).getD x.1 undef) cb↔il ((Array.mk us).getD x.1 undef)=some cb:=by
  intro x hx cb;have:=fL x hx
  generalize (Array.mk us).getD x.1 undef=v at this
  cases v<;>first
   |exact Iff.rfl
   |exact absurd rfl (this _)
 have Bh:∀x,x∈marks T→∀cb,il ((Array.mk us).getD x.1 undef)=some cb→hA T (bZ tmps w β (.slot s)) cb:=λx hx cb cI=>by rw [bY];exact⟨x,hx,cI⟩
 -- jM state afD any marks, first
 have base:bB P K M β {st with env:=fT [s] st.env,H:=(r,cs')::st.H} tmps w↔True:=by
  refine⟨λ_=>trivial,λ_=>?_⟩
  constructor
  ·intro l aZ cx;obtain⟨bI,ab,ah,_⟩:=eQ l aZ cx;rw [←ah];exact h.ew l bI ab
  ·intro l aZ U cx gt;obtain⟨bI,ab,_,ay⟩:=eQ l aZ cx;rcases ay U gt with⟨bl,_⟩|⟨x,hx,rfl,rfl⟩
   ·exact h.own l bI U ab bl
   ·rw [az x hx];exact(aw.1 x hx).at
  ·intro l cr e1 e2 U xn cb fb gt eI Jr cI fj;obtain⟨f1,g1,_,ed⟩:=eQ l e1 fb;obtain⟨f2,g2,_,ao⟩:=eQ cr e2 eI;rcases ed U gt with⟨m1,Js⟩|⟨x,hx,rfl,rfl⟩
   ·rcases ao xn Jr with⟨m2,Jt⟩|⟨y,b1,rfl,rfl⟩
    ·exact h.uniq l cr f1 f2 U xn cb g1 m1 g2 m2 cI fj
    ·rw [az y b1,xm y b1]at fj;exact absurd (h.uniq l (.slot s) f1 e U T cb g1 m1 ag aO cI (Bh y b1 cb fj)) Js
   ·rw [az x hx,xm x hx]at cI;rcases ao xn Jr with⟨m2,Jt⟩|⟨y,b1,rfl,rfl⟩
    ·exact absurd (h.uniq cr (.slot s) f2 e xn T cb g2 m2 ag aO fj (Bh x hx cb cI)) Jt
    ·rw [az y b1,xm y b1]at fj;by_cases kt:x.1=y.1
     ·rw [kt]
     ·exact absurd fj (aw.2 x hx y b1 kt cb cI)
  ·intro l e1 U cb ct c fb gt cI eH;obtain⟨f1,g1,_,ed⟩:=eQ l e1 fb;obtain⟨gp,ab,_⟩:=eb ct c eH;rcases ed U gt with⟨m1,Js⟩|⟨x,hx,rfl,rfl⟩
   ·exact h.unbox l f1 U cb ct gp g1 m1 cI ab
   ·rw [az x hx,xm x hx]at cI;exact h.unbox (.slot s) e T cb ct gp ag aO (Bh x hx cb cI) ab
  ·intro ct c eH;obtain⟨gp,hC,hlen⟩:=eb ct c eH;obtain⟨cb,vs,fY,ab,ah,ay,bl,bQ,df,fK⟩:=h.box ct gp hC
   exact⟨cb,vs,fY,ab,ah,ay.trans hlen,bl,bQ,df,fK.AM hC eH λl aZ ag=>by
    obtain⟨e,g1,g2,_⟩:=eQ l aZ ag;exact⟨e,g1,.inl g2⟩⟩
  ·intro af aq cb c1 c2 hC iq cI fj;obtain⟨d1,ab,_⟩:=eb af c1 hC;obtain⟨d2,ah,_⟩:=eb aq c2 iq;exact h.inj af aq cb d1 d2 ab ah cI fj
  ·exact h.lt
  ·exact h.mem
  ·exact h.m0
  ·exact h.frame
  ·exact h.gN
  ·exact h.hB
  ·exact h.gn
 exact base.2 trivial
end
def ue:∀(l:List aR) (i:Nat) (x:Nat×TypeId),x∈marksOf i l→i≤x.1∧∃e,l[x.1-i]? = some e∧e.own=some x.2
 |[],i,x,h=>by simp [marksOf]at h
 |e::l,i,x,h=>by
  have next:x∈marksOf (i+1) l→i≤x.1∧∃aZ,(e::l)[x.1-i]? = some aZ∧aZ.own=some x.2:=λh=>by
   obtain⟨ab,aZ,ah,ay⟩:=ue l (i+1) x h;refine⟨by omega,aZ,?_,ay⟩
   rw [show x.1-i=(x.1-(i+1))+1 by omega,List.getElem?_cons_succ];exact ah
  unfold marksOf at h;split at h
  ·rename_i T aO;rcases List.mem_cons.1 h with rfl|h
   ·exact⟨Nat.le_refl _,e,by simp,aO⟩
   ·exact next h
  ·exact next h
def Bi:∀{l m:List (Nat×TypeId)},o_ l m=true→l=m
 |[],[],_=>rfl
 |x::l,y::m,h=>by
  simp only [o_,Bool.and_eq_true,Nat.beq_eq]at h;rw [Bi h.2];obtain⟨a,b⟩:=x;obtain⟨c,d⟩:=y;simp only at h
  rw [h.1.1,h.1.2]
 |[],_::_,h=>by simp [o_]at h
 |_::_,[],h=>by simp [o_]at h
def Ju:∀{ms:List (Nat×TypeId)} {i:Nat} {U:TypeId},r9 ms i=some U→∃x,x∈ms∧x.1=i∧U=x.2
 |[],i,U,h=>by simp [r9]at h
 |x::l,i,U,h=>by
  unfold r9 at h;rw [Bool.cond_eq_ite]at h;split at h
  ·rename_i hx;cases h;exact⟨x,by simp,by simpa using hx,rfl⟩
  ·obtain⟨y,b1,ab,ah⟩:=Ju h;exact⟨y,by simp [b1],ab,ah⟩
def Jv(ms:List (Nat×TypeId)):∀(ds:List D) (i:Nat),(mP ms i ds).length=ds.length∧∀(j:Nat),(mP ms i ds)[j]? = (ds[j]?).map λd=>{d,own:=r9 ms (i+j)}
 |[],i=>by simp [mP]
 |d::ds,i=>by
  obtain⟨ab,ah⟩:=Jv ms ds (i+1);refine⟨by simp [mP,ab],λj=>?_⟩
  cases j with
  |zero=>simp [mP]
  |succ j=>simp only [mP,List.getElem?_cons_succ];rw [ah j,show i+1+j=i+(j+1)by omega]
def V7{M:Mem}{β:Nat→Option Nat}{v:Value}{d:D}(h:ce M β v d)(hd:AH d=true):∃us,v = .agg ⟨us⟩:=by
 cases h<;>first
  |(cases hd;done)
  |(rename_i hx;cases hx<;>first |(cases hd;done) |exact⟨_,rfl⟩)
  |exact⟨_,rfl⟩
section
variable {P:Program} {K:Ctx} {N:Nat} {M:Mem} {β:Nat→Option Nat} {g:cU} {tmps:Array Value} {w:World} {o:Oper} {p:Path} {tt:de}
def V8(h:e0 P K N M β g tmps w)(hp:fa tmps p)(b0:eJ P tt=true){t:TypeId}{aE:dZ}(ag:look tt t=some aE){a:Operand}(aw:o.op = .load t a){q off:Nat}(ha:rd g.env g.bN p tt o.type a=some (.ptr q off))
 {cs:List aR} (aP:look g.H q=some cs) (gq:aE.k.isAgg=true) (hle:off+aE.size≤cs.length) {c:Nat} (hm:o_ (marks c) (marksOf 0 ((cs.drop off).take aE.size))=true) {rs:List eT}:
 Yields P K M β g {e:=some {d:=ko (((cs.drop off).take aE.size).map (·.d)),own:=some c},hs:=[(q,setAt cs off (((cs.drop off).take aE.size).map λe=>{d:=e.d}))],rs} o tmps w:=by
 obtain⟨r⟩:=dR b0 ag;obtain⟨b,hb,az⟩:=mf (dz (ds:=[]) h hp ha);obtain⟨bF,vs,T,bH,bu,hlen,_,_,fL,iX⟩:=h.bj.box q cs aP;rw [hb]at bH;cases bH;have ec:=xe (P:=P) (w:=w) r (off:=off) bu (by omega) gq
 have nF:=Bi hm;have i7:((cs.drop off).take aE.size).length=aE.size:=by simp;omega
 have jp:=lq cs off (((cs.drop off).take aE.size).map λe=>({d:=e.d}:aR)) (by rw [List.length_map,i7];exact hle)
 have nG:∀j,j<aE.size→((cs.drop off).take aE.size)[j]? = cs[off+j]? := λj hj=>by rw [List.getElem?_take,if_pos hj,List.getElem?_drop]
 have hD:=λl0=>h.bj.Jq (T:=c) (size:=aE.size) (off:=off) aP hb bu fL hlen (cs':=setAt cs off (((cs.drop off).take aE.size).map λe=>{d:=e.d})) (λx hx=>by
  rw [nF]at hx;obtain⟨_,e,ah,ay⟩:=ue _ 0 x hx;rw [Nat.sub_zero]at ah;have cJ:x.1<aE.size:=by rw [←i7];exact(List.getElem?_eq_some_iff.1 ah).1
  exact⟨cJ,e,by rw [←nG x.1 cJ];exact ah,ay⟩) jp.1 (λj aZ hj=>by
  rw [jp.2]at hj;rw [List.length_map,i7]at hj;by_cases hi:off≤j∧j<off+aE.size
  ·rw [if_pos hi,List.getElem?_map,Option.map_eq_some_iff]at hj;obtain⟨bI,ab,rfl⟩:=hj;rw [nG _ (by omega),show off+(j-off)=j by omega]at ab
   exact⟨bI,ab,rfl,λU gt=>by cases gt⟩
  ·rw [if_neg hi]at hj;refine⟨aZ,hj,rfl,λU gt=>⟨gt,λx hx V9=>?_⟩⟩
   rw [nF]at hx;obtain⟨_,e,ah,_⟩:=ue _ 0 x hx;rw [Nat.sub_zero]at ah;have cJ:x.1<aE.size:=by rw [←i7];exact(List.getElem?_eq_some_iff.1 ah).1
   omega) l0
 refine .inl ⟨.agg ⟨(vs.drop off).take aE.size⟩,w,?_,M,β,Mem.le_refl _,λ_ _ h=>h,λ_ _ h=>.inl h,(hD (.slot 0)).1,λe1 mW=>?_⟩
 ·simp only [execOp,aw];rw [az];exact hE _ ec
 ·cases mW;refine⟨?_,λT l0 aO=>?_⟩
  ·refine si (by simp;omega) (λv az=>fL v (List.mem_of_mem_drop (List.mem_of_mem_take az))) (λi v c az hc=>?_)
   rw [List.getElem?_map,Option.map_eq_some_iff]at hc;obtain⟨e,he,rfl⟩:=hc;rw [List.getElem?_take]at az he;split at az
   ·rename_i hi;rw [if_pos hi,List.getElem?_drop]at he;rw [List.getElem?_drop]at az;have:=h.bj.ew (.cell q (off+i)) e (by simp [aF.at,aP,he])
    simpa [bZ,hb,cell_of_heap bu,az]using this
   ·cases az
  ·cases aO;exact(hD l0).2
def V'(h:e0 P K N M β g tmps w)(hp:fa tmps p)(b0:eJ P tt=true){t:TypeId}{aE:dZ}(ag:look tt t=some aE){a:Operand}{u:Nat}(aw:o.op = .store t a (.tmp u)){q off:Nat}(ha:rd g.env g.bN p tt o.type a=some (.ptr q off))
 {cs:List aR} (aP:look g.H q=some cs) {d:D} (hx:rd g.env g.bN p tt t (.tmp u)=some d) (cc:nx d=false) (nC:ol (cellsD d)=true) (hs:(cellsD d).length=aE.size) (hle:off+aE.size≤cs.length)
 (gq:AH d=true) {sn:aR} {s:TypeId} (qu:look g.env u=some sn) (aO:sn.own=some s) (mi:∀x,x∈marks s→x.1<aE.size) {rs:List eT}:
 Yields P K M β g {e:=none,f8:=[u],hs:=[(q,setAt cs off (mP (marks s) 0 (cellsD d)))],rs} o tmps w:=by
 obtain⟨r⟩:=dR b0 ag;obtain⟨b,hb,az⟩:=mf (dz (ds:=[]) h hp ha);obtain⟨bF,vs,T,bH,bu,hlen,_,_,fL,iX⟩:=h.bj.box q cs aP;rw [hb]at bH;cases bH;have fi:=dz (ds:=[]) h hp hx;obtain⟨us,Bj⟩:=V7 fi gq;obtain⟨ab,ah,ay⟩:=fi.cells cc;rw [Bj]at ab ah ay;have xo:(Value.agg ⟨us⟩).cells.toList=us:=rfl;rw [xo]at ah
 have nE:us.length=aE.size:=by
  have:(Value.agg ⟨us⟩).cells.toList.length=(cellsD d).length:=by simpa using ab
  rw [xo]at this;omega
 have ec:=Bd (P:=P) r (off:=off) bu (v:=.agg ⟨us⟩) nE ah (by omega)
 rw [xo,←nE]at ec;have jp:=lq cs off ((cellsD d).map λd=>({d}:aR)) (by simp;omega)
 have Bk:=Jv (marks s) (cellsD d) 0;have Jw:=lq cs off (mP (marks s) 0 (cellsD d)) (by rw [Bk.1];omega)
 have nD:=setRow_heap w b _ (vs.take off++us++vs.drop (off+us.length)).toArray T (0,0) bu
 have V_:bB P K M β {env:=g.env,H:=(q,setAt cs off ((cellsD d).map λd=>{d}))::g.H,aT:=g.aT} tmps (w.setRow b (vs.take off++us++vs.drop (off+us.length)).toArray):=by
  refine h.bj.w_ aP hb bu (vs':=vs.take off++us++vs.drop (off+us.length)) (by rw [qs (by omega),jp.1,hlen]) (Be fL ah) (λ_=>by
   rw [qs (by omega)]
   refine iX.set (λe he=>?_) (by simp;omega)
   obtain⟨c,hc,rfl⟩:=List.mem_map.1 he;exact tZ nC c hc) jp.1 nD (λbF dF=>setRow_other w b bF _ dF) cs.length (λi v e d9 hG=>?_)
  rw [uc (by omega)]at d9
  rw [jp.2]at hG;simp only [List.length_map]at hG;by_cases hi:off≤i∧i<off+aE.size
  ·rw [if_pos (by omega)]at d9
   rw [if_pos (by omega),List.getElem?_map,Option.map_eq_some_iff]at hG
   obtain⟨c,hc,rfl⟩:=hG;exact⟨ay _ v c (by rw [xo];exact d9) hc,by simp⟩
  ·rw [if_neg (by omega)]at d9
   rw [if_neg (by omega)]at hG
   have V5:i<cs.length:=(List.getElem?_eq_some_iff.1 hG).1;refine⟨?_,λT aO=>.inl ⟨by omega,⟨e,hG,aO⟩,d9⟩⟩
   have:=h.bj.ew (.cell q i) e (by simp [aF.at,aP,hG])
   simpa [bZ,hb,cell_of_heap bu,d9]using this
 have Wa:=V_.V6 (s:=u) (r:=q) (off:=off) (T:=s) (us:=us) (cs:=setAt cs off ((cellsD d).map λd=>{d})) (cs':=setAt cs off (mP (marks s) 0 (cellsD d))) qu aO Bj (by simp [dd]) (λx hx=>by
  have cJ:=mi x hx
  have:(vs.take off++us++vs.drop (off+us.length))[off+x.1]? = us[x.1]? := by
   rw [uc (by omega),if_pos (by omega)];congr 1;omega
  simp only [bZ,hb,cell_of_heap nD,this];simp [Array.getD_eq_getD_getElem?]) (by rw [Jw.1,jp.1]) (λx hx c hc=>by
  have cJ:=mi x hx;have bl:(Array.mk us).getD x.1 undef=us[x.1]'(by omega):=by simp [Array.getD_eq_getD_getElem?,List.getElem?_eq_getElem (show x.1<us.length by omega)]
  have bQ:=ah (us[x.1]'(by omega)) (List.getElem_mem _)
  rw [bl]at hc;rw [hc]at bQ;cases bQ) (λj aZ hj=>by
  rw [Jw.2,Bk.1]at hj;rw [jp.2,List.length_map];by_cases hi:off≤j∧j<off+(cellsD d).length
  ·rw [if_pos hi,Bk.2,Option.map_eq_some_iff]at hj;obtain⟨c,hc,rfl⟩:=hj;refine⟨{d:=c},by rw [if_pos hi,List.getElem?_map,hc];rfl,rfl,λU gt=>.inr ?_⟩
   simp only [Nat.zero_add]at gt;obtain⟨x,hx,bQ,df⟩:=Ju gt;exact⟨x,hx,by omega,df⟩
  ·rw [if_neg hi]at hj;exact⟨aZ,by rw [if_neg hi];exact hj,rfl,λU gt=>.inl gt⟩)
 refine .inr (.inl ⟨rfl,_,Bf aw Bj az ec,M,β,Mem.le_refl _,λ_ _ h=>h,λ_ _ h=>.inl h,?_,λe he=>by cases he⟩)
 refine Wa.sub rfl (λl aZ cx=>⟨aZ,?_,rfl,λ_ h=>h⟩) (λr cs' aj=>⟨cs',?_,rfl⟩)
 ·cases l with
  |slot ow=>exact cx
  |cell ct j=>
   simp only [aF.at,after,List.cons_append,List.nil_append,dd]at cx ⊢;by_cases lr:q=ct
   ·simpa [lr]using cx
   ·simpa [lr]using cx
 ·simp only [after,List.cons_append,List.nil_append,dd]at aj ⊢;by_cases lr:q=r
  ·simpa [lr]using aj
  ·simpa [lr]using aj
end
end Go.Ab

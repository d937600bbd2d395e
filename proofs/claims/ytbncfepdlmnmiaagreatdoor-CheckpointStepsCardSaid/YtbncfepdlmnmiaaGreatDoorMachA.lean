/- The abstract machine: a step of code over plain data, proved against the model. -/
import Derived.Orders
import Derived.KernelRfl
import Derived.Laws.Sem
import Derived.Laws.Entries
import Derived.ChangeKeysEq
import Derived.Laws.Cells
import Derived.Laws.CopyRow
import Derived.Laws.Slices
import Derived.Laws.Strings2
import Derived.Deep.AppendSrc
set_option linter.all false
namespace Go.Ab
abbrev ajK:=List UInt8
inductive V where
 |int (k:IntKind) (n:Int)
 |bool (b:Bool)
 |str (s:ajK)
 |agg (cs:List V)
 |bC (k n:Nat) (get:Nat→V)
 |iface (t:TypeId) (x:V)
 |eb |gN |aM
 |any
 |lS (k:Nat) (get:Nat→V)
def V.cells:V→List V
 |.agg cs=>cs
 |x=>[x]
inductive D where
 |v (x:V)
 |ptr (r off:Nat)
 |cn (r off:Nat) (u:TypeId)
 |eB (x:V)
 |full (k n:Nat) (get:Nat→V)
 |fn (f:FuncId) (eK:List D)
 |agg (cs:List D)
 |cf (cs:List D)
structure aS where
 d:D
 own:Option TypeId:=none
structure aF where
 env:List (Nat×aS)
 H:List (Nat×List aS)
 aU:Nat
inductive jW where
 |int (k:IntKind) |bool |str
 |b0 (cu:List (Nat×TypeId×Nat))
 |bC (e:TypeId) |arr (n:Nat) (e:TypeId) |ptr |aT |lT
deriving DecidableEq
structure ef where
 k:jW
 size:Nat
 bytes:Nat
 zero:List V
 h2:List (Nat×TypeId):=[]
abbrev dr:=List (TypeId×ef)
def look{α:Type}:List (Nat×α)→Nat→Option α
 |[],_=>none
 |(j,x)::l,i=>bif Nat.beq j i then some x else look l i
def del{α:Type}:List (Nat×α)→Nat→List (Nat×α)
 |[],_=>[]
 |(j,x)::l,i=>bif Nat.beq j i then del l i else(j,x)::del l i
def jW.isAgg:jW→Bool
 |.b0 _ |.arr _ _=>true
 |_=>false
abbrev Path:=List (Nat×Bool)
def Path.has(p:Path)(x:Nat×Bool):Bool:=p.any λy=>Nat.beq y.1 x.1&&(y.2 == x.2)
def Path.sub(q p:Path):Bool:=q.all p.has
inductive Out where
 |ret (d:D) (own:Option TypeId)
 |be (x:V)
inductive eR where
 |val (x:V)
 |raw
 |own
 |marks (c:Nat)
 |call (o:Out) (H:Option (List (List aS))) (os:List Nat)
def aP(i:Int)(n:Nat):Bool:=decide (0≤i)&&decide (i<n)
def gb(i:Int)(n:Nat):Bool:=decide (0≤i)&&decide (i≤n)
def np(a b:Int)(n:Nat):Bool:=decide (0≤a)&&(decide (a≤b)&&decide (b≤n))
def oZ(a:Int):Bool:=!decide (a=0)
def room(n b:Nat):Bool:=decide (n*b≤140737488355328)
def b3(n:Nat):Bool:=decide (n≤9223372036854775807)
structure db where
 env:List (Nat×aS)
 bV:List (Nat×Path×D)
 H:List (Nat×List aS)
 aU:Nat
 rs:List eR
 a6:List Prop
 ids:List (Nat×Nat):=[]
def BG:Value→Option V
 |.int k n=>some (.int k n)
 |.bool b=>some (.bool b)
 |.string s=>some (.str s.data.toList)
 |.pointer none=>some .eb
 |.nilIface=>some .gN
 |.nilFunc=>some .aM
 |_=>none
def rd(env:List (Nat×aS))(bV:List (Nat×Path×D))(p:Path)(tt:dr)(ty:TypeId):Operand→Option D
 |.tmp t=>match look bV t with
  |some (q,d)=>bif q.sub p then some d else none
  |none=>(look env t).map (·.d)
 |.const (.slice none 0 0)=>match look tt ty with
  |some {k:=.bC _,zero:=[.bC k 0 get],..}=>some (.v (.bC k 0 get))
  |_=>none
 |.const v=>(BG v).map .v
 |.func f=>some (.fn f [])
 |.global _=>none
def jJ(f:TypeId→Operand→Option D):List Operand→List TypeId→Option (List D)
 |[],_=>some []
 |x::xs,t::ts=>match f t x,jJ f xs ts with
  |some d,some ds=>some (d::ds)
  |_,_=>none
 |_::_,[]=>none
def ub:List D→Option (List V)
 |[]=>some []
 |.v x::l=>(ub l).map (x :: ·)
 |_::_=>none
def kj(cs:List D):D:=match ub cs with|some vs=>.v (.agg vs)|none=>.agg cs
def cellsD:D→List D
 |.v x=>x.cells.map .v
 |.agg cs=>cs
 |d=>[d]
def n5:List D→Bool
 |[]=>true
 |.cn _ _ _::_=>false
 |_::l=>n5 l
def nq:D→Bool
 |.cf _=>true
 |_=>false
def setAt{α:Type}:List α→Nat→List α→List α
 |cs,0,[]=>cs
 |_::cs,0,x::xs=>x::setAt cs 0 xs
 |c::cs,n+1,xs=>c::setAt cs n xs
 |[],_,_=>[]
def n6(place:Nat→Option (Nat×Nat))(cells:List D):List (Nat×D)→Option (List D)
 |[]=>some cells
 |(i,d)::rest=>match place i with
  |none=>none
  |some (off,size)=>
   bif Nat.beq (cellsD d).length size&&Nat.ble (off+size) cells.length && !nq d then n6 place (setAt cells off (cellsD d)) rest else none
abbrev Mem:=Nat→Nat→Option Value
def Mem.le(M M':Mem):Prop:=∀b o v,M b o=some v→M' b o=some v
def Mem.le_refl(M:Mem):M.le M:=λ_ _ _ h=>h
def Mem.le_trans{A B C:Mem}(h:A.le B)(dk:B.le C):A.le C:=λb o v e=>dk b o v (h b o v e)
inductive dc(M:Mem):Value→V→Prop where
 |int (k:IntKind) (n:Int):dc M (.int k n) (.int k n)
 |bool (b:Bool):dc M (.bool b) (.bool b)
 |str (l:ajK):dc M (.string ⟨⟨l⟩⟩) (.str l)
 |agg (vs:List Value) (cs:List V) (hn:vs.length=cs.length) (ab:∀v,v∈vs→v.oneCell'=true)
  (h:∀(i:Nat) v c,vs[i]? = some v→cs[i]? = some c→dc M v c):dc M (.agg ⟨vs⟩) (.agg cs)
 |jK (k:Nat) (get:Nat→V):dc M (.slice none 0 0) (.bC k 0 get)
 |lU (a:Addr) (k:Nat) (get:Nat→V):dc M (.slice (some a) 0 0) (.bC k 0 get)
 |bC (b off k n cap:Nat) (get:Nat→V) (val:Nat→Nat→Value) (hc:n≤cap)
  (hk:∀i,i<n→(get i).cells.length=k)
  (cX:∀i j,i<n→j<k→M b (off+i*k+j)=some (val i j)) (ab:∀i j,i<n→j<k→(val i j).oneCell'=true)
  (h:∀(i j:Nat) c,i<n→(get i).cells[j]? = some c→dc M (val i j) c):dc M (.slice (some ⟨b,off,none⟩) n cap) (.bC k n get)
 |iface (t:TypeId) (v:Value) (x:V) (h:dc M v x):dc M (.iface t v) (.iface t x)
 |eb:dc M (.pointer none) .eb
 |gN:dc M .nilIface .gN
 |aM:dc M .nilFunc .aM
 |any (v:Value) (ab:v.oneCell'=true):dc M v .any
 |lS (k:Nat) (get:Nat→V):dc M (.slice none 0 0) (.lS k get)
def f0(raw x:V):Prop:=∀(M:Mem) (v:Value),dc M v raw→dc M v x
def r2(k:IntKind)(a b:Int):Int:=k.wrap (BitVec.ofInt k.bits a &&& BitVec.ofInt k.bits b).toNat
def r3(k:IntKind)(a b:Int):Int:=k.wrap (BitVec.ofInt k.bits a |||BitVec.ofInt k.bits b).toNat
def uc(k:IntKind)(a b:Int):Int:=k.wrap (BitVec.ofInt k.bits a ^^^ BitVec.ofInt k.bits b).toNat
def BH(k:IntKind)(a b:Int):Int:=k.wrap (BitVec.ofInt k.bits a &&& ~~~BitVec.ofInt k.bits b).toNat
def r4(k:IntKind)(x y:Int):Int:=k.wrap (x*2 ^ min y.toNat k.bits)
def r5(k:IntKind)(x y:Int):Int:=x.fdiv (2 ^ min y.toNat k.bits)
def mw(y:Int):Bool:=decide (0≤y)
def BI(op:BinOp)(k:IntKind)(x y:Int):Option (V×List Prop):=
 match op with
 |.shl=>some (.int k (r4 k x y),[mw y=true])
 |.shr=>some (.int k (r5 k x y),[mw y=true])
 |_=>none
def BJ(op:BinOp)(k:IntKind)(a b:Int):Option (V×List Prop):=
 match op with
 |.add=>some (.int k (k.wrap (a+b)),[])
 |.sub=>some (.int k (k.wrap (a-b)),[])
 |.mul=>some (.int k (k.wrap (a*b)),[])
 |.quo=>some (.int k (k.wrap (a.tdiv b)),[oZ b=true])
 |.rem=>some (.int k (a.tmod b),[oZ b=true])
 |.eql=>some (.bool (decide (a=b)),[])
 |.neq=>some (.bool (!decide (a=b)),[])
 |.lss=>some (.bool (decide (a<b)),[])
 |.leq=>some (.bool (decide (a≤b)),[])
 |.gtr=>some (.bool (decide (b<a)),[])
 |.geq=>some (.bool (decide (b≤a)),[])
 |.and=>some (.int k (r2 k a b),[])
 |.or=>some (.int k (r3 k a b),[])
 |.xor=>some (.int k (uc k a b),[])
 |.andNot=>some (.int k (BH k a b),[])
 |_=>none
def BK(op:BinOp)(a b:ajK):Option (V×List Prop):=
 match op with
 |.add=>some (.str (a++b),[b3 (a.length+b.length)=true])
 |.eql=>some (.bool (decide (a=b)),[])
 |.neq=>some (.bool (!decide (a=b)),[])
 |.lss=>some (.bool (Op.bytesLess a b),[])
 |.leq=>some (.bool (Op.bytesLess a b||decide (a=b)),[])
 |.gtr=>some (.bool (!(Op.bytesLess a b||decide (a=b))),[])
 |.geq=>some (.bool (!Op.bytesLess a b),[])
 |_=>none
def isNil:jW→D→Option Bool
 |.ptr,.v .eb=>some true
 |.ptr,.ptr _ _=>some false
 |.ptr,.eB _=>some false
 |.lT,.v .gN=>some true
 |.lT,.v (.iface _ _)=>some false
 |.aT,.v .aM=>some true
 |.aT,.fn _ _=>some false
 |_,_=>none
def xw:jW→D→Bool
 |.ptr,.v .eb=>true
 |.lT,.v .gN=>true
 |.aT,.v .aM=>true
 |_,_=>false
def hB:List (Option jW)→List V→List V→Option Bool
 |[],[],[]=>some true
 |some (.int _)::ks,.int k a::l,.int k' b::m=>bif decide (k=k') then(hB ks l m).map λr=>decide (a=b)&&r else none
 |some .str::ks,.str a::l,.str b::m=>(hB ks l m).map λr=>decide (a=b)&&r
 |some .bool::ks,.bool a::l,.bool b::m=>(hB ks l m).map λr=>(a == b)&&r
 |_,_,_=>none
def kl(tt:dr):Nat→List (Nat×TypeId×Nat)→List (Option jW)
 | 0,cu=>cu.map λf=>(look tt f.2.1).map (·.k)
 |d+1,cu=>cu.flatMap λf=>match look tt f.2.1 with
  |some {k:=.b0 gs,..}=>kl tt d gs
  |o=>[o.map (·.k)]
def Kf(k:Option jW)(WI:Bool)(op:BinOp)(a b:D):Option (V×List Prop):=
 match a,b with
 |.v (.int k x),.v (.int k' y)=>match BI op k x y with
  |some z=>some z
  |none=>bif decide (k=k')then BJ op k x y else none
 |.v (.str x),.v (.str y)=>BK op x y
 |.v (.bool x),.v (.bool y)=>match k,op with
  |some .bool,.eql=>some (.bool (x == y),[])
  |some .bool,.neq=>some (.bool (!(x == y)),[])
  |_,_=>none
 |a,b=>match k with
  |some k=>bif xw k b&&WI then match isNil k a,op with
   |some t,.eql=>some (.bool t,[])
   |some t,.neq=>some (.bool (!t),[])
   |_,_=>none
   else none
  |none=>none
def isConst:Operand→Bool
 |.const _=>true
 |_=>false
def Kg(op:UnOp)(a:V):Option V:=
 match op,a with
 |.not,.bool b=>some (.bool (!b))
 |.neg,.int k n=>some (.int k (k.wrap (0-n)))
 |_,_=>none
def ud(env:List (Nat×aS))(bV:List (Nat×Path×D))(t:Nat):Option Bool:=
 match look bV t with
 |some (_,.v (.bool b))=>some b
 |some _=>none
 |none=>match look env t with
  |some ⟨.v (.bool b),_⟩=>some b
  |_=>none
def under(g:db):Path→Prop→Prop
 |[],q=>q
 |(t,w)::p,q=>match ud g.env g.bV t with
  |some b=>b=w→under g p q
  |none=>under g p q
structure jl where
 e:Option aS
 f5:List Nat:=[]
 hs:List (Nat×List aS):=[]
 e4:Nat:=0
 rs:List eR
 a6:List Prop:=[]
def lV(g:db):Operand→Option TypeId
 |.tmp t=>(look g.env t).bind (·.own)
 |_=>none
def WJ(t:Nat)(o:Oper):Bool:=
 match o.op with
 |.assign (.tmp u)=>Nat.beq u t
 |.store _ _ (.tmp u)=>Nat.beq u t
 |.call {callee:=.builtin .append,args,..}=>match args.toList with
  |.tmp u::_=>Nat.beq u t
  |_=>false
 |_=>false
def WK(ops:List Oper)(dst:Option Nat):Bool:=
 match dst with
 |some t=>ops.any (WJ t)
 |none=>false
def refs:D→List Nat
 |.ptr r _=>[r]
 |.cn r _ _=>[r]
 |.fn _ eK=>eK.flatMap fun |.ptr r _=>[r] |_=>[]
 |.agg cs=>cs.flatMap fun |.ptr r _=>[r] |.cn r _ _=>[r] |.fn _ eK=>(eK.flatMap fun |.ptr r _=>[r] |_=>[]) |_=>[]
 |_=>[]
def idx(l:List Nat)(r:Nat):Option Nat:=
 match l with
 |[]=>none
 |x::l=>bif Nat.beq x r then some 0 else(idx l r).map (· + 1)
def dedup:List Nat→List Nat
 |[]=>[]
 |x::l=>bif (dedup l).any (Nat.beq x)then dedup l else x::dedup l
mutual
def ec(f:Nat→Option Nat):D→Option D
 |.v x=>some (.v x)
 |.ptr r off=>(f r).map (.ptr · off)
 |.cn r off u=>(f r).map (.cn · off u)
 |.eB x=>some (.eB x)
 |.full k n get=>some (.full k n get)
 |.fn g eK=>(jm f eK).map (.fn g)
 |.agg cs=>(jm f cs).map .agg
 |.cf cs=>(jm f cs).map .cf
def jm(f:Nat→Option Nat):List D→Option (List D)
 |[]=>some []
 |d::l=>match ec f d,jm f l with
  |some dT,some cz=>some (dT::cz)
  |_,_=>none
end
def xx(f:Nat→Option Nat)(e:aS):Option aS:=(ec f e.d).map λd=>{d,own:=e.own}
def kI(f:Nat→Option Nat):List aS→Option (List aS)
 |[]=>some []
 |e::l=>match xx f e,kI f l with
  |some aZ,some cz=>some (aZ::cz)
  |_,_=>none
def ih(f:Nat→Option Nat):List (List aS)→Option (List (List aS))
 |[]=>some []
 |b::l=>match kI f b,ih f l with
  |some bM,some cz=>some (bM::cz)
  |_,_=>none
def boxes(H:List (Nat×List aS)):List Nat→Option (List (List aS))
 |[]=>some []
 |r::l=>match look H r,boxes H l with
  |some b,some bs=>some (b::bs)
  |_,_=>none
def cQ{α:Type}:Nat→List α→List (Nat×α)
 |_,[]=>[]
 |n,x::l=>(n,x)::cQ (n+1) l
def jn:List Nat→List (List aS)→List (Nat×List aS)
 |r::l,b::bs=>(r,b)::jn l bs
 |_,_=>[]
def mapM'{α β:Type}(f:α→Option β):List α→Option (List β)
 |[]=>some []
 |x::l=>match f x,mapM' f l with
  |some y,some ys=>some (y::ys)
  |_,_=>none
structure fN where
 call:FuncId→List D→List (Nat×TypeId)→List (List aS)→Out→List (List aS)→Prop
 eq:TypeId→Bool
inductive lk where
 |go (e:jl)
 |be (x:V) (hs:List (Nat×List aS)) (a6:List Prop)
def lW(H:List (Nat×List aS)):Nat→List Nat→List Nat
 | 0,l=>l
 |n+1,l=>lW H n (dedup (l++l.flatMap λr=>((look H r).getD []).flatMap λe=>refs e.d))
def kJ:List Nat→Bool
 |[]=>true
 |x::l=>!l.any (Nat.beq x)&&kJ l
def handed(tt:dr)(g:db)(xs:List Operand)(ts:List TypeId):List Nat→Option (List (Nat×Option Nat×TypeId))
 |[]=>some []
 |i::os=>match xs[i]?,handed tt g xs ts os with
  |some (.tmp t),some l=>match look g.env t with
   |some ⟨_,some e⟩=>bif (look g.bV t).isNone&&l.all (λx=>!(match x.2.1 with |some u=>Nat.beq u t |none=>false) && !Nat.beq x.1 i)then some ((i,some t,e)::l)else none
   |_=>none
  |some (.const (.slice none 0 0)),some l=>match(ts[i]?).bind (look tt) with
   |some {k:=.bC e,..}=>bif l.all (λx=>!Nat.beq x.1 i)then some ((i,none,e)::l)else none
   |_=>none
  |_,_=>none
def r6(cd:fN)(tt:dr)(g:db)(p:Path)(xs:List Operand)(ts:List TypeId)(f:FuncId)(args:List D):Option lk:=
 let ρ:=lW g.H 2 (dedup (args.flatMap refs))
 match g.rs with
 |.call out cw os::rs=>
  match jm (idx ρ) args,(boxes g.H ρ).bind (ih (idx ρ)),handed tt g xs ts os with
  |some h3,some H1,some hd=>bif !kJ ρ || !(p.isEmpty||os.isEmpty)then none else
   let dX:=hd.map λx=>(x.1,x.2.2)
   let f5:=hd.filterMap λx=>x.2.1
   match out,cw with
   |.ret d own,none=>(ec (λj=>ρ[j]?) d).map λdT=>.go {e:=some {d:=dT,own},f5,rs,a6:=[cd.call f h3 dX H1 out H1]}
   |.ret d own,some cw=>match ec (λj=>ρ[j]?) d,ih (λj=>ρ[j]?) cw with
    |some dT,some hh=>bif Nat.beq cw.length ρ.length then some (.go {e:=some {d:=dT,own},f5,hs:=jn ρ hh,rs,a6:=[cd.call f h3 dX H1 out cw]})else none
    |_,_=>none
   |.be x,none=>some (.be x [] [cd.call f h3 dX H1 out H1])
   |.be x,some cw=>match ih (λj=>ρ[j]?) cw with
    |some hh=>bif Nat.beq cw.length ρ.length then some (.be x (jn ρ hh) [cd.call f h3 dX H1 out cw])else none
    |none=>none
  |_,_,_=>none
 |_=>none
def xy:V→Option TypeId→Option TypeId
 |.bC _ _ _,t=>t
 |_,_=>none
def Kh(tt:dr):Nat→List (Nat×TypeId×Nat)→Nat→Option TypeId
 | 0,_,_=>none
 |d+1,cu,j=>match cu.find? λf=>Nat.ble f.1 j&&Nat.blt j (f.1+f.2.2) with
  |some f=>match look tt f.2.1 with
   |some {k:=.bC e,..}=>some e
   |some {k:=.b0 gs,..}=>Kh tt d gs (j-f.1)
   |_=>none
  |none=>none
def xz(tt:dr):jW→Nat→Option TypeId
 |.b0 cu,j=>Kh tt 5 cu j
 |.bC e,0=>some e
 |_,_=>none
def Ki(tt:dr)(h2:List (Nat×TypeId))(k:jW)(i:Nat):Option TypeId:=
 match xz tt k i with
 |some e=>some e
 |none=>(h2.find? λy=>Nat.beq (y.1+1) i).bind λy=>match look tt y.2 with |some {k,..}=>xz tt k 1 |none=>none
def ue(h2:List (Nat×TypeId))(id i:Nat)(x:V):D:=
 match x with
 |.eb=>match h2.find? λy=>Nat.beq y.1 i with
  |some y=>.cn id i y.2
  |none=>.v x
 |_=>.v x
def xA(tt:dr)(t:TypeId)(id:Nat):Option (List aS):=
 match look tt t with
 |some {k:=.bC e,zero,..}=>some (zero.map λx=>{d:=.v x,own:=xy x (some e)})
 |some {k:=.b0 cu,zero,h2,..}=>some ((cQ 0 zero).map fun(i,x)=>
  {d:=ue h2 id i x,own:=xy x (Ki tt h2 (.b0 cu) i)})
 |some {zero,..}=>some (zero.map λx=>{d:=.v x})
 |none=>none
def V.isAgg:V→Bool
 |.agg _=>true
 |_=>false
def BL:V→V
 |.bC k 0 g=>.lS k g
 |x=>x
def mx(ty:Nat→Option TypeId):Nat→List aS→List aS
 |_,[]=>[]
 |i,e::l=>(match e.d with
  |.v (.lS k g)=>{d:=.v (.bC k 0 g),own:=ty i}
  |_=>e)::mx ty (i+1) l
def elems(isAgg:Bool)(size:Nat):Nat→List (Nat×D)→Option (List V)
 |_,[]=>some []
 |i,(j,.v x)::cx=>bif Nat.beq i j&&Nat.beq x.cells.length size&&(x.isAgg == isAgg) then(elems isAgg size (i+1) cx).map (x :: ·)else none
 |_,_=>none
def n7(tt:dr)(t:TypeId)(i:Nat):TypeId:=
 match look tt t with
 |some {k:=.b0 cu,..}=>match cu[i]? with
  |some f=>f.2.1
  |none=>0
 |some {k:=.arr _ e,..}=>e
 |some {k:=.bC e,..}=>e
 |_=>0
def r7(tt:dr)(aD:ef)(id i:Nat)(d:D):aS:=
 match d with
 |.v .eb=>{d:=ue aD.h2 id i .eb}
 |.v (.lS k g)=>match Ki tt aD.h2 aD.k i with
  |some T=>{d:=.v (.bC k 0 g),own:=some T}
  |none=>{d}
 |d=>{d}
def nr(tt:dr)(aD:ef)(id:Nat):Nat→List D→List aS
 |_,[]=>[]
 |i,d::l=>r7 tt aD id i d::nr tt aD id (i+1) l
def ll(g:db)(o:Oper):Option (Nat×Nat):=
 match o.dst.bind (look g.ids) with
 |some id=>bif (look g.H id).isNone&&Nat.blt id g.aU then some (id,0)else none
 |none=>some (g.aU,1)
def Kj:Nat→Nat→List (Nat×TypeId)
 | 0,_=>[]
 |f+1,c=>bif Nat.beq c 0 then[] else((c % 1000000-1) / 1000,(c % 1000000-1) % 1000)::Kj f (c / 1000000)
def marks(T:Nat):List (Nat×TypeId):=Kj 8 (T / 1000000)
def marksOf:Nat→List aS→List (Nat×TypeId)
 |_,[]=>[]
 |i,e::l=>match e.own with
  |some T=>(i,T)::marksOf (i+1) l
  |none=>marksOf (i+1) l
def o0:List (Nat×TypeId)→List (Nat×TypeId)→Bool
 |[],[]=>true
 |x::l,y::m=>Nat.beq x.1 y.1&&Nat.beq x.2 y.2&&o0 l m
 |_,_=>false
def r8:List (Nat×TypeId)→Nat→Option TypeId
 |[],_=>none
 |x::l,i=>bif Nat.beq x.1 i then some x.2 else r8 l i
def BM:D→Bool
 |.v (.agg _)=>true
 |.agg _=>true
 |_=>false
def my(ms:List (Nat×TypeId)):Nat→List D→List aS
 |_,[]=>[]
 |i,d::l=>{d,own:=r8 ms i}::my ms (i+1) l
def step1(cd:fN)(tt:dr)(ops:List Oper)(g:db)(p:Path)(o:Oper):Option lk:=
 let r:=rd g.env g.bV p tt o.type
 let val (d:Option D):Option lk:=d.map λd=>.go {e:=some {d},rs:=g.rs}
 let uf (x:Option (V×List Prop)):Option lk:=x.map fun(x,a6)=>.go {e:=some {d:=.v x},rs:=g.rs,a6}
 let xB (raw:V) (mk:V→D) (a6:List Prop):Option lk:=match g.rs with
  |.val x::rs=>some (.go {e:=some {d:=mk x},rs,a6:=f0 raw x::a6})
  |.raw::rs=>some (.go {e:=some {d:=mk raw},rs,a6:=a6})
  |_=>none
 match o.op with
 |.move x=>match r x with
  |some d=>match lV g x,x with
   |some e,.tmp t=>match g.rs with
    |.own::rs=>bif p.isEmpty then some (.go {e:=some {d,own:=some e},f5:=[t],rs})else none
    |_=>bif p.isEmpty&&WK ops o.dst then some (.go {e:=some {d,own:=some e},f5:=[t],rs:=g.rs})else some (.go {e:=some {d},rs:=g.rs})
   |_,_=>some (.go {e:=some {d},rs:=g.rs})
  |none=>none
 |.assign x=>match r x with
  |some d=>match lV g x,x with
   |some e,.tmp t=>bif p.isEmpty then some (.go {e:=some {d,own:=some e},f5:=[t],rs:=g.rs})else some (.go {e:=some {d},rs:=g.rs})
   |_,.const (.slice none 0 0)=>match look tt o.type with
    |some {k:=.bC e,..}=>bif p.isEmpty then some (.go {e:=some {d,own:=some e},rs:=g.rs})else some (.go {e:=some {d},rs:=g.rs})
    |_=>none
   |_,_=>some (.go {e:=some {d},rs:=g.rs})
  |none=>none
 |.pick (.tmp c) a b=>match r (.tmp c),rd g.env g.bV ((c,true)::p) tt o.type a,rd g.env g.bV ((c,false)::p) tt o.type b with
  |some (.v (.bool o1)),some (.v (.bool ug)),some (.v (.bool p6))=>val (some (.v (.bool (bif o1 then ug else p6))))
  |_,_,_=>none
 |.alloc t=>match ll g o with
  |some (id,e4)=>match xA tt t id with
   |some z=>some (.go {e:=some {d:=.ptr id 0},hs:=[(id,z)],e4,rs:=g.rs})
   |none=>none
  |none=>none
 |.box t x=>match r x,ll g o,look tt t with
  |some d,some (id,e4),some aD=>bif nq d || !n5 (cellsD d) || !Nat.beq (cellsD d).length aD.size then none else some (.go {e:=some {d:=.ptr id 0},hs:=[(id,nr tt aD id 0 (cellsD d))],e4,rs:=g.rs})
  |_,_,_=>none
 |.build t parts=>match look tt t,mapM' (fun(i,x)=>(rd g.env g.bV p tt (n7 tt t i) x).map λd=>(i,d)) parts.toList with
  |some {k:=.b0 cu,zero,..},some cx=>bif cu.all (λf=>Nat.ble 1 f.2.2)then match g.rs with
   |.own::rs=>((n6 (λi=>(cu[i]?).map λf=>(f.1,f.2.2)) (zero.map λx=>.v (BL x)) cx).map kj).map λd=>.go {e:=some {d},rs}
   |_=>val ((n6 (λi=>(cu[i]?).map λf=>(f.1,f.2.2)) (zero.map .v) cx).map kj)
   else none
  |some {k:=.arr _ e,zero,..},some cx=>match look tt e with
   |some {size,..}=>val ((n6 (λi=>some (i*size,size)) (zero.map .v) cx).map kj)
   |none=>none
  |_,_=>none
 |.buildSlice t len parts=>match look tt t,mapM' (fun(i,x)=>(rd g.env g.bV p tt (n7 tt t i) x).map λd=>(i,d)) parts.toList with
  |some {k:=.bC e,..},some cx=>match look tt e with
   |some {k,size,..}=>
    match elems k.isAgg size 0 cx,g.rs with
    |some xs,.val x::rs=>bif Nat.ble (len*size) 16777216&&Nat.ble 1 size&&Nat.beq xs.length len then some (.go {e:=some {d:=.v x,own:=some e},rs,a6:=[f0 (.bC size len λi=>xs.getD i .eb) x]})else none
    |_,_=>none
   |none=>none
  |_,_=>none
 |.load t a=>match r a,look tt t with
  |some (
   .ptr q off),some aD=>match look g.H q with
   |some cs=>bif aD.k.isAgg then
    bif Nat.ble (off+aD.size) cs.length then match g.rs with
     |.marks c::rs=>bif p.isEmpty&&o0 (marks c) (marksOf 0 ((cs.drop off).take aD.size)) then
      some (.go {e:=some {d:=kj (((cs.drop off).take aD.size).map (·.d)),own:=some c},hs:=[(q,setAt cs off (((cs.drop off).take aD.size).map λe=>{d:=e.d}))],rs})else none
     |_=>val (some (kj (((cs.drop off).take aD.size).map (·.d))))else none
    else match cs[off]? with
     |some e=>match e.own,g.rs with
      |some _,.own::rs=>bif p.isEmpty then some (.go {e:=some e,hs:=[(q,setAt cs off [{d:=e.d}])],rs})else none
      |_,_=>val (some e.d)
     |none=>none
   |none=>none
  |some (.eB x),some aD=>bif x.isAgg == aD.k.isAgg&&Nat.beq x.cells.length aD.size then val (some (.v x))else none
  |_,_=>none
 |.store t a x=>match r a,rd g.env g.bV p tt t x,look tt t with
  |some (
   .ptr q off),some d,some aD=>match look g.H q with
   |some cs=>bif Nat.beq (cellsD d).length aD.size&&Nat.ble (off+aD.size) cs.length&&p.isEmpty && !nq d&&n5 (cellsD d) then
    match x,lV g x,d with
    |.tmp u,some s,.v (.bC ..)=>some (.go {e:=none,f5:=[u],hs:=[(q,setAt cs off [{d,own:=some s}])],rs:=g.rs})
    |.const (.slice none 0 0),_,_=>match aD.k with
     |.bC s=>some (.go {e:=none,hs:=[(q,setAt cs off [{d,own:=some s}])],rs:=g.rs})
     |_=>none
    |.tmp u,some s,_=>match g.rs with
     |.marks _::rs=>bif BM d&&((marks s).all λx=>Nat.blt x.1 aD.size)then some (.go {e:=none,f5:=[u],hs:=[(q,setAt cs off (my (marks s) 0 (cellsD d)))],rs})else none
     |_=>some (.go {e:=none,hs:=[(q,mx (λi=>xz tt aD.k (i-off)) 0 (setAt cs off ((cellsD d).map λd=>{d})))],rs:=g.rs})
    |_,_,_=>some (.go {e:=none,hs:=[(q,mx (λi=>xz tt aD.k (i-off)) 0 (setAt cs off ((cellsD d).map λd=>{d})))],rs:=g.rs})
    else none
   |none=>none
  |_,_,_=>none
 |.nilCheck x=>match r x with
  |some (.ptr q off)=>val (some (.ptr q off))
  |some (.eB x)=>val (some (.eB x))
  |_=>none
 |.binOp op t x y _=>match r x,r y with
  |some (.v (.agg xs)),some (.v (.agg ys))=>match look tt t with
   |some {k:=.b0 cu,..}=>bif cd.eq t then match op,hB (kl tt 4 cu) xs ys with
    |.eql,some r=>val (some (.v (.bool r)))
    |.neq,some r=>val (some (.v (.bool (!r))))
    |_,_=>none
    else none
   |_=>none
  |some a,some b=>uf (Kf ((look tt t).map (·.k)) (isConst y) op a b)
  |_,_=>none
 |.unOp op _ x=>match r x with
  |some (.v a)=>val ((Kg op a).map .v)
  |_=>none
 |.convert s t x=>match look tt s,look tt t,r x with
  |some {k:=.int _,..},some {k:=.int k,..},some (.v (.int _ n))=>val (some (.v (.int k (k.wrap n))))
  |some {k:=.str,..},some {k:=.str,..},some (.v (.str s))=>val (some (.v (.str s)))
  |some {k:=.bC e,..},some {k:=.str,..},some (.v (.bC 1 n get))=>match look tt e,g.rs with
   |some {k:=.int .u8,..},.val (.str l)::rs=>some (.go {e:=some {d:=.v (.str l)},rs,a6:=[l.length=n∧∀i,i<n→get i = .int .u8 ((l.getD i 0).toNat:Int)]})
   |_,_=>none
  |_,_,_=>none
 |.makeInterface t x=>match r x,look tt t with
  |some (.v x),some {k,..}=>match k with
   |.lT=>none
   |_=>val (some (.v (.iface t x)))
  |_,_=>none
 |.makeFunc (.func f) first eK=>bif first.isEmpty then(mapM' r eK.toList).map λds=>.go {e:=some {d:=.fn f ds},rs:=g.rs}else none
 |.slice t x lo hi lX=>match lX,look tt t with
  |none,some {k:=.str,..}=>match r x,lo.map r,hi.map r with
   |some (.v (.str s)),none,none=>val (some (.v (.str s)))
   |some (.v (.str s)),some (some (.v (.int _ a))),none=>uf (some (.str (s.drop a.toNat),[gb a s.length=true]))
   |some (.v (.str s)),none,some (some (.v (.int _ b)))=>uf (some (.str (s.take b.toNat),[gb b s.length=true]))
   |some (.v (.str s)),some (some (.v (.int _ a))),some (some (.v (.int _ b)))=>uf (some (.str ((s.take b.toNat).drop a.toNat),[np a b s.length=true]))
   |_,_,_=>none
  |none,some {k:=.bC e,..}=>match look tt e,r x,lo.map r,hi.map r with
   |some {size,..},some (.v (.bC k n get)),some (some (.v (.int _ a))),none=>bif Nat.beq k size then xB (.bC k (n-a.toNat) λi=>get (a.toNat+i)) .v [gb a n=true]else none
   |some {size,..},some (.v (.bC k n get)),none,some (some (.v (.int _ b)))=>bif Nat.beq k size then xB (.bC k b.toNat get) .v [gb b n=true]else none
   |some {size,..},some (.v (.bC k n get)),some (some (.v (.int _ a))),some (some (.v (.int _ b)))=>bif Nat.beq k size then xB (.bC k (b.toNat-a.toNat) λi=>get (a.toNat+i)) .v [np a b n=true]else none
   |some {size,..},some (.v (.bC k n get)),none,none=>bif Nat.beq k size then val (some (.v (.bC k n get)))else none
   |_,_,_,_=>none
  |some _,some {k:=.bC e,..}=>match look tt e,r x,lo,hi.map r,lX.map r with
   |some {size,..},some (.v (.bC k n get)),none,some (some (.v (.int _ b))),some (some (.v (.int _ c)))=>bif Nat.beq k size then some (.go {e:=some {d:=.full k b.toNat get},rs:=g.rs,a6:=[b=c,gb b n=true]})else none
   |_,_,_,_,_=>none
  |_,_=>none
 |.fieldAddr s x f=>match r x,look tt s with
  |some (.ptr q off),some {k:=.b0 cu,..}=>match cu[f]? with
   |some (cL,_,fj)=>bif Nat.ble 1 fj then val (some (.ptr q (off+cL)))else none
   |none=>none
  |some (
   .eB (.agg cs)),some {k:=.b0 cu,..}=>match cu[f]? with
   |some (
    cL,gu,fj)=>match look tt gu with
    |some aD=>bif Nat.ble 1 fj&&Nat.ble (cL+fj) cs.length then
     bif aD.k.isAgg then val (some (.eB (.agg ((cs.drop cL).take fj))))else bif Nat.beq fj 1 then match cs[cL]? with
      |some c=>bif c.isAgg then none else val (some (.eB c))
      |none=>none
     else none
     else none
    |none=>none
   |none=>none
  |_,_=>none
 |.field s x f=>match r x,look tt s with
  |some (
   .v (.agg cs)),some {k:=.b0 cu,..}=>match cu[f]? with
   |some (cL,gu,fj)=>match look tt gu with
    |some aD=>bif Nat.ble (cL+fj) cs.length then bif aD.k.isAgg then val (some (.v (.agg ((cs.drop cL).take fj))))else match cs[cL]? with
     |some c=>val (some (.v c))
     |none=>none
     else none
    |none=>none
   |none=>none
  |some (.agg cs),some {k:=.b0 cu,..}=>match cu[f]? with
   |some (cL,gu,fj)=>match look tt gu,cs[cL]? with
    |some aD,some c=>bif aD.k.isAgg || !Nat.beq fj 1||nq c then none else val (some c)
    |_,_=>none
   |none=>none
  |_,_=>none
 |.indexAddr t x i=>match r x,r i,look tt t with
  |some (.v (.bC k n get)),some (.v (.int _ j)),some {k:=.bC e,..}=>match look tt e with
   |some {size,..}=>bif Nat.beq k size&&Nat.ble 1 size then xB (get j.toNat) .eB [aP j n=true]else none
   |none=>none
  |_,_,_=>none
 |.index t x i=>match r x,r i,look tt t with
  |some (.v (.str s)),some (.v (.int _ j)),some {k:=.str,..}=>uf (some (.int .u8 (s.getD j.toNat 0).toNat,[aP j s.length=true]))
  |_,_,_=>none
 |.typeAssert x _ t ok=>match r x,look tt t with
  |some (.v (.iface h4 y)),some {k,..}=>match k with
   |.lT=>none
   |_=>bif Nat.beq h4 t then val (some (bif ok then .cf [.v y,.v (.bool true)]else .v y))else none
  |_,_=>none
 |.extract x i=>match r x with
  |some (.cf ds)=>val ds[i]?
  |_=>none
 |.call c=>match c.callee with
  |.value x=>match r x,jJ (rd g.env g.bV p tt) c.args.toList c.argTypes.toList with
   |some (.fn f eK),some ds=>r6 cd tt g p c.args.toList c.argTypes.toList f (ds++eK)
   |_,_=>none
  |.builtin .len=>match mapM' (λy=>r y) c.args.toList,(c.argTypes.toList[0]?).bind (look tt) with
   |some [.v (.str s)],some {k:=.str,..}=>val (some (.v (.int .i64 s.length)))
   |some [.v (.bC _ n _)],some {k:=.bC _,..}=>val (some (.v (.int .i64 n)))
   |_,_=>none
  |.builtin .append=>match c.args.toList,(c.argTypes.toList[0]?).bind (look tt),(c.argTypes.toList[1]?).bind (look tt) with
   |[.tmp t,x],some {k:=.bC e,..},some t2=>match look tt e,r (.tmp t),r x,look g.env t,g.rs with
    |some cg,some (.v (.bC k n get)),some d2,some ⟨_,some aZ⟩,.val y::rs=>
     bif Nat.beq e aZ&&Nat.beq k cg.size&&Nat.ble 1 cg.size&&Nat.ble 1 cg.bytes&&p.isEmpty then
      match d2,t2.k with
      |.v (.bC ar m jX),.bC _=>bif Nat.beq ar k then
       some (.go {e:=some {d:=.v y,own:=some e},f5:=[t],rs,a6:=[f0 (.bC k (n+m) λi=>bif Nat.blt i n then get i else jX (i-n)) y,room (n+m) cg.bytes=true]})
       else none
      |.v (.str s),.str=>bif Nat.beq k 1 then
       some (.go {e:=some {d:=.v y,own:=some e},f5:=[t],rs,a6:=[f0 (.bC k (n+s.length) λi=>bif Nat.blt i n then get i else .int .u8 (s.getD (i-n) 0).toNat) y,room (n+s.length) cg.bytes=true]})
       else none
      |_,_=>none
     else none
    |some cg,some (.full k n get),some d2,_,.val y::rs=>
     bif Nat.beq k cg.size&&Nat.ble 1 cg.size&&Nat.ble 1 cg.bytes&&p.isEmpty then
      match d2,t2.k with
      |.v (.bC ar m jX),.bC _=>bif Nat.beq ar k&&Nat.ble 1 m then
       some (.go {e:=some {d:=.v y,own:=some e},f5:=[t],rs,a6:=[f0 (.bC k (n+m) λi=>bif Nat.blt i n then get i else jX (i-n)) y,room (n+m) cg.bytes=true]})
       else none
      |_,_=>none
     else none
    |_,_,_,_,_=>none
   |_,_,_=>none
  |.builtin .min=>match mapM' (λy=>r y) c.args.toList with
   |some [.v (.int k a),.v (.int ar b)]=>bif decide (k=ar)then val (some (.v (.int k (bif decide (b<a)then b else a))))else none
   |_=>none
  |.builtin .max=>match mapM' (λy=>r y) c.args.toList with
   |some [.v (.int k a),.v (.int ar b)]=>bif decide (k=ar)then val (some (.v (.int k (bif decide (a<b)then b else a))))else none
   |_=>none
  |_=>none
 |.panic x=>match r x with
  |some (.v (.iface t y))=>some (.be (.iface t y) [] [])
  |_=>none
 |_=>none
def fV:List Nat→List (Nat×aS)→List (Nat×aS)
 |[],env=>env
 |t::l,env=>match look env t with
  |some e=>(t,{e with own:=none})::fV l env
  |none=>fV l env
inductive o2 where
 |go (g:db)
 |be (x:V) (st:aF) (a6:List Prop)
def mz:List (Nat×aS)→List (Nat×aS)
 |[]=>[]
 |(t,e)::l=>(t,{d:=e.d})::mz l
def mA(ops:List Oper)(g:db)(o:Oper):Option Path:=
 match o.guard with
 |none=>some []
 |some (j,w)=>match(ops[j]?).bind (·.dst) with
  |some t=>match look g.bV t with
   |some (q,.v (.bool _))=>some (q++[(t,w)])
   |some _=>none
   |none=>match look g.env t with
    |some ⟨.v (.bool _),_⟩=>some [(t,w)]
    |_=>none
  |none=>none
def r9(bV:List (Nat×Path×D))(t:Nat):Bool:=bV.all λx=>Nat.beq x.1 t||x.2.1.all λy=>!Nat.beq y.1 t
def ii(
 cd:fN) (tt:dr) (N:Nat) (ops:List Oper) (g:db) (o:Oper):Option o2:=
 match mA ops g o with
 |none=>none
 |some p=>
  match step1 cd tt ops g p o with
  |none=>none
  |some (.be x hs a6)=>bif p.isEmpty then some (.be x {env:=mz g.env,H:=hs++g.H,aU:=g.aU} (a6++g.a6))else none
  |some (
   .go f)=>
   let eL:db:={g with rs:=f.rs,a6:=f.a6.map (under g p)++g.a6}
   match o.dst with
   |none=>bif p.isEmpty then some (.go {eL with env:=fV f.f5 g.env,H:=f.hs++g.H,aU:=g.aU+f.e4})else none
   |some t=>bif Nat.blt t N&&r9 g.bV t then
    match p with
    |[]=>some (.go {eL with
     env:=match f.e with|some e=>(t,e)::fV f.f5 g.env|none=>del (fV f.f5 g.env) t
     bV:=del g.bV t,H:=f.hs++g.H,aU:=g.aU+f.e4})
    |_::_=>match f.e,f.hs,f.f5 with
     |some e,[],[]=>bif p.all (λy=>!Nat.beq y.1 t)&&Nat.beq f.e4 0 then some (.go {eL with env:=del g.env t,bV:=(t,p,e.d)::del g.bV t})else none
     |_,_,_=>none
    else none
def o3(cd:fN)(tt:dr)(N:Nat)(ops:List Oper):List Oper→db→Option o2
 |[],g=>some (.go g)
 |o::l,g=>match ii cd tt N ops g o with
  |some (.go eL)=>o3 cd tt N ops l eL
  |x=>x
mutual
def below(n:Nat):D→Bool
 |.v _ |.eB _ |.full _ _ _=>true
 |.ptr r _=>Nat.blt r n
 |.cn r _ _=>Nat.blt r n
 |.fn _ eK=>p7 n eK
 |.agg cs |.cf cs=>p7 n cs
def p7(n:Nat):List D→Bool
 |[]=>true
 |d::l=>below n d&&p7 n l
end
def n8(n:Nat):List aS→Bool
 |[]=>true
 |e::l=>below n e.d&&n8 n l
def uh(env:List (Nat×aS)):List Nat→Option (List (Nat×aS))
 |[]=>some []
 |t::l=>match look env t,uh env l with
  |some e,some cz=>some ((t,e)::cz)
  |_,_=>none
def ui(H:List (Nat×List aS)):List Nat→Option (List (Nat×List aS))
 |[]=>some []
 |r::l=>match look H r,ui H l with
  |some e,some cz=>some ((r,e)::cz)
  |_,_=>none
def p8(live:List Nat)(boxes:List Nat)(n:Nat)(env:List (Nat×aS))(H:List (Nat×List aS))(aU:Nat):Option aF:=
 match uh env live,ui H boxes with
 |some lm,some H'=>bif Nat.ble n aU&&lm.all (λx=>below n x.2.d)&&H'.all (λx=>Nat.blt x.1 n&&n8 n x.2)then some {env:=lm,H:=H',aU:=n}else none
 |_,_=>none
inductive Fin where
 |go (st:aF) (a6:List Prop)
 |be (x:V) (st:aF) (a6:List Prop)
def dc.mono{M M':Mem}(cX:M.le M'){v:Value}{x:V}(h:dc M v x):dc M' v x:=by
 induction h with
 |int k n=>exact .int k n
 |bool b=>exact .bool b
 |str l=>exact .str l
 |agg vs cs hn ab _ bv=>exact .agg vs cs hn ab bv
 |jK k get=>exact .jK k get
 |lU a k get=>exact .lU a k get
 |bC b off k n cap get val hc hk hm ab _ bv=>exact .bC b off k n cap get val hc hk (λi j hi hj=>cX _ _ _ (hm i j hi hj)) ab bv
 |iface t v x _ bv=>exact .iface t v x bv
 |eb=>exact .eb
 |gN=>exact .gN
 |aM=>exact .aM
 |any v ab=>exact .any v ab
 |lS k get=>exact .lS k get
inductive co(M:Mem)(β:Nat→Option Nat):Value→D→Prop where
 |v (u:Value) (x:V) (h:dc M u x):co M β u (.v x)
 |ptr (r off b:Nat) (h:β r=some b):co M β (.pointer (some ⟨b,off,none⟩)) (.ptr r off)
 |jL (r off:Nat) (u:TypeId):co M β (.pointer none) (.cn r off u)
 |cn (r off b:Nat) (u:TypeId) (h:β r=some b):co M β (.pointer (some ⟨b,off,none⟩)) (.cn r off u)
 |eB (b off:Nat) (x:V) (val:Nat→Value) (cX:∀j,j<x.cells.length→M b (off+j)=some (val j)) (ab:∀j,j<x.cells.length→(val j).oneCell'=true)
  (h:∀(j:Nat) c,x.cells[j]? = some c→dc M (val j) c):co M β (.pointer (some ⟨b,off,none⟩)) (.eB x)
 |full (base:Option Addr) (k n:Nat) (get:Nat→V) (h:dc M (.slice base n n) (.bC k n get)):co M β (.slice base n n) (.full k n get)
 |fn (f:FuncId) (vs:List Value) (cs:List D) (hn:vs.length=cs.length)
  (h:∀(i:Nat) v c,vs[i]? = some v→cs[i]? = some c→co M β v c):co M β (.func (.func f) #[] ⟨vs⟩) (.fn f cs)
 |agg (vs:List Value) (cs:List D) (hn:vs.length=cs.length) (ab:∀v,v∈vs→v.oneCell'=true)
  (h:∀(i:Nat) v c,vs[i]? = some v→cs[i]? = some c→co M β v c):co M β (.agg ⟨vs⟩) (.agg cs)
 |cf (vs:List Value) (cs:List D) (hn:vs.length=cs.length)
  (h:∀(i:Nat) v c,vs[i]? = some v→cs[i]? = some c→co M β v c):co M β (.tuple ⟨vs⟩) (.cf cs)
def co.mono{M M':Mem}{β:Nat→Option Nat}(cX:M.le M'){v:Value}{d:D}(h:co M β v d):co M' β v d:=by
 induction h with
 |v u x h=>exact .v u x (h.mono cX)
 |ptr r off b h=>exact .ptr r off b h
 |jL r off u=>exact .jL r off u
 |cn r off b u h=>exact .cn r off b u h
 |eB b off x val hm ab h=>exact .eB b off x val (λj hj=>cX _ _ _ (hm j hj)) ab (λj c hc=>(h j c hc).mono cX)
 |full b k n get h=>exact .full b k n get (h.mono cX)
 |fn f vs cs hn _ bv=>exact .fn f vs cs hn bv
 |agg vs cs hn ab _ bv=>exact .agg vs cs hn ab bv
 |cf vs cs hn _ bv=>exact .cf vs cs hn bv
def o4{n:Nat}:∀{l:List D} {i:Nat} {d:D},p7 n l=true→l[i]? = some d→below n d=true
 |[],_,_,_,h=>by simp at h
 |d::l,0,_,hb,h=>by simp [p7]at hb;simp at h;exact h ▸ hb.1
 |d::l,i+1,_,hb,h=>by simp [p7]at hb;simp at h;exact o4 hb.2 h
def co.Kk{M:Mem}{β β':Nat→Option Nat}{n:Nat}(f':∀r,r<n→β' r=β r){v:Value}{d:D}(h:co M β v d):Ab.below n d=true→co M β' v d:=by
 induction h with
 |v u x h=>intro _;exact .v u x h
 |ptr r off b h=>intro hb;exact .ptr r off b (by rw [f' r (by simpa [Ab.below,Nat.blt_eq]using hb)];exact h)
 |jL r off u=>intro hb;exact .jL r off u
 |cn r off b u h=>intro hb;exact .cn r off b u (by rw [f' r (by simpa [Ab.below,Nat.blt_eq]using hb)];exact h)
 |eB b off x val hm ab h=>intro _;exact .eB b off x val hm ab h
 |full b k n get h=>intro _;exact .full b k n get h
 |fn f vs cs hn _ bv=>intro hb;exact .fn f vs cs hn λi v c aA hc=>bv i v c aA hc (o4 (by simpa [Ab.below]using hb) hc)
 |agg vs cs hn ab _ bv=>intro hb;exact .agg vs cs hn ab λi v c aA hc=>bv i v c aA hc (o4 (by simpa [Ab.below]using hb) hc)
 |cf vs cs hn _ bv=>intro hb;exact .cf vs cs hn λi v c aA hc=>bv i v c aA hc (o4 (by simpa [Ab.below]using hb) hc)
def r'{f:Nat→Option Nat}:∀{l cz:List D},jm f l=some cz→l.length=cz.length∧∀(i:Nat) d,l[i]? = some d→∃dT,cz[i]? = some dT∧ec f d=some dT
 |[],cz,h=>by simp [jm]at h;subst h;simp
 |d::l,cz,h=>by
  simp only [jm]at h;split at h<;>simp at h
  rename_i dT hl hd ah;subst h;obtain⟨ab,ai⟩:=r' ah;refine⟨by simp [ab],λi x hx=>?_⟩
  cases i with
  |zero=>simp at hx;subst hx;exact⟨dT,by simp,hd⟩
  |succ i=>simp at hx;simpa using ai i x hx
def co.ec{M:Mem}{β β':Nat→Option Nat}{f:Nat→Option Nat}(f':∀r s b,f r=some s→β r=some b→β' s=some b){v:Value}{d:D}(h:co M β v d):
 ∀{dT},ec f d=some dT→co M β' v dT:=by
 induction h with
 |v u x h=>intro dT hd;simp [Ab.ec]at hd;subst hd;exact .v u x h
 |ptr r off b h=>
  intro dT hd;simp only [Ab.ec,Option.map_eq_some_iff]at hd;obtain⟨s,hs,rfl⟩:=hd;exact .ptr s off b (f' r s b hs h)
 |jL r off u=>
  intro dT hd;simp only [Ab.ec,Option.map_eq_some_iff]at hd;obtain⟨s,hs,rfl⟩:=hd;exact .jL s off u
 |cn r off b u h=>
  intro dT hd;simp only [Ab.ec,Option.map_eq_some_iff]at hd;obtain⟨s,hs,rfl⟩:=hd;exact .cn s off b u (f' r s b hs h)
 |eB b off x val hm ab h=>intro dT hd;simp [Ab.ec]at hd;subst hd;exact .eB b off x val hm ab h
 |full b k n get h=>intro dT hd;simp [Ab.ec]at hd;subst hd;exact .full b k n get h
 |fn f vs cs hn _ bv=>
  intro dT hd;simp only [Ab.ec,Option.map_eq_some_iff]at hd;obtain⟨cs',dP,rfl⟩:=hd;obtain⟨ab,ai⟩:=r' dP;refine .fn f vs cs' (by omega) λi v c aA hc=>?_
  have hi:i<cs.length:=by have:=(List.getElem?_eq_some_iff.1 hc).1;omega
  obtain⟨d1,fO,ak⟩:=ai i cs[i] (List.getElem?_eq_getElem hi);rw [hc]at fO;cases fO;exact bv i v _ aA (List.getElem?_eq_getElem hi) ak
 |agg vs cs hn ab _ bv=>
  intro dT hd;simp only [Ab.ec,Option.map_eq_some_iff]at hd;obtain⟨cs',dP,rfl⟩:=hd;obtain⟨h0,ai⟩:=r' dP;refine .agg vs cs' (by omega) ab λi v c aA hc=>?_
  have hi:i<cs.length:=by have:=(List.getElem?_eq_some_iff.1 hc).1;omega
  obtain⟨d1,fO,ak⟩:=ai i cs[i] (List.getElem?_eq_getElem hi);rw [hc]at fO;cases fO;exact bv i v _ aA (List.getElem?_eq_getElem hi) ak
 |cf vs cs hn _ bv=>
  intro dT hd;simp only [Ab.ec,Option.map_eq_some_iff]at hd;obtain⟨cs',dP,rfl⟩:=hd;obtain⟨ab,ai⟩:=r' dP;refine .cf vs cs' (by omega) λi v c aA hc=>?_
  have hi:i<cs.length:=by have:=(List.getElem?_eq_some_iff.1 hc).1;omega
  obtain⟨d1,fO,ak⟩:=ai i cs[i] (List.getElem?_eq_getElem hi);rw [hc]at fO;cases fO;exact bv i v _ aA (List.getElem?_eq_getElem hi) ak
def co.BN{M:Mem}{β β':Nat→Option Nat}(f':∀r b,β r=some b→β' r=some b){v:Value}{d:D}(h:co M β v d):co M β' v d:=by
 induction h with
 |v u x h=>exact .v u x h
 |ptr r off b h=>exact .ptr r off b (f' r b h)
 |jL r off u=>exact .jL r off u
 |cn r off b u h=>exact .cn r off b u (f' r b h)
 |eB b off x val hm ab h=>exact .eB b off x val hm ab h
 |full b k n get h=>exact .full b k n get h
 |fn f vs cs hn _ bv=>exact .fn f vs cs hn bv
 |agg vs cs hn ab _ bv=>exact .agg vs cs hn ab bv
 |cf vs cs hn _ bv=>exact .cf vs cs hn bv
def co.WL{M:Mem}{β β':Nat→Option Nat}{n:Nat}(f':∀r,r<n→∀b,β r=some b→β' r=some b){v:Value}{d:D}(h:co M β v d):Ab.below n d=true→co M β' v d:=by
 induction h with
 |v u x h=>intro _;exact .v u x h
 |ptr r off b h=>intro hb;exact .ptr r off b (f' r (by simpa [Ab.below,Nat.blt_eq]using hb) b h)
 |jL r off u=>intro hb;exact .jL r off u
 |cn r off b u h=>intro hb;exact .cn r off b u (f' r (by simpa [Ab.below,Nat.blt_eq]using hb) b h)
 |eB b off x val hm ab h=>intro _;exact .eB b off x val hm ab h
 |full b k n get h=>intro _;exact .full b k n get h
 |fn f vs cs hn _ bv=>intro hb;exact .fn f vs cs hn λi v c aA hc=>bv i v c aA hc (o4 (by simpa [Ab.below]using hb) hc)
 |agg vs cs hn ab _ bv=>intro hb;exact .agg vs cs hn ab λi v c aA hc=>bv i v c aA hc (o4 (by simpa [Ab.below]using hb) hc)
 |cf vs cs hn _ bv=>intro hb;exact .cf vs cs hn λi v c aA hc=>bv i v c aA hc (o4 (by simpa [Ab.below]using hb) hc)
structure Ctx where
 p9:Mem
 F:Nat→Option Obj
 h5:Nat→Option Nat
 gj:Os×Array (Nat×ByteArray)
 ds:List Deferred:=[]
inductive Loc where
 |slot (s:Nat)
 |cell (r i:Nat)
deriving DecidableEq
def aF.at(st:aF):Loc→Option aS
 |.slot s=>look st.env s
 |.cell r i=>(look st.H r).bind (·[i]?)
def b9(tmps:Array Value)(w:World)(β:Nat→Option Nat):Loc→Value
 |.slot s=>tmps.getD s undef
 |.cell r i=>match β r with
  |some b=>(w.cell? ⟨b,i,none⟩).getD undef
  |none=>undef
def ij:Value→Option Nat
 |.slice (some a) _ _=>some a.block
 |_=>none
def jM(P:Program)(F:Nat→Option Obj)(M:Mem)(w:World)(T:TypeId)(v:Value):Prop:=
 v = .slice none 0 0∨∃b n cap vs T',v = .slice (some ⟨b,0,none⟩) n cap∧n≤cap∧w.heap[b]? = some (.cells ⟨vs⟩ T' (0,0))∧cap*P.cellsOf T≤vs.length∧
  (∀o,n*P.cellsOf T≤o→M b o=none)∧F b=none∧T'=T
def ik(P:Program)(F:Nat→Option Obj)(M:Mem)(w:World)(T:TypeId):Value→Prop
 |.agg cs=>(∀x,x∈marks T→jM P F M w x.2 (cs.getD x.1 undef))∧∀x,x∈marks T→∀y,y∈marks T→x.1≠y.1→∀b,ij (cs.getD x.1 undef)=some b→ij (cs.getD y.1 undef)≠some b
 |v=>jM P F M w T v
def hC(T:TypeId):Value→Nat→Prop
 |.agg cs,b=>∃x,x∈marks T∧ij (cs.getD x.1 undef)=some b
 |v,b=>ij v=some b
def BO (P : Program) : List Nat := ["strconv.ErrSyntax", "strconv.ErrRange"].filterMap P.globalNamed
def BP:Array Value:=((List.range 20).map λi=>Value.int .u64 ((10 ^ i:Nat):Int)).toArray
def n9(P:Program)(F:Nat→Option Obj):Prop:=
 (∀g,g∈BO P→∃cs t iW fc,F g=some (.cells cs t iW)∧cs[0]? = some fc∧(fc = .nilIface∨∃cg n_,fc = .iface cg n_))∧
 ∀ g, P.globalNamed "internal/strconv.uint64pow10" = some g → ∃ t iW, F g = some (.cells BP t iW)
def n9.mono{P:Program}{F o5:Nat→Option Obj}(h:n9 P F)(du:∀b a6,F b=some a6→o5 b=some a6):n9 P o5:=⟨λg hg=>by
 obtain⟨cs,t,iW,fc,ab,ai,ay⟩:=h.1 g hg;exact⟨cs,t,iW,fc,du _ _ ab,ai,ay⟩,λg hg=>by
 obtain⟨t,iW,ab⟩:=h.2 g hg;exact⟨t,iW,du _ _ ab⟩⟩
def jo(P:Program)(T:TypeId)(n:Nat)(cs:List aS):Prop:=∀e,e∈cs→∀r off u,e.d = .cn r off u→liesAt P P.depth T (n / P.cellsOf T) off u 1=true
def WM(P:Program)(T:TypeId)(vs:List Value)(cs:List aS):Prop:=(∀v,v∈vs→v.oneCell'=true)∧jo P T vs.length cs
def jo.sub{P:Program}{T:TypeId}{n:Nat}{cs cs':List aS}(h:jo P T n cs)(hs:∀e,e∈cs'→∃bP,bP∈cs∧bP.d=e.d):jo P T n cs':=λe he r off u hd=>by
 obtain⟨bP,ab,ai⟩:=hs e he;exact h bP ab r off u (ai.trans hd)
structure bE(P:Program)(K:Ctx)(M:Mem)(β:Nat→Option Nat)(st:aF)(tmps:Array Value)(w:World):Prop where
 ez:∀l e,st.at l=some e→co M β (b9 tmps w β l) e.d
 own:∀l e T,st.at l=some e→e.own=some T→ik P K.F M w T (b9 tmps w β l)
 uniq:∀l cz e aZ T T' b,st.at l=some e→e.own=some T→st.at cz=some aZ→aZ.own=some T'→
  hC T (b9 tmps w β l) b→hC T' (b9 tmps w β cz) b→l=cz
 unbox:∀l e T b r cs,st.at l=some e→e.own=some T→hC T (b9 tmps w β l) b→look st.H r=some cs→β r≠some b
 box:∀r cs,look st.H r=some cs→∃b vs T,β r=some b∧w.heap[b]? = some (.cells ⟨vs⟩ T (0,0))∧vs.length=cs.length∧(∀o,M b o=none)∧K.F b=none∧WM P T vs cs
 inj:∀r cA b cs cs',look st.H r=some cs→look st.H cA=some cs'→β r=some b→β cA=some b→r=cA
 lt:∀r b,β r=some b→r<st.aU
 mem:∀b o v,M b o=some v→w.cell? ⟨b,o,none⟩=some v
 m0:K.p9.le M
 frame:∀b a6,K.F b=some a6→w.heap[b]? = some a6∧∀o,M b o=K.p9 b o
 gO:∀r b,K.h5 r=some b→β r=some b
 hD:n9 P K.F
 gj:(w.os,w.output)=K.gj
def aF.BQ{st:aF}{r i:Nat}{cs:List aS}(h:look st.H r=some cs):st.at (.cell r i)=cs[i]? := by simp [aF.at,h]
def uj:∀{l:List D},n5 l=true→∀d,d∈l→∀r off u,d ≠ .cn r off u
 |[],h,d,hd=>by cases hd
 |x::l,h,d,hd=>by
  have ai:n5 l=true:=by cases x<;>first|exact h|cases h
  rcases List.mem_cons.1 hd with rfl|iB
  ·intro r off u e;subst e;cases h
  ·exact uj ai d iB
def jo.BR{P:Program}{T:TypeId}{n r:Nat}{st bS:aF}{cs cs':List aS}(h:jo P T n cs)(ab:look st.H r=some cs)(ai:look bS.H r=some cs')
 (he:∀l aZ,bS.at l=some aZ→∃e,st.at l=some e∧(e.d=aZ.d∨∀q off u,aZ.d ≠ .cn q off u)):jo P T n cs':=λe hm q off u hd=>by
 obtain⟨i,hi,rfl⟩:=List.getElem_of_mem hm;obtain⟨bP,g1,g2⟩:=he (.cell r i) cs'[i] (by rw [aF.BQ ai];exact List.getElem?_eq_getElem hi)
 rw [aF.BQ ab]at g1;rcases g2 with g2|g2
 ·exact h bP (List.mem_of_getElem? g1) q off u (g2.trans hd)
 ·exact absurd hd (g2 q off u)
def dn{α:Type}(j:Nat)(x:α)(l:List (Nat×α))(i:Nat):look ((j,x)::l) i=if j=i then some x else look l i:=by
 by_cases h:j=i
 ·simp [look,h]
 ·have:Nat.beq j i=false:=by rw [Bool.eq_false_iff];simpa using h
  simp [look,h,this]
def ns{α:Type}(l:List (Nat×α))(t i:Nat):look (del l t) i=if t=i then none else look l i:=by
 induction l with
 |nil=>simp [del,look]
 |cons x l bv=>
  obtain⟨j,x⟩:=x;by_cases h:j=t
  ·subst h;have:Nat.beq j j=true:=by simp
   simp only [del,this,cond_true,bv,dn];by_cases ai:j=i<;>simp [ai]
  ·have dk:Nat.beq j t=false:=by rw [Bool.eq_false_iff];simpa using h
   simp only [del,dk,cond_false,dn,bv];by_cases ai:j=i
   ·subst ai;simp [Ne.symm h]
   ·simp [ai]
def cell_of_heap{w:World}{b o:Nat}{vs:List Value}{T:TypeId}{lY:Nat×Nat}(h:w.heap[b]? = some (.cells ⟨vs⟩ T lY)):w.cell? ⟨b,o,none⟩=vs[o]? := by
 simp [World.cell?,h]
def lt_of_heap{w:World}{b:Nat}{a6:Obj}(h:w.heap[b]? = some a6):b<w.heap.size:=by
 rcases Nat.lt_or_ge b w.heap.size with dk|dk
 ·exact dk
 ·simp [Array.getElem?_eq_none dk]at h
def lt_of_cell{w:World}{b o:Nat}{v:Value}(h:w.cell? ⟨b,o,none⟩=some v):b<w.heap.size:=by
 unfold World.cell? at h;split at h
 ·rename_i bz;exact lt_of_heap bz
 ·cases h
def oa{w w':World}{b o:Nat}(h:w'.heap[b]? = w.heap[b]?):w'.cell? ⟨b,o,none⟩=w.cell? ⟨b,o,none⟩:=by
 simp [World.cell?,h]
section
variable {P:Program} {K:Ctx} {M M':Mem} {β β':Nat→Option Nat} {st bS:aF} {tmps dU:Array Value} {w w':World}
def jM.lt{F:Nat→Option Obj}{T:TypeId}{v:Value}{b:Nat}(h:jM P F M w T v)(hb:ij v=some b):b<w.heap.size:=by
 rcases h with rfl|⟨bM,n,cap,vs,T',rfl,_,bz,_⟩
 ·simp [ij]at hb
 ·simp [ij]at hb;subst hb;exact lt_of_heap bz
def jM.free{F:Nat→Option Obj}{T:TypeId}{v:Value}{b:Nat}(h:jM P F M w T v)(hb:ij v=some b):F b=none:=by
 rcases h with rfl|⟨bM,n,cap,vs,T',rfl,_,bz,_,_,du,_⟩
 ·simp [ij]at hb
 ·simp [ij]at hb;subst hb;exact du
def jM.congr{F:Nat→Option Obj}{T:TypeId}{v:Value}(h:jM P F M w T v)(hw:∀b,ij v=some b→w'.heap[b]? = w.heap[b]?)(cX:∀b o,ij v=some b→M' b o=M b o):
 jM P F M' w' T v:=by
 rcases h with rfl|⟨bM,n,cap,vs,T',rfl,ab,bz,ai,ay,du⟩
 ·exact .inl rfl
 ·exact .inr ⟨bM,n,cap,vs,T',rfl,ab,(hw bM rfl).trans bz,ai,λo ax=>(cX bM o rfl).trans (ay o ax),du⟩
def jM.at{F:Nat→Option Obj}{T:TypeId}{v:Value}(h:jM P F M w T v):ik P F M w T v:=by
 rcases h with rfl|⟨bM,n,cap,vs,T',rfl,ab,bz,ai,ay,du⟩
 ·exact .inl rfl
 ·exact .inr ⟨bM,n,cap,vs,T',rfl,ab,bz,ai,ay,du⟩
def jM.r_{F o5:Nat→Option Obj}{T:TypeId}{v:Value}(h:jM P F M w T v)(du:∀b,ij v=some b→F b=none→o5 b=none):jM P o5 M w T v:=by
 rcases h with rfl|⟨bM,n,cap,vs,T',rfl,ab,bz,ai,ay,bg,bQ⟩
 ·exact .inl rfl
 ·exact .inr ⟨bM,n,cap,vs,T',rfl,ab,bz,ai,ay,du bM rfl bg,bQ⟩
def ik.cases{F:Nat→Option Obj}{T:TypeId}{v:Value}(h:ik P F M w T v):
 (∃cs,v = .agg cs)∨(jM P F M w T v∧∀b,hC T v b↔ij v=some b):=by
 cases v<;>first
  |exact .inl ⟨_,rfl⟩
  |exact .inr ⟨h,λ_=>Iff.rfl⟩
def ik.lt{F:Nat→Option Obj}{T:TypeId}{v:Value}{b:Nat}(h:ik P F M w T v)(hb:hC T v b):b<w.heap.size:=by
 rcases h.cases with⟨cs,rfl⟩|⟨ab,ai⟩
 ·obtain⟨x,hx,hb⟩:=hb;exact(h.1 x hx).lt hb
 ·exact ab.lt ((ai b).1 hb)
def ik.free{F:Nat→Option Obj}{T:TypeId}{v:Value}{b:Nat}(h:ik P F M w T v)(hb:hC T v b):F b=none:=by
 rcases h.cases with⟨cs,rfl⟩|⟨ab,ai⟩
 ·obtain⟨x,hx,hb⟩:=hb;exact(h.1 x hx).free hb
 ·exact ab.free ((ai b).1 hb)
def ik.congr{F:Nat→Option Obj}{T:TypeId}{v:Value}(h:ik P F M w T v)(hw:∀b,hC T v b→w'.heap[b]? = w.heap[b]?)(cX:∀b o,hC T v b→M' b o=M b o):
 ik P F M' w' T v:=by
 rcases h.cases with⟨cs,rfl⟩|⟨ab,ai⟩
 ·exact⟨λx hx=>(h.1 x hx).congr (λb hb=>hw b ⟨x,hx,hb⟩) (λb o hb=>cX b o ⟨x,hx,hb⟩),h.2⟩
 ·exact(ab.congr (λb hb=>hw b ((ai b).2 hb)) (λb o hb=>cX b o ((ai b).2 hb))).at
def ik.r_{F o5:Nat→Option Obj}{T:TypeId}{v:Value}(h:ik P F M w T v)(du:∀b,hC T v b→F b=none→o5 b=none):ik P o5 M w T v:=by
 rcases h.cases with⟨cs,rfl⟩|⟨ab,ai⟩
 ·exact⟨λx hx=>(h.1 x hx).r_ λb hb=>du b ⟨x,hx,hb⟩,h.2⟩
 ·exact(ab.r_ λb hb=>du b ((ai b).2 hb)).at
def ik.bC{F:Nat→Option Obj}{T:TypeId}{v:Value}{p9:Mem}{k n:Nat}{get:Nat→V}(h:ik P F M w T v){h5:Nat→Option Nat}(aA:co p9 h5 v (.v (.bC k n get))):jM P F M w T v:=by
 cases aA with|v _ _ aA=>cases aA<;>exact h
def BS(h:bE P K M β st tmps w){r i:Nat}{cs:List aS}{e:aS}(ak:look st.H r=some cs)(hi:cs[i]? = some e):
 ∃b vs T v,β r=some b∧w.heap[b]? = some (.cells ⟨vs⟩ T (0,0))∧vs[i]? = some v∧b9 tmps w β (.cell r i)=v:=by
 obtain⟨b,vs,T,hb,bz,ah,_⟩:=h.box r cs ak;have BT:i<cs.length:=(List.getElem?_eq_some_iff.1 hi).1;have aA:vs[i]? = some vs[i]:=List.getElem?_eq_getElem (by omega)
 exact⟨b,vs,T,_,hb,bz,aA,by simp only [b9,hb,cell_of_heap bz,aA,Option.getD_some]⟩
def bE.uk(h:bE P K M β st tmps w){r b:Nat}{cs:List aS}(ak:look st.H r=some cs)(hb:β r=some b):b<w.heap.size:=by
 obtain⟨bM,vs,T,bO,bz,_⟩:=h.box r cs ak;rw [hb]at bO;cases bO;exact lt_of_heap bz
def bE.free(h:bE P K M β st tmps w)(b:Nat)(du:K.F b=none)(p':∀r cs,look st.H r=some cs→β r≠some b)
 (fk:∀l e T,st.at l=some e→e.own=some T→¬ hC T (b9 tmps w β l) b)
 (hw:∀bM,bM≠b→bM<w.heap.size→w'.heap[bM]? = w.heap[bM]?) (cX:M.le M') (xC:∀bM o,bM≠b→M' bM o=M bM o)
 (xD:∀o v,M' b o=some v→w'.cell? ⟨b,o,none⟩=some v) (lZ:(w'.os,w'.output)=(w.os,w.output):=by rfl):bE P K M' β st tmps w':=by
 have b8:∀l e,st.at l=some e→b9 tmps w' β l=b9 tmps w β l:=by
  intro l e ah;cases l with
  |slot s=>rfl
  |cell r i=>
   simp only [aF.at]at ah;cases ak:look st.H r with
   |none=>simp [ak]at ah
   |some cs=>
    obtain⟨cj,vs,T,cS,bz,_⟩:=h.box r cs ak;have dQ:cj≠b:=λe=>p' r cs ak (e ▸ cS)
    simp only [b9,cS];rw [oa (hw cj dQ (lt_of_heap bz))]
 constructor
 ·intro l e ah;rw [b8 l e ah];exact(h.ez l e ah).mono cX
 ·intro l e T ah aN;rw [b8 l e ah];refine(h.own l e T ah aN).congr (λcj cS=>hw cj ?_ ((h.own l e T ah aN).lt cS)) (λcj o cS=>xC cj o ?_) <;>
  ·rintro rfl;exact fk l e T ah aN cS
 ·intro l cz e aZ T T' cj ah aN cF dK hb bO;rw [b8 l e ah]at hb;rw [b8 cz aZ cF]at bO;exact h.uniq l cz e aZ T T' cj ah aN cF dK hb bO
 ·intro l e T cj r cs ah aN hb ak;rw [b8 l e ah]at hb;exact h.unbox l e T cj r cs ah aN hb ak
 ·intro r cs ak;obtain⟨cj,vs,T,cS,bz,ab,ai,ay⟩:=h.box r cs ak;have dQ:cj≠b:=λe=>p' r cs ak (e ▸ cS)
  exact⟨cj,vs,T,cS,(hw cj dQ (lt_of_heap bz)).trans bz,ab,λo=>(xC cj o dQ).trans (ai o),ay⟩
 ·exact h.inj
 ·exact h.lt
 ·intro cj o v aA;by_cases dQ:cj=b
  ·subst dQ;exact xD o v aA
  ·rw [xC cj o dQ]at aA;have:=h.mem cj o v aA
   rw [oa (hw cj dQ (lt_of_cell this))];exact this
 ·exact Mem.le_trans h.m0 cX
 ·intro cj a6 cS;have dQ:cj≠b:=by rintro rfl;rw [du]at cS;cases cS
  obtain⟨ab,ai⟩:=h.frame cj a6 cS;exact⟨(hw cj dQ (lt_of_heap ab)).trans ab,λo=>(xC cj o dQ).trans (ai o)⟩
 ·exact h.gO
 ·exact h.hD
 ·exact lZ.trans h.gj
def bE.grow(h:bE P K M β st tmps w)(hw:∀b,b<w.heap.size→w'.heap[b]? = w.heap[b]?)(lZ:(w'.os,w'.output)=(w.os,w.output):=by rfl):bE P K M β st tmps w':=by
 have hn:∀b,w.heap.size≤b→K.F b=none:=by
  intro b hb;cases du:K.F b with
  |none=>rfl
  |some a6=>have:=lt_of_heap (h.frame b a6 du).1;omega
 refine h.free w.heap.size (hn _ (Nat.le_refl _)) ?_ ?_ (λb _ hb=>hw b hb) (Mem.le_refl _) (λ_ _ _=>rfl) ?_ lZ
 ·intro r cs ak hb;have:=h.uk ak hb;omega
 ·intro l e T ah aN hb;have:=(h.own l e T ah aN).lt hb;omega
 ·intro o v aA;have:=lt_of_cell (h.mem _ _ _ aA);omega
def bE.sub(h:bE P K M β st tmps w)(hn:bS.aU=st.aU)
 (he:∀l aZ,bS.at l=some aZ→∃e,st.at l=some e∧e.d=aZ.d∧∀T,aZ.own=some T→e.own=some T)
 (ej:∀r cs',look bS.H r=some cs'→∃cs,look st.H r=some cs∧cs.length=cs'.length):bE P K M β bS tmps w:=by
 constructor
 ·intro l aZ ah;obtain⟨e,ab,ai,_⟩:=he l aZ ah;rw [←ai];exact h.ez l e ab
 ·intro l aZ T ah aN;obtain⟨e,ab,_,ay⟩:=he l aZ ah;exact h.own l e T ab (ay T aN)
 ·intro l cz e aZ T T' b ah aN cF dK;obtain⟨e1,ab,_,ay⟩:=he l e ah;obtain⟨e2,kK,_,xE⟩:=he cz aZ cF;exact h.uniq l cz e1 e2 T T' b ab (ay T aN) kK (xE T' dK)
 ·intro l e T b r cs ah aN hb ak;obtain⟨e1,ab,_,ay⟩:=he l e ah;obtain⟨p_,gF,_⟩:=ej r cs ak;exact h.unbox l e1 T b r p_ ab (ay T aN) hb gF
 ·intro r cs ak;obtain⟨p_,gF,hlen⟩:=ej r cs ak;obtain⟨b,vs,T,ab,ai,ay,bg,bQ,dh,e5⟩:=h.box r p_ gF
  exact⟨b,vs,T,ab,ai,ay.trans hlen,bg,bQ,dh,e5.BR gF ak λl aZ ah=>by
   obtain⟨e,g1,g2,_⟩:=he l aZ ah;exact⟨e,g1,.inl g2⟩⟩
 ·intro r cA b cs cs' ak eD hb bO;obtain⟨c1,ab,_⟩:=ej r cs ak;obtain⟨c2,ai,_⟩:=ej cA cs' eD;exact h.inj r cA b c1 c2 ab ai hb bO
 ·intro r b hb;rw [hn];exact h.lt r b hb
 ·exact h.mem
 ·exact h.m0
 ·exact h.frame
 ·exact h.gO
 ·exact h.hD
 ·exact h.gj
def bE.WN(h:bE P K M β st tmps w)(hn:bS.aU=st.aU)
 (he:∀l aZ,bS.at l=some aZ→∃e,st.at l=some e∧((e.d=aZ.d∧∀T,aZ.own=some T→e.own=some T)∨∃k g,e.d = .v (.lS k g)∧aZ.d = .v (.bC k 0 g)))
 (ej:∀r cs',look bS.H r=some cs'→∃cs,look st.H r=some cs∧cs.length=cs'.length):bE P K M β bS tmps w:=by
 have mB:∀l e k g,st.at l=some e→e.d = .v (.lS k g)→b9 tmps w β l = .slice none 0 0:=by
  intro l e k g ah hd;have:=h.ez l e ah
  rw [hd]at this;generalize b9 tmps w β l=u at this ⊢
  cases this with
  |v u x hx=>cases hx;rfl
 constructor
 ·intro l aZ ah;obtain⟨e,ab,⟨ai,_⟩|⟨k,g,ai,ay⟩⟩:=he l aZ ah
  ·rw [←ai];exact h.ez l e ab
  ·rw [ay,mB l e k g ab ai];exact .v _ _ (.jK k g)
 ·intro l aZ T ah aN;obtain⟨e,ab,⟨_,ay⟩|⟨k,g,ai,ay⟩⟩:=he l aZ ah
  ·exact h.own l e T ab (ay T aN)
  ·rw [mB l e k g ab ai];exact .inl rfl
 ·intro l cz e aZ T T' b ah aN cF dK hb bO;obtain⟨e1,ab,⟨_,ay⟩|⟨k,g,ai,ay⟩⟩:=he l e ah
  ·obtain⟨e2,kK,⟨_,xE⟩|⟨k,g,WO,xE⟩⟩:=he cz aZ cF
   ·exact h.uniq l cz e1 e2 T T' b ab (ay T aN) kK (xE T' dK) hb bO
   ·rw [mB cz e2 k g kK WO]at bO;cases bO
  ·rw [mB l e1 k g ab ai]at hb;cases hb
 ·intro l e T b r cs ah aN hb ak;obtain⟨p_,gF,_⟩:=ej r cs ak;obtain⟨e1,ab,⟨_,ay⟩|⟨k,g,ai,ay⟩⟩:=he l e ah
  ·exact h.unbox l e1 T b r p_ ab (ay T aN) hb gF
  ·rw [mB l e1 k g ab ai]at hb;cases hb
 ·intro r cs ak;obtain⟨p_,gF,hlen⟩:=ej r cs ak;obtain⟨b,vs,T,ab,ai,ay,bg,bQ,dh,e5⟩:=h.box r p_ gF
  exact⟨b,vs,T,ab,ai,ay.trans hlen,bg,bQ,dh,e5.BR gF ak λl aZ ah=>by
   obtain⟨e,g1,⟨g2,_⟩|⟨k,g,_,g3⟩⟩:=he l aZ ah
   ·exact⟨e,g1,.inl g2⟩
   ·exact⟨e,g1,.inr λq off u aR=>by rw [g3]at aR;cases aR⟩⟩
 ·intro r cA b cs cs' ak eD hb bO;obtain⟨c1,ab,_⟩:=ej r cs ak;obtain⟨c2,ai,_⟩:=ej cA cs' eD;exact h.inj r cA b c1 c2 ab ai hb bO
 ·intro r b hb;rw [hn];exact h.lt r b hb
 ·exact h.mem
 ·exact h.m0
 ·exact h.frame
 ·exact h.gO
 ·exact h.hD
 ·exact h.gj
structure km(P:Program)(K:Ctx)(M:Mem)(β:Nat→Option Nat)(st:aF)(tmps:Array Value)(w:World)(l0:Loc)(v:Value)(T:TypeId):Prop where
 own:ik P K.F M w T v
 apart:∀l e T' b,st.at l=some e→e.own=some T'→l≠l0→hC T v b→¬ hC T' (b9 tmps w β l) b
 unbox:∀b r cs,hC T v b→look st.H r=some cs→β r≠some b
def bE.put(h:bE P K M β st tmps w){t:Nat}{v:Value}{e:aS}(ce:t<tmps.size)(aA:co M β v e.d)
 (ax:∀T,e.own=some T→km P K M β st tmps w (.slot t) v T):
 bE P K M β {st with env:=(t,e)::st.env} (tmps.setIfInBounds t v) w:=by
 have eM:∀l,({st with env:=(t,e)::st.env}:aF).at l=if l = .slot t then some e else st.at l:=by
  intro l;cases l with
  |slot s=>
   simp only [aF.at,dn,Loc.slot.injEq];by_cases hs:t=s
   ·subst hs;simp
   ·simp [hs,Ne.symm hs]
  |cell r i=>simp [aF.at]
 have b8:∀l,b9 (tmps.setIfInBounds t v) w β l=if l = .slot t then v else b9 tmps w β l:=by
  intro l;cases l with
  |slot s=>
   simp only [b9,Loc.slot.injEq];by_cases hs:s=t
   ·subst hs;simp [ce]
   ·simp [hs,Ne.symm hs]
  |cell r i=>simp [b9]
 constructor
 ·intro l e1 ah;rw [eM]at ah;rw [b8];by_cases h0:l = .slot t
  ·simp only [h0,if_true]at ah ⊢;cases ah;exact aA
  ·simp only [h0,if_false]at ah ⊢;exact h.ez l e1 ah
 ·intro l e1 T ah aN;rw [eM]at ah;rw [b8];by_cases h0:l = .slot t
  ·simp only [h0,if_true]at ah ⊢;cases ah;exact(ax T aN).own
  ·simp only [h0,if_false]at ah ⊢;exact h.own l e1 T ah aN
 ·intro l cz e1 e2 T T' b ah aN cF dK hb bO;rw [eM]at ah cF;rw [b8]at hb bO;by_cases h0:l = .slot t<;>by_cases o6:cz = .slot t
  ·rw [h0,o6]
  ·simp only [h0,o6,if_true,if_false]at ah cF hb bO;cases ah;exact absurd bO ((ax T aN).apart cz e2 T' b cF dK o6 hb)
  ·simp only [h0,o6,if_true,if_false]at ah cF hb bO;cases cF;exact absurd hb ((ax T' dK).apart l e1 T b ah aN h0 bO)
  ·simp only [h0,o6,if_false]at ah cF hb bO;exact h.uniq l cz e1 e2 T T' b ah aN cF dK hb bO
 ·intro l e1 T b r cs ah aN hb ak;rw [eM]at ah;rw [b8]at hb;by_cases h0:l = .slot t
  ·simp only [h0,if_true]at ah hb;cases ah;exact(ax T aN).unbox b r cs hb ak
  ·simp only [h0,if_false]at ah hb;exact h.unbox l e1 T b r cs ah aN hb ak
 ·exact h.box
 ·exact h.inj
 ·exact h.lt
 ·exact h.mem
 ·exact h.m0
 ·exact h.frame
 ·exact h.gO
 ·exact h.hD
 ·exact h.gj
def bE.drop(h:bE P K M β st tmps w){t:Nat}{v:Value}:bE P K M β {st with env:=del st.env t} (tmps.setIfInBounds t v) w:=by
 have eM:∀l,({st with env:=del st.env t}:aF).at l=if l = .slot t then none else st.at l:=by
  intro l;cases l with
  |slot s=>
   simp only [aF.at,ns,Loc.slot.injEq];by_cases hs:t=s
   ·subst hs;simp
   ·simp [hs,Ne.symm hs]
  |cell r i=>simp [aF.at]
 have ab:bE P K M β {st with env:=del st.env t} tmps w:=by
  refine h.sub rfl (λl aZ ah=>?_) (λr cs ak=>⟨cs,ak,rfl⟩)
  rw [eM]at ah;by_cases h0:l = .slot t
  ·simp [h0]at ah
  ·simp only [h0,if_false]at ah;exact⟨aZ,ah,rfl,λ_ h=>h⟩
 have b8:∀l e,({st with env:=del st.env t}:aF).at l=some e→b9 (tmps.setIfInBounds t v) w β l=b9 tmps w β l:=by
  intro l e ah;cases l with
  |slot s=>
   have hs:t≠s:=by rintro rfl;simp [aF.at,ns]at ah
   simp [b9,hs]
  |cell r i=>rfl
 constructor
 ·intro l e ah;rw [b8 l e ah];exact ab.ez l e ah
 ·intro l e T ah aN;rw [b8 l e ah];exact ab.own l e T ah aN
 ·intro l cz e aZ T T' b ah aN cF dK hb bO;rw [b8 l e ah]at hb;rw [b8 cz aZ cF]at bO;exact ab.uniq l cz e aZ T T' b ah aN cF dK hb bO
 ·intro l e T b r cs ah aN hb ak;rw [b8 l e ah]at hb;exact ab.unbox l e T b r cs ah aN hb ak
 ·exact ab.box
 ·exact ab.inj
 ·exact ab.lt
 ·exact ab.mem
 ·exact ab.m0
 ·exact ab.frame
 ·exact ab.gO
 ·exact ab.hD
 ·exact ab.gj
def bE.WP(h:bE P K M β st tmps w){dt n':Nat}(jY:∀b,β dt≠some b)(WQ:dt<n')(ahU:st.aU≤n'){vs:List Value}{T:TypeId}{cs:List aS}(hlen:vs.length=cs.length)(fP:∀v,v∈vs→v.oneCell'=true)(hlies:jo P T vs.length cs)
 (aA:∀(i:Nat) v e,vs[i]? = some v→cs[i]? = some e→co M β v e.d∧∀T,e.own=some T→v = .slice none 0 0):
 bE P K M (λr=>if r=dt then some w.heap.size else β r) {st with H:=(dt,cs)::st.H,aU:=n'} tmps {w with heap:=w.heap.push (.cells ⟨vs⟩ T (0,0))}:=by
 have Kl:∀r b,β r=some b→r≠dt:=λr b hb e=>jY b (e ▸ hb)
 have cS:∀r b,β r=some b→(λr=>if r=dt then some w.heap.size else β r) r=some b:=by
  intro r b hb;simp [Kl r b hb,hb]
 have fl:∀{v d},co M β v d→co M (λr=>if r=dt then some w.heap.size else β r) v d:=by
  intro v d hd;refine hd.BN ?_;exact cS
 have hg:=h.grow (w':={w with heap:=w.heap.push (.cells ⟨vs⟩ T (0,0))}) (λb hb=>by simp [Array.getElem?_push,Nat.ne_of_lt hb])
 have hold:∀r cs,r≠dt→look ((dt,cs)::st.H) r=look st.H r:=λr cs dQ=>by simp [dn,Ne.symm dQ]
 have WR:∀r cs,look st.H r=some cs→r≠dt:=λr cs ak=>by obtain⟨b,_,_,hb,_⟩:=h.box r cs ak;exact Kl r b hb
 have b8:∀l e,st.at l=some e→b9 tmps {w with heap:=w.heap.push (.cells ⟨vs⟩ T (0,0))} (λr=>if r=dt then some w.heap.size else β r) l=b9 tmps {w with heap:=w.heap.push (.cells ⟨vs⟩ T (0,0))} β l:=by
  intro l e ah;cases l with
  |slot s=>rfl
  |cell r i=>
   simp only [aF.at]at ah;cases ak:look st.H r with
   |none=>simp [ak]at ah
   |some c=>simp [b9,WR r c ak]
 have Km:∀i e,cs[i]? = some e→∃v,vs[i]? = some v∧b9 tmps {w with heap:=w.heap.push (.cells ⟨vs⟩ T (0,0))} (λr=>if r=dt then some w.heap.size else β r) (.cell dt i)=v:=by
  intro i e hi;have BT:i<cs.length:=(List.getElem?_eq_some_iff.1 hi).1;have eg:vs[i]? = some vs[i]:=List.getElem?_eq_getElem (by omega)
  exact⟨_,eg,by simp [b9,World.cell?,hlen ▸ BT]⟩
 have eM:∀l e,({st with H:=(dt,cs)::st.H,aU:=n'}:aF).at l=some e→(∃i,l = .cell dt i∧cs[i]? = some e)∨(st.at l=some e∧∀i,l ≠ .cell dt i):=by
  intro l e ah;cases l with
  |slot s=>exact .inr ⟨ah,by simp⟩
  |cell r i=>
   by_cases ak:r=dt
   ·subst ak;simp [aF.at,dn]at ah;exact .inl ⟨i,rfl,ah⟩
   ·refine .inr ⟨?_,by simp [ak]⟩
    simpa [aF.at,dn,Ne.symm ak]using ah
 have iC:∀l e T',({st with H:=(dt,cs)::st.H,aU:=n'}:aF).at l=some e→e.own=some T'→(∃i,l = .cell dt i)→b9 tmps {w with heap:=w.heap.push (.cells ⟨vs⟩ T (0,0))} (λr=>if r=dt then some w.heap.size else β r) l = .slice none 0 0:=by
  rintro l e T' ah aN ⟨i,rfl⟩
  have hi:cs[i]? = some e:=by simpa [aF.at,dn]using ah
  obtain⟨v,ab,ai⟩:=Km i e hi;rw [ai];exact(aA i v e ab hi).2 T' aN
 constructor
 ·intro l e ah;rcases eM l e ah with⟨i,rfl,hi⟩|⟨ax,_⟩
  ·obtain⟨v,ab,ai⟩:=Km i e hi;rw [ai];exact fl (aA i v e ab hi).1
  ·rw [b8 l e ax];exact fl (hg.ez l e ax)
 ·intro l e T' ah aN;rcases eM l e ah with⟨i,iX,hi⟩|⟨ax,_⟩
  ·rw [iC l e T' ah aN ⟨i,iX⟩];exact .inl rfl
  ·rw [b8 l e ax];exact hg.own l e T' ax aN
 ·intro l cz e aZ fX mC b ah aN cF dK hb bO;rcases eM l e ah with⟨i,iX,hi⟩|⟨ax,_⟩
  ·rw [iC l e fX ah aN ⟨i,iX⟩]at hb;cases hb
  ·rcases eM cz aZ cF with⟨i,iX,hi⟩|⟨iY,_⟩
   ·rw [iC cz aZ mC cF dK ⟨i,iX⟩]at bO;cases bO
   ·rw [b8 l e ax]at hb;rw [b8 cz aZ iY]at bO;exact hg.uniq l cz e aZ fX mC b ax aN iY dK hb bO
 ·intro l e fX b r c ah aN hb ak;rcases eM l e ah with⟨i,iX,hi⟩|⟨ax,_⟩
  ·rw [iC l e fX ah aN ⟨i,iX⟩]at hb;cases hb
  ·rw [b8 l e ax]at hb
   have cV:b<w.heap.size:=by
    have ab:=(h.own l e fX ax aN)
    have ai:b9 tmps {w with heap:=w.heap.push (.cells ⟨vs⟩ T (0,0))} β l=b9 tmps w β l:=by
     cases l with
     |slot s=>rfl
     |cell r i=>
      simp only [aF.at]at ax;cases ak:look st.H r with
      |none=>simp [ak]at ax
      |some c=>
       obtain⟨cj,kL,mC,e6,bz,_⟩:=h.box r c ak;simp only [b9,e6];rw [oa (w:=w) (by simp [Array.getElem?_push,Nat.ne_of_lt (lt_of_heap bz)])]
    rw [ai]at hb;exact ab.lt hb
   by_cases h6:r=dt
   ·subst h6;simp;omega
   ·simp [h6];exact hg.unbox l e fX b r c ax aN hb (by simpa [dn,Ne.symm h6]using ak)
 ·intro r c ak;by_cases h6:r=dt
  ·subst h6;simp [dn]at ak;subst ak;refine⟨w.heap.size,vs,T,by simp,by simp,hlen,λo=>?_,?_,fP,hlies⟩
   ·cases hm:M w.heap.size o with
    |none=>rfl
    |some v=>have:=lt_of_cell (h.mem _ _ _ hm);omega
   ·cases du:K.F w.heap.size with
    |none=>rfl
    |some a6=>have:=lt_of_heap (h.frame _ a6 du).1;omega
  ·obtain⟨b,kL,fX,ab,ai,ay⟩:=hg.box r c (by simpa [dn,Ne.symm h6]using ak)
   exact⟨b,kL,fX,by simp [h6,ab],ai,ay⟩
 ·intro r cA b c gk ak eD hb bO;by_cases h6:r=dt<;>by_cases sa:cA=dt
  ·rw [h6,sa]
  ·simp [h6]at hb;simp [sa]at bO;have:=h.uk (by simpa [dn,Ne.symm sa]using eD) bO
   omega
  ·simp [sa]at bO;simp [h6]at hb;have:=h.uk (by simpa [dn,Ne.symm h6]using ak) hb
   omega
  ·simp [h6]at hb;simp [sa]at bO;exact h.inj r cA b c gk (by simpa [dn,Ne.symm h6]using ak) (by simpa [dn,Ne.symm sa]using eD) hb bO
 ·intro r b hb;by_cases h6:r=dt
  ·subst h6;exact WQ
  ·simp [h6]at hb;have:=h.lt r b hb;simp;omega
 ·exact hg.mem
 ·exact hg.m0
 ·exact hg.frame
 ·intro r b hb;exact cS r b (h.gO r b hb)
 ·exact hg.hD
 ·exact hg.gj
end
section
variable {P:Program} {K:Ctx} {M M':Mem} {β β':Nat→Option Nat} {st bS:aF} {tmps dU:Array Value} {w w':World}
def bE.xF(h:bE P K M β st tmps w){r b:Nat}{cs:List aS}(ak:look st.H r=some cs)(hb:β r=some b){vs vs':List Value}{T:TypeId}
 (bz:w.heap[b]? = some (.cells ⟨vs⟩ T (0,0))) {cs':List aS} (hlen:vs'.length=cs'.length) (fP:∀v,v∈vs'→v.oneCell'=true) (hlies:jo P T vs.length cs→jo P T vs'.length cs') (dP:cs'.length=cs.length)
 (ln:w'.heap[b]? = some (.cells ⟨vs'⟩ T (0,0))) (ul:∀bM,bM≠b→w'.heap[bM]? = w.heap[bM]?) (i0:Nat)
 (aA:∀(i:Nat) v e,vs'[i]? = some v→cs'[i]? = some e→co M β v e.d∧∀T,e.own=some T→
  (i≠i0∧(∃bP,cs[i]? = some bP∧bP.own=some T)∧vs[i]? = some v)∨(i=i0∧km P K M β st tmps w (.cell r i0) v T)) (lZ:(w'.os,w'.output)=(w.os,w.output):=by rfl):
 bE P K M β {st with H:=(r,cs')::st.H} tmps w':=by
 have xG:K.F b=none∧∀o,M b o=none:=by
  obtain⟨cj,_,_,ab,_,_,ai,ay,_⟩:=h.box r cs ak;rw [hb]at ab;cases ab;exact⟨ay,ai⟩
 have WS:jo P T vs.length cs:=by
  obtain⟨cj,kL,fX,ab,ai,_,_,_,_,ay⟩:=h.box r cs ak;rw [hb]at ab;cases ab;rw [bz]at ai;cases ai;exact ay
 have gG:∀bM,bM≠b→∀o,w'.cell? ⟨bM,o,none⟩=w.cell? ⟨bM,o,none⟩:=λbM dQ o=>oa (ul bM dQ)
 have dQ:∀cA c bM,look st.H cA=some c→β cA=some bM→cA≠r→bM≠b:=λcA c bM eD bO dQ e=>dQ (h.inj cA r bM c cs eD ak bO (e ▸ hb))
 have eM:∀l e,({st with H:=(r,cs')::st.H}:aF).at l=some e→(∃i v,l = .cell r i∧cs'[i]? = some e∧vs'[i]? = some v∧b9 tmps w' β l=v)∨(st.at l=some e∧b9 tmps w' β l=b9 tmps w β l∧∀i,l ≠ .cell r i):=by
  intro l e ah;cases l with
  |slot s=>exact .inr ⟨ah,rfl,by simp⟩
  |cell cA i=>
   by_cases f_:cA=r
   ·subst f_;simp [aF.at,dn]at ah;have hi:i<cs'.length:=(List.getElem?_eq_some_iff.1 ah).1;have eg:vs'[i]? = some vs'[i]:=List.getElem?_eq_getElem (by omega)
    exact .inl ⟨i,_,rfl,ah,eg,by simp only [b9,hb,cell_of_heap ln,eg,Option.getD_some]⟩
   ·have cF:st.at (.cell cA i)=some e:=by simpa [aF.at,dn,Ne.symm f_]using ah
    refine .inr ⟨cF,?_,by simp [f_]⟩
    simp only [aF.at]at cF;cases eD:look st.H cA with
    |none=>simp [eD]at cF
    |some c=>
     obtain⟨cj,_,_,cS,_⟩:=h.box cA c eD;simp only [b9,cS];rw [gG cj (dQ cA c cj eD cS f_)]
 have fk:∀l e T,({st with H:=(r,cs')::st.H}:aF).at l=some e→e.own=some T→
  (l ≠ .cell r i0∧(∃bP,st.at l=some bP∧bP.own=some T)∧b9 tmps w' β l=b9 tmps w β l)∨(l = .cell r i0∧km P K M β st tmps w (.cell r i0) (b9 tmps w' β l) T):=by
  intro l e fX ah aN;rcases eM l e ah with⟨i,v,rfl,hi,eg,b8⟩|⟨ax,b8,ho⟩
  ·rcases(aA i v e eg hi).2 fX aN with⟨WT,⟨bP,BU,iZ⟩,hold⟩|⟨rfl,hn⟩
   ·refine .inl ⟨by simp [WT],⟨bP,by simp [aF.at,ak,BU],iZ⟩,?_⟩
    rw [b8];simp only [b9,hb,cell_of_heap bz,hold,Option.getD_some]
   ·exact .inr ⟨rfl,by rw [b8];exact hn⟩
  ·exact .inl ⟨ho i0,⟨e,ax,aN⟩,b8⟩
 have ej:∀cA c,look ((r,cs')::st.H) cA=some c→∃gk,look st.H cA=some gk:=by
  intro cA c hc;by_cases f_:r=cA
  ·exact⟨cs,f_ ▸ ak⟩
  ·exact⟨c,by simpa [dn,f_]using hc⟩
 constructor
 ·intro l e ah;rcases eM l e ah with⟨i,v,rfl,hi,eg,b8⟩|⟨ax,b8,ho⟩
  ·rw [b8];exact(aA i v e eg hi).1
  ·rw [b8];exact h.ez l e ax
 ·intro l e fX ah aN;rcases fk l e fX ah aN with⟨_,⟨bP,h0,iZ⟩,b8⟩|⟨rfl,hn⟩
  ·rw [b8];refine(h.own l bP fX h0 iZ).congr (λcj cS=>ul cj ?_) (λ_ _ _=>rfl)
   rintro rfl
   exact h.unbox l bP fX cj r cs h0 iZ cS ak hb
  ·refine hn.own.congr (λcj cS=>ul cj ?_) (λ_ _ _=>rfl)
   rintro rfl
   exact hn.unbox cj r cs cS ak hb
 ·intro l cz e aZ fX mC cj ah aN cF dK cS qa;rcases fk l e fX ah aN with⟨hl0,⟨bP,h0,iZ⟩,b8⟩|⟨rfl,hn⟩<;>rcases fk cz aZ mC cF dK with⟨WU,⟨sb,o6,um⟩,nt⟩|⟨rfl,xH⟩
  ·rw [b8]at cS;rw [nt]at qa;exact h.uniq l cz bP sb fX mC cj h0 iZ o6 um cS qa
  ·rw [b8]at cS;exact absurd cS (xH.apart l bP fX cj h0 iZ hl0 qa)
  ·rw [nt]at qa;exact absurd qa (hn.apart cz sb mC cj o6 um WU cS)
  ·rfl
 ·intro l e fX cj cA c ah aN cS eD;obtain⟨gk,il⟩:=ej cA c eD;rcases fk l e fX ah aN with⟨_,⟨bP,h0,iZ⟩,b8⟩|⟨rfl,hn⟩
  ·rw [b8]at cS;exact h.unbox l bP fX cj cA gk h0 iZ cS il
  ·exact hn.unbox cj cA gk cS il
 ·intro cA c eD;by_cases f_:r=cA
  ·subst f_;simp [dn]at eD;subst eD;exact⟨b,vs',T,hb,ln,hlen,xG.2,xG.1,fP,hlies WS⟩
  ·have hQ:look st.H cA=some c:=by simpa [dn,f_]using eD
   obtain⟨cj,kL,fX,ab,ai,ay⟩:=h.box cA c hQ;exact⟨cj,kL,fX,ab,(ul cj (dQ cA c cj hQ ab (Ne.symm f_))).trans ai,ay⟩
 ·intro ae an cj c1 c2 gF hQ cS e6;obtain⟨Kn,ab⟩:=ej ae c1 gF;obtain⟨Ko,ai⟩:=ej an c2 hQ;exact h.inj ae an cj Kn Ko ab ai cS e6
 ·exact h.lt
 ·intro cj o v hm;by_cases sc:cj=b
  ·subst sc;rw [xG.2 o]at hm;cases hm
  ·rw [gG cj sc];exact h.mem cj o v hm
 ·exact h.m0
 ·intro cj a6 du;have sc:cj≠b:=by rintro rfl;rw [xG.1]at du;cases du
  obtain⟨ab,ai⟩:=h.frame cj a6 du;exact⟨(ul cj sc).trans ab,ai⟩
 ·exact h.gO
 ·exact h.hD
 ·exact lZ.trans h.gj
def kM:∀(l:List Nat) (env:List (Nat×aS)) (s:Nat),
 look (fV l env) s=if s∈l then(look env s).map (λe=>{e with own:=none})else look env s
 |[],env,s=>by simp [fV]
 |t::l,env,s=>by
  have bv:=kM l env s;simp only [fV];cases ce:look env t with
  |none=>
   simp only [bv];by_cases hs:s=t
   ·subst hs;simp [ce]
   ·simp [hs]
  |some e=>
   simp only [dn];by_cases hs:t=s
   ·subst hs;simp [ce]
   ·simp [hs,Ne.symm hs,bv]
def bE.f5(h:bE P K M β st tmps w)(l:List Nat):bE P K M β {st with env:=fV l st.env} tmps w:=by
 refine h.sub rfl (λhl aZ ah=>?_) (λr cs ak=>⟨cs,ak,rfl⟩)
 cases hl with
 |slot s=>
  simp only [aF.at,kM]at ah ⊢;by_cases hs:s∈l
  ·simp only [hs,if_true,Option.map_eq_some_iff]at ah;obtain⟨e,he,rfl⟩:=ah;exact⟨e,he,rfl,by simp⟩
  ·simp only [hs,if_false]at ah;exact⟨aZ,ah,rfl,λ_ h=>h⟩
 |cell r i=>exact⟨aZ,ah,rfl,λ_ h=>h⟩
def bE.hand(h:bE P K M β st tmps w){s:Nat}{e:aS}{T:TypeId}(hs:look st.env s=some e)(aN:e.own=some T)(l0:Loc):
 km P K M β {st with env:=fV [s] st.env} tmps w l0 (tmps.getD s undef) T:=by
 have ah:st.at (.slot s)=some e:=hs;refine⟨h.own (.slot s) e T ah aN,λl aZ T' b cF dK _ hb bO=>?_,λb r cs hb ak=>h.unbox (.slot s) e T b r cs ah aN hb ak⟩
 have eE:∃e2,st.at l=some e2∧e2.own=some T'∧l ≠ .slot s:=by
  cases l with
  |slot ob=>
   simp only [aF.at,kM]at cF ⊢;by_cases qb:ob=s
   ·subst qb;simp at cF;obtain⟨_,_,rfl⟩:=cF;simp at dK
   ·simp [qb]at cF;exact⟨aZ,cF,dK,by simp [qb]⟩
  |cell r i=>exact⟨aZ,cF,dK,by simp⟩
 obtain⟨e2,ai,WV,dQ⟩:=eE;exact dQ (h.uniq l (.slot s) e2 e T' T b ai WV ah aN bO hb)
def bE.Kp(h:bE P K M β st tmps w){r i:Nat}{cs cs':List aS}{e:aS}{T:TypeId}(ak:look st.H r=some cs)(hi:cs[i]? = some e)(aN:e.own=some T)
 (dP:cs'.length=cs.length) (hE:∀(j:Nat) aZ,cs'[j]? = some aZ→∃bP,cs[j]? = some bP∧bP.d=aZ.d∧(∀T,aZ.own=some T→bP.own=some T∧j≠i)) (l0:Loc):
 bE P K M β {st with H:=(r,cs')::st.H} tmps w∧km P K M β {st with H:=(r,cs')::st.H} tmps w l0 (b9 tmps w β (.cell r i)) T:=by
 have ah:st.at (.cell r i)=some e:=by simp [aF.at,ak,hi]
 have eM:∀l aZ,({st with H:=(r,cs')::st.H}:aF).at l=some aZ→∃bP,st.at l=some bP∧bP.d=aZ.d∧∀T,aZ.own=some T→bP.own=some T∧l ≠ .cell r i:=by
  intro l aZ cF;cases l with
  |slot s=>exact⟨aZ,cF,rfl,λT h=>⟨h,by simp⟩⟩
  |cell cA j=>
   by_cases f_:r=cA
   ·subst f_;simp [aF.at,dn]at cF;obtain⟨bP,ab,ai,ay⟩:=hE j aZ cF;exact⟨bP,by simp [aF.at,ak,ab],ai,λT aN=>⟨(ay T aN).1,by simp [(ay T aN).2]⟩⟩
   ·refine⟨aZ,by simpa [aF.at,dn,f_]using cF,rfl,λT h=>⟨h,by simp [Ne.symm f_]⟩⟩
 have ej:∀cA c,look ((r,cs')::st.H) cA=some c→∃gk,look st.H cA=some gk∧gk.length=c.length:=by
  intro cA c hc;by_cases f_:r=cA
  ·subst f_;simp [dn]at hc;subst hc;exact⟨cs,ak,dP.symm⟩
  ·exact⟨c,by simpa [dn,f_]using hc,rfl⟩
 refine⟨h.sub rfl (λl aZ cF=>?_) ej,h.own _ e T ah aN,λl aZ T' b cF dK _ hb bO=>?_,λb cA c hb eD=>?_⟩
 ·obtain⟨bP,ab,ai,ay⟩:=eM l aZ cF;exact⟨bP,ab,ai,λT aN=>(ay T aN).1⟩
 ·obtain⟨bP,ab,_,ay⟩:=eM l aZ cF;exact(ay T' dK).2 (h.uniq l _ bP e T' T b ab (ay T' dK).1 ah aN bO hb)
 ·obtain⟨gk,ab,_⟩:=ej cA c eD;exact h.unbox _ e T b cA gk ah aN hb ab
def BV(l0:Loc)(T:TypeId):km P K M β st tmps w l0 (.slice none 0 0) T:=
 ⟨.inl rfl,λ_ _ _ _ _ _ _ hb=>(by cases hb),λ_ _ _ hb=>(by cases hb)⟩
def Kq:∀{l:List Nat} {env lm:List (Nat×aS)},uh env l=some lm→∀s e,look lm s=some e→look env s=some e
 |[],env,lm,h,s,e,he=>by simp [uh]at h;subst h;simp [look]at he
 |t::l,env,lm,h,s,e,he=>by
  simp only [uh]at h;split at h<;>simp at h
  rename_i e1 hl ab ai;subst h;rw [dn]at he;by_cases jp:t=s
  ·simp [jp]at he;subst he;rw [←jp];exact ab
  ·simp [jp]at he;exact Kq ai s e he
def BW:∀{l:List Nat} {H H':List (Nat×List aS)},ui H l=some H'→∀s e,look H' s=some e→look H s=some e
 |[],env,lm,h,s,e,he=>by simp [ui]at h;subst h;simp [look]at he
 |t::l,env,lm,h,s,e,he=>by
  simp only [ui]at h;split at h<;>simp at h
  rename_i e1 hl ab ai;subst h;rw [dn]at he;by_cases jp:t=s
  ·simp [jp]at he;subst he;rw [←jp];exact ab
  ·simp [jp]at he;exact BW ai s e he
def oc{α:Type}:∀{l:List (Nat×α)} {i:Nat} {x:α},look l i=some x→(i,x)∈l
 |[],_,_,h=>by simp [look]at h
 |(j,y)::l,i,x,h=>by
  rw [dn]at h;by_cases hj:j=i
  ·simp [hj]at h;subst h;simp [hj]
  ·simp [hj]at h;exact List.mem_cons_of_mem _ (oc h)
def BX{n:Nat}:∀{l:List aS} {i:Nat} {e:aS},n8 n l=true→l[i]? = some e→below n e.d=true
 |[],_,_,_,h=>by simp at h
 |d::l,0,_,hb,h=>by simp [n8]at hb;simp at h;exact h ▸ hb.1
 |d::l,i+1,_,hb,h=>by simp [n8]at hb;simp at h;exact BX hb.2 h
def bE.p8(h:bE P K M β st tmps w){live sd:List Nat}{n:Nat}(ak:Ab.p8 live sd n st.env st.H st.aU=some bS)(dV:∀r b,K.h5 r=some b→r<n):
 ∃ β',bE P K M β' bS tmps w:=by
 unfold Ab.p8 at ak;split at ak
 case h_2=>cases ak
 rename_i lm H' he ej;rw [Bool.cond_eq_ite]at ak;split at ak
 case isFalse=>cases ak
 rename_i hc;cases ak;simp only [Bool.and_eq_true,List.all_eq_true,Prod.forall,Nat.blt_eq,Nat.ble_eq]at hc;obtain⟨⟨hn,WW⟩,Kr⟩:=hc
 have ab:bE P K M β {env:=lm,H:=H',aU:=st.aU} tmps w:=by
  refine h.sub rfl (λl aZ ah=>?_) (λr cs ak=>⟨cs,BW ej _ _ ak,rfl⟩)
  refine⟨aZ,?_,rfl,λ_ h=>h⟩
  cases l with
  |slot s=>exact Kq he _ _ ah
  |cell r i=>
   simp only [aF.at]at ah ⊢;cases ak:look H' r with
   |none=>simp [ak]at ah
   |some c=>simp [ak]at ah;simp [BW ej _ _ ak,ah]
 have l1:∀l e,({env:=lm,H:=H',aU:=st.aU}:aF).at l=some e→below n e.d=true∧(∀r i,l = .cell r i→r<n):=by
  intro l e ah;cases l with
  |slot s=>exact⟨WW s e (oc ah),by simp⟩
  |cell r i=>
   simp only [aF.at]at ah;cases ak:look H' r with
   |none=>simp [ak]at ah
   |some c=>
    simp [ak]at ah;have:=Kr r c (oc ak)
    exact⟨BX this.2 ah,by rintro cA kn h;cases h;exact this.1⟩
 refine⟨λr=>if r<n then β r else none,?_⟩
 have b8:∀l e,({env:=lm,H:=H',aU:=st.aU}:aF).at l=some e→b9 tmps w (λr=>if r<n then β r else none) l=b9 tmps w β l:=by
  intro l e ah;cases l with
  |slot s=>rfl
  |cell r i=>simp [b9,(l1 _ _ ah).2 r i rfl]
 have h6:∀r c,look H' r=some c→r<n:=λr c ak=>(Kr r c (oc ak)).1
 constructor
 ·intro l e ah;rw [b8 l e ah];exact(ab.ez l e ah).Kk (λr ak=>by simp [ak]) (l1 l e ah).1
 ·intro l e T ah aN;rw [b8 l e ah];exact ab.own l e T ah aN
 ·intro l cz e aZ T T' b ah aN cF dK hb bO;rw [b8 l e ah]at hb;rw [b8 cz aZ cF]at bO;exact ab.uniq l cz e aZ T T' b ah aN cF dK hb bO
 ·intro l e T b r cs ah aN hb ak;rw [b8 l e ah]at hb;have:=ab.unbox l e T b r cs ah aN hb ak
  simpa [h6 r cs ak]using this
 ·intro r cs ak;obtain⟨b,vs,T,ai,ay⟩:=ab.box r cs ak;exact⟨b,vs,T,by simpa [h6 r cs ak]using ai,ay⟩
 ·intro r cA b cs cs' ak eD hb bO;exact ab.inj r cA b cs cs' ak eD (by simpa [h6 r cs ak]using hb) (by simpa [h6 cA cs' eD]using bO)
 ·intro r b hb;by_cases cV:r<n
  ·exact cV
  ·simp [cV]at hb
 ·exact ab.mem
 ·exact ab.m0
 ·exact ab.frame
 ·intro r b hb;simp [dV r b hb,ab.gO r b hb]
 ·exact ab.hD
 ·exact ab.gj
end
def jq(P:Program):TypeDesc→Option jW
 |.int k=>some (.int k)
 |.bool=>some .bool
 |.string=>some .str
 |.struct cu=>some (.b0 (cu.toList.map λf=>(f.offset,f.type,P.cellsOf f.type)))
 |.slice e=>some (.bC e)
 |.array n e=>some (.arr n e)
 |.pointer _=>some .ptr
 |.func _ _ _=>some .aT
 |.interface _=>some .lT
 |_=>none
def qc:Value→V→Bool
 |.int k n,.int k' n'=>decide (k=k')&&decide (n=n')
 |.bool a,.bool b=>a == b
 |.string s,.str l=>decide (s.data.toList=l)
 |.slice none 0 0,.bC _ n _=>Nat.beq n 0
 |.pointer none,.eb=>true
 |.nilIface,.gN=>true
 |.nilFunc,.aM=>true
 |_,_=>false
def qd:List Value→List V→Bool
 |[],[]=>true
 |v::vs,x::xs=>qc v x&&qd vs xs
 |_,_=>false
def se(P:Program)(inner:TypeId→List Field→Bool):Nat→List Field→Bool
 |_,[]=>true
 | i, f :: l => Nat.beq f.offset i && !decide (f.name = "_") && (match P.underlying f.type with
  |some (.int _) |some .bool |some .string=>se P inner (i+1) l
  |some (.struct gs)=>inner f.type gs.toList&&se P inner (i+P.cellsOf f.type) l
  |_=>false)
def od(P:Program):Nat→List Field→Nat
 | 0,cu=>cu.length
 |d+1,cu=>(cu.map λf=>match P.underlying f.type with
  |some (.struct gs)=>od P d gs.toList
  |_=>1).sum
def qe(P:Program):Nat→Nat→List Field→Bool
 | 0=>se P λ_ _=>false
 |d+1=>se P λt gs=>!P.stoodInHeld t&&Nat.beq (P.cellsOf t) (od P d gs)&&qe P d 0 gs
def BY(P:Program)(t:TypeId):Bool:=
 match P.underlying t with
 |some (.struct cu)=>!P.stoodInHeld t && !P.eqGuardType P.depth t&&qe P 4 0 cu.toList
 |_=>false
def Ks(P:Program)(t:TypeId)(aD:ef):Bool:=
 match P.info? t,P.underlying t with
 |some i,some d=>decide (jq P d=some aD.k)&&Nat.beq i.size aD.size&&Nat.beq i.bytes aD.bytes&&Nat.beq aD.zero.length aD.size &&
  aD.h2.all (λx=>liesAt P P.depth t (aD.size / P.cellsOf t) x.1 x.2 1) &&
  (match i.zero with|some z=>qd z.cells.toList aD.zero&&(match z with|.agg _=>aD.k.isAgg|.tuple _=>false|_=>!aD.k.isAgg)|none=>false)
 |_,_=>false
def eF(P:Program)(tt:dr):Bool:=tt.all λx=>Ks P x.1 x.2
def BZ{M:Mem}{v:Value}{x:V}(h:qc v x=true):dc M v x∧v.oneCell'=true:=by
 unfold qc at h;split at h<;>simp at h
 ·obtain⟨rfl,rfl⟩:=h;exact⟨.int _ _,rfl⟩
 ·subst h;exact⟨.bool _,rfl⟩
 ·rename_i s l;subst h;exact⟨by exact .str s.data.toList,rfl⟩
 ·subst h;exact⟨.jK _ _,rfl⟩
 ·exact⟨.eb,rfl⟩
 ·exact⟨.gN,rfl⟩
 ·exact⟨.aM,rfl⟩
def sf{M:Mem}:∀{vs:List Value} {xs:List V},qd vs xs=true→vs.length=xs.length∧(∀v,v∈vs→v.oneCell'=true)∧∀(i:Nat) v x,vs[i]? = some v→xs[i]? = some x→dc M v x∧qc v x=true
 |[],[],_=>by simp
 |[],_::_,h=>by simp [qd]at h
 |_::_,[],h=>by simp [qd]at h
 |v::vs,x::xs,h=>by
  simp [qd]at h;obtain⟨ab,ai,ay⟩:=sf (M:=M) h.2;refine⟨by simp [ab],?_,?_⟩
  ·intro u hu;rcases List.mem_cons.1 hu with rfl|hu
   ·exact(BZ (M:=M) h.1).2
   ·exact ai u hu
  ·intro i u y hu b_;cases i with
   |zero=>simp at hu b_;subst hu;subst b_;exact⟨(BZ h.1).1,h.1⟩
   |succ i=>simp at hu b_;exact ay i u y hu b_
structure Row(P:Program)(t:TypeId)(aD:ef) where
 info:TypeInfo
 desc:TypeDesc
 z:Value
 hi:P.info? t=some info
 hd:P.underlying t=some desc
 hk:jq P desc=some aD.k
 size:info.size=aD.size
 bytes:info.bytes=aD.bytes
 ek:info.zero=some z
 B0:aD.zero.length=aD.size
 un:qd z.cells.toList aD.zero=true
 h2:(aD.h2.all λx=>liesAt P P.depth t (aD.size / P.cellsOf t) x.1 x.2 1)=true
 ahV:match z with|.agg _=>aD.k.isAgg=true|.tuple _=>False|_=>aD.k.isAgg=false
theorem d_{P:Program}{tt:dr}(h:eF P tt=true){t:TypeId}{aD:ef}(ce:look tt t=some aD):Nonempty (Row P t aD):=by
 have hm:=oc ce;unfold eF at h;rw [List.all_eq_true]at h;have:=h _ hm
 unfold Ks at this
 dsimp only at this
 split at this
 case h_2=>cases this
 rename_i i d hi hd;simp only [Bool.and_eq_true,decide_eq_true_eq,Nat.beq_eq]at this;obtain⟨⟨⟨⟨⟨ab,ai⟩,ay⟩,bg⟩,l1⟩,bQ⟩:=this;split at bQ
 case h_2=>cases bQ
 rename_i z ek;simp only [Bool.and_eq_true]at bQ
 exact⟨⟨i,d,z,hi,hd,ab,ai,ay,ek,bg,bQ.1,l1,by
  have:=bQ.2
  cases z<;>simp at this<;>simp [this]⟩⟩
def Row.cellsOf{P:Program}{t:TypeId}{aD:ef}(r:Row P t aD):P.cellsOf t=aD.size:=by
 simp [Program.cellsOf,r.hi,r.size]
section runs
variable {P:Program} {t:TypeId} {aD:ef} (w:World)
def Row.run_sizeOf(r:Row P t aD):(sizeOf t).run P w = .ok aD.size w:=by
 rw [Go.run_sizeOf w r.hi,r.cellsOf]
def Row.xI(r:Row P t aD):(zeroValue t).run P w = .ok r.z w:=by
 simp [zeroValue,typeInfo,r.hi,r.ek]
def Row.run_underlying(r:Row P t aD):(underlying t).run P w = .ok r.desc w:=Go.run_underlying r.hd w
def Row.sg(r:Row P t aD):(isAgg t).run P w = .ok aD.k.isAgg w:=by
 have hk:=r.hk;simp only [isAgg,Sem.run_bind,r.run_underlying,Result.andThen_ok];cases hd:r.desc<;>simp [hd,jq]at hk<;>simp [←hk,jW.isAgg]
end runs
def fe(tmps:Array Value)(p:Path):Prop:=∀x,x∈p→tmps.getD x.1 undef = .bool x.2
structure eZ(P:Program)(K:Ctx)(N:Nat)(M:Mem)(β:Nat→Option Nat)(g:db)(tmps:Array Value)(w:World):Prop where
 bn:bE P K M β {env:=g.env,H:=g.H,aU:=g.aU} tmps w
 size:tmps.size=N
 fresh:∀s id,look g.ids s=some id→look g.H id=none→∀b,β id≠some b
 cond:∀t q d,look g.bV t=some (q,d)→(fe tmps q→co M β (tmps.getD t undef) d)∧(¬ fe tmps q→tmps.getD t undef=undef)
def Path.WX{q p:Path}(h:q.sub p=true){tmps:Array Value}(hp:fe tmps p):fe tmps q:=by
 intro x hx;unfold Path.sub at h;rw [List.all_eq_true]at h;have:=h x hx
 unfold Path.has at this;rw [List.any_eq_true]at this;obtain⟨y,b_,ko⟩:=this;simp at ko
 have ab:=hp y b_;rw [←ko.1,←ko.2];exact ab
def WY{M:Mem}{v:Value}{x:V}(h:BG v=some x):dc M v x:=by
 unfold BG at h;split at h<;>simp at h<;>subst h
 ·exact .int _ _
 ·exact .bool _
 ·rename_i s;exact .str s.data.toList
 ·exact .eb
 ·exact .gN
 ·exact .aM
def dL{P:Program}{K:Ctx}{N:Nat}{M:Mem}{β:Nat→Option Nat}{g:db}{tmps:Array Value}{w:World}(h:eZ P K N M β g tmps w){p:Path}(hp:fe tmps p){tt:dr}{ty:TypeId}{x:Operand}{d:D}
 (hx:rd g.env g.bV p tt ty x=some d) {ds:List Deferred}:co M β ((⟨tmps,ds⟩:Act).eval x) d:=by
 cases x with
 |tmp t=>
  simp only [rd]at hx;split at hx
  ·rename_i q dT hc;rw [Bool.cond_eq_ite]at hx;split at hx<;>simp at hx
   subst hx;exact(h.cond t q dT hc).1 (Path.WX (by assumption) hp)
  ·simp only [Option.map_eq_some_iff]at hx;obtain⟨e,he,rfl⟩:=hx;exact h.bn.ez (.slot t) e he
 |const v=>
  simp only [rd]at hx;split at hx
  ·rename_i heq;cases heq
  ·rename_i heq;cases heq;split at hx
   ·cases hx;exact .v _ _ (.jK _ _)
   ·cases hx
  ·rename_i heq;cases heq;simp only [Option.map_eq_some_iff]at hx;obtain⟨y,b_,rfl⟩:=hx;exact .v _ _ (WY b_)
  ·rename_i heq;cases heq
  ·rename_i heq;cases heq
 |global n=>simp [rd]at hx
 |func f=>
  simp [rd]at hx;subst hx;exact .fn f [] [] rfl (by simp)
def WZ{v:Value}(h:v.oneCell'=true):v.cells = #[v]:=by
 cases v<;>first|rfl|(simp [Value.oneCell']at h)
def co.cells{M:Mem}{β:Nat→Option Nat}{v:Value}{d:D}(h:co M β v d)(ce:nq d=false):
 v.cells.toList.length=(cellsD d).length∧(∀u,u∈v.cells.toList→u.oneCell'=true)∧∀(i:Nat) u c,v.cells.toList[i]? = some u→(cellsD d)[i]? = some c→co M β u c:=by
 have single:∀{v:Value} {d:D},v.cells = #[v]→cellsD d=[d]→v.oneCell'=true→co M β v d→
  v.cells.toList.length=(cellsD d).length∧(∀u,u∈v.cells.toList→u.oneCell'=true)∧∀(i:Nat) u c,v.cells.toList[i]? = some u→(cellsD d)[i]? = some c→co M β u c:=by
  intro v d ab ai ay bg;rw [ab,ai];refine⟨rfl,by simpa using ay,λi u c hu hc=>?_⟩
  cases i with
  |zero=>simp at hu hc;subst hu;subst hc;exact bg
  |succ i=>simp at hu
 cases h with
 |v u x hx=>
  cases hx with
  |agg vs cs hn ab ak=>
   refine⟨by simp [Value.cells,cellsD,V.cells,hn],by simpa [Value.cells]using ab,λi u c hu hc=>?_⟩
   simp [Value.cells]at hu;simp [cellsD,V.cells]at hc;obtain⟨a,ha,rfl⟩:=hc;exact .v _ _ (ak i u a hu ha)
  |any v ab=>exact single (WZ ab) rfl ab (.v _ _ (.any _ ab))
  |_=>exact single rfl rfl rfl (.v _ _ (by constructor<;>assumption))
 |ptr r off b hb=>exact single rfl rfl rfl (.ptr r off b hb)
 |jL r off u=>exact single rfl rfl rfl (.jL r off u)
 |cn r off b u hb=>exact single rfl rfl rfl (.cn r off b u hb)
 |eB b off x val cX ab ak=>exact single rfl rfl rfl (.eB b off x val cX ab ak)
 |full b k n get h=>exact single rfl rfl rfl (.full b k n get h)
 |fn f vs cs hn ak=>exact single rfl rfl rfl (.fn f vs cs hn ak)
 |agg vs cs hn ab ak=>exact⟨hn,ab,ak⟩
 |cf vs cs hn ak=>simp [nq]at ce
def W0{cs:List D}:∀{xs:List V},ub cs=some xs→cs=xs.map .v:=by
 induction cs with
 |nil=>intro xs h;simp [ub]at h;subst h;rfl
 |cons d l bv=>
  intro xs h;cases d<;>simp [ub]at h
  obtain⟨ys,b_,rfl⟩:=h;simp [bv b_]
def sh{M:Mem}{β:Nat→Option Nat}{vs:List Value}{cs:List D}(hn:vs.length=cs.length)(ab:∀v,v∈vs→v.oneCell'=true)
 (h:∀(i:Nat) v c,vs[i]? = some v→cs[i]? = some c→co M β v c):co M β (.agg ⟨vs⟩) (kj cs):=by
 unfold kj;split
 ·rename_i xs hx;have:=W0 hx
  subst this;refine .v _ _ (.agg vs xs (by simpa using hn) ab λi v c aA hc=>?_)
  have:=h i v (.v c) aA (by simp [hc])
  cases this;assumption
 ·exact .agg vs cs hn ab h
section
variable {P:Program} {K:Ctx} {N:Nat} {M:Mem} {β:Nat→Option Nat} {st:aF} {g:db} {tmps:Array Value} {w:World} {v:Value}
def jZ{k:IntKind}{n:Int}(h:co M β v (.v (.int k n))):v = .int k n:=by
 cases h with|v u x h=>cases h;rfl
def lp{x:V}(h:co M β v (.v x)):dc M v x:=by
 cases h with|v u x h=>exact h
def qf{b:Bool}(h:co M β v (.v (.bool b))):v = .bool b:=by
 cases h with|v u x h=>cases h;rfl
def kp{l:ajK}(h:co M β v (.v (.str l))):v = .string ⟨⟨l⟩⟩:=by
 cases h with|v u x h=>cases h;rfl
def l2{r off:Nat}(h:co M β v (.ptr r off)):∃b,β r=some b∧v = .pointer (some ⟨b,off,none⟩):=by
 cases h with|ptr r off b h=>exact⟨b,h,rfl⟩
def B1{t:TypeId}{x:V}(h:co M β v (.v (.iface t x))):∃u,v = .iface t u∧dc M u x:=by
 cases h with|v u x h=>cases h with|iface t u x h=>exact⟨u,rfl,h⟩
def W1{cs:List V}(h:co M β v (.v (.agg cs))):∃vs:List Value,v = .agg ⟨vs⟩∧vs.length=cs.length∧(∀u,u∈vs→u.oneCell'=true)∧∀(i:Nat) u c,vs[i]? = some u→cs[i]? = some c→dc M u c:=by
 cases h with|v u x h=>cases h with|agg vs cs hn ab h=>exact⟨vs,rfl,hn,ab,h⟩
def W2{cs:List D}(h:co M β v (.cf cs)):∃vs:List Value,v = .tuple ⟨vs⟩∧vs.length=cs.length∧∀(i:Nat) u c,vs[i]? = some u→cs[i]? = some c→co M β u c:=by
 cases h with|cf vs cs hn h=>exact⟨vs,rfl,hn,h⟩
def Kt{f:FuncId}{cs:List D}(h:co M β v (.fn f cs)):∃vs:List Value,v = .func (.func f) #[] ⟨vs⟩∧vs.length=cs.length∧∀(i:Nat) u c,vs[i]? = some u→cs[i]? = some c→co M β u c:=by
 cases h with|fn f vs cs hn h=>exact⟨vs,rfl,hn,h⟩
def o7{k n:Nat}{get:Nat→V}(h:co M β v (.v (.bC k n get))):((v = .slice none 0 0∨∃a,v = .slice (some a) 0 0)∧n=0)∨
 ∃(b off cap:Nat) (val:Nat→Nat→Value),v = .slice (some ⟨b,off,none⟩) n cap∧n≤cap∧(∀i,i<n→(get i).cells.length=k)∧(∀i j,i<n→j<k→M b (off+i*k+j)=some (val i j))∧
  (∀i j,i<n→j<k→(val i j).oneCell'=true)∧(∀(i j:Nat) c,i<n→(get i).cells[j]? = some c→dc M (val i j) c):=by
 cases h with
 |v u x h=>
  cases h with
  |jK=>exact .inl ⟨.inl rfl,rfl⟩
  |lU a=>exact .inl ⟨.inr ⟨a,rfl⟩,rfl⟩
  |bC b off k n cap get val hc hk cX ab h=>exact .inr ⟨b,off,cap,val,rfl,hc,hk,cX,ab,h⟩
def xJ{x:V}(h:co M β v (.eB x)):∃(b off:Nat) (val:Nat→Value),v = .pointer (some ⟨b,off,none⟩)∧(∀j,j<x.cells.length→M b (off+j)=some (val j))∧(∀j,j<x.cells.length→(val j).oneCell'=true)∧
 (∀(j:Nat) c,x.cells[j]? = some c→dc M (val j) c):=by
 cases h with|eB b off x val cX ab h=>exact⟨b,off,val,rfl,cX,ab,h⟩
def qg{k n:Nat}{get:Nat→V}(h:co M β v (.v (.bC k n get))):∃a cap,v = .slice a n cap∧n≤cap:=by
 rcases o7 h with⟨rfl|⟨a,rfl⟩,rfl⟩|⟨b,off,cap,val,rfl,hc,_⟩
 ·exact⟨_,_,rfl,Nat.le_refl _⟩
 ·exact⟨_,_,rfl,Nat.le_refl _⟩
 ·exact⟨_,_,rfl,hc⟩
def addr_add(b off n:Nat):(⟨b,off,none⟩:Addr).add n=⟨b,off+n,none⟩:=by
 unfold Addr.add;split<;>simp_all
def si{x:V}(hx:x.isAgg=false):x.cells=[x]:=by
 cases x<;>first|rfl|simp [V.isAgg]at hx
def Ku{x:V}{val:Nat→Value}(ab:∀j,j<x.cells.length→(val j).oneCell'=true)(h:∀(j:Nat) c,x.cells[j]? = some c→dc M (val j) c):
 dc M (bif x.isAgg then .agg ⟨(List.range x.cells.length).map val⟩else val 0) x:=by
 cases hx:x.isAgg with
 |false=>
  have:=si hx
  simpa using h 0 x (by simp [this])
 |true=>
  cases x<;>simp [V.isAgg]at hx
  rename_i cs;refine .agg _ cs (by simp [V.cells]) ?_ ?_
  ·intro u hu;obtain⟨j,hj,rfl⟩:=List.mem_map.1 hu;exact ab j (by simpa using hj)
  ·intro i u c hu hc;simp only [List.getElem?_map,Option.map_eq_some_iff]at hu;obtain⟨j,hj,rfl⟩:=hu
   have:j=i:=by
    rw [List.getElem?_eq_some_iff]at hj;obtain⟨_,h⟩:=hj;simpa using h.symm
   subst this;exact h j c hc
def W3{t:TypeId}{aD:ef}(r:Row P t aD)(xD:∀b o v,M b o=some v→w.cell? ⟨b,o,none⟩=some v){x:V}(aA:co M β v (.eB x))(hx:x.isAgg=aD.k.isAgg)(hs:x.cells.length=aD.size):
 ∃u,(Instr.loadAt t v).run P w = .ok u w∧dc M u x:=by
 obtain⟨b,off,val,rfl,cX,ab,h⟩:=xJ aA;refine⟨_,?_,Ku ab h⟩
 have ah:∀j,j<aD.size→w.cell? ((⟨b,off,none⟩:Addr).add j)=some (val j):=λj hj=>by rw [addr_add];exact xD _ _ _ (cX j (by omega))
 cases ha:x.isAgg with
 |true=>
  rw [ha]at hx;simp [Instr.loadAt,Instr.sureAddr,loadVar,r.sg,←hx,r.run_sizeOf,run_loadCells w ⟨b,off,none⟩ aD.size val ah,hs]
 |false=>
  rw [ha]at hx;have h0:=cX 0 (by rw [si ha];simp)
  have:=xD _ _ _ h0
  simp [Instr.loadAt,Instr.sureAddr,loadVar,r.sg,←hx,run_load];simp at this
  rw [this]
def xK{t:TypeId}{aD:ef}(r:Row P t aD){b off:Nat}{vs:List Value}{T:TypeId}{f:Nat×Nat}(bz:w.heap[b]? = some (.cells ⟨vs⟩ T f))(hle:off+aD.size≤vs.length)(ha:aD.k.isAgg=true):
 (Instr.loadAt t (.pointer (some ⟨b,off,none⟩))).run P w = .ok (.agg ⟨(vs.drop off).take aD.size⟩) w:=by
 have hlen:((vs.drop off).take aD.size).length=aD.size:=by simp;omega
 have:=run_loadCells_list (P:=P) w ⟨b,off,none⟩ ((vs.drop off).take aD.size) (λj u hj=>by
  rw [addr_add,cell_of_heap bz];rw [List.getElem?_take]at hj;split at hj
  ·simpa using hj
  ·cases hj)
 rw [hlen]at this;simp [Instr.loadAt,Instr.sureAddr,loadVar,r.sg,ha,r.run_sizeOf,this]
def B2{t:TypeId}{aD:ef}(r:Row P t aD){b off:Nat}{u:Value}(hc:w.cell? ⟨b,off,none⟩=some u)(ha:aD.k.isAgg=false):
 (Instr.loadAt t (.pointer (some ⟨b,off,none⟩))).run P w = .ok u w:=by
 simp [Instr.loadAt,Instr.sureAddr,loadVar,r.sg,ha,run_load,hc]
def B3{t:TypeId}{aD:ef}(r:Row P t aD){cu:List (Nat×TypeId×Nat)}(hk:aD.k = .b0 cu):∃gs:Array Field,r.desc = .struct gs∧cu=gs.toList.map λf=>(f.offset,f.type,P.cellsOf f.type):=by
 have:=r.hk
 rw [hk]at this;cases hd:r.desc<;>simp [hd,jq]at this
 exact⟨_,rfl,this.symm⟩
def mD{t:TypeId}{aD:ef}(r:Row P t aD){e:TypeId}(hk:aD.k = .bC e):r.desc = .slice e:=by
 have:=r.hk
 rw [hk]at this;cases hd:r.desc<;>simp [hd,jq]at this
 rw [this]
def nu{t:TypeId}{aD:ef}(r:Row P t aD)(hk:aD.k = .str):r.desc = .string:=by
 have:=r.hk
 rw [hk]at this;cases hd:r.desc<;>simp [hd,jq]at this;rfl
def uo{t:TypeId}{aD:ef}(r:Row P t aD){k:IntKind}(hk:aD.k = .int k):r.desc = .int k:=by
 have:=r.hk
 rw [hk]at this;cases hd:r.desc<;>simp [hd,jq]at this
 rw [this]
def W4{t:TypeId}{aD:ef}(r:Row P t aD){n:Nat}{e:TypeId}(hk:aD.k = .arr n e):r.desc = .array n e:=by
 have:=r.hk
 rw [hk]at this;cases hd:r.desc<;>simp [hd,jq]at this
 rw [this.1,this.2]
def Kv{s:TypeId}{aD:ef}(r:Row P s aD){cu:List (Nat×TypeId×Nat)}(hk:aD.k = .b0 cu){f cL gu fj:Nat}(bh:cu[f]? = some (cL,gu,fj))(dW:1≤fj)(b off:Nat):
 (Instr.fieldAt s (.pointer (some ⟨b,off,none⟩)) f).run P w = .ok (.pointer (some ⟨b,off+cL,none⟩)) w:=by
 obtain⟨gs,hd,rfl⟩:=B3 r hk;simp only [List.getElem?_map,Option.map_eq_some_iff]at bh;obtain⟨fd,kq,he⟩:=bh;simp only [Prod.mk.injEq]at he;obtain⟨rfl,rfl,rfl⟩:=he;have xL:gs[f]? = some fd:=by simpa using kq
 have hs:(sizeOf fd.type).run P w = .ok (P.cellsOf fd.type) w:=by
  cases hi:P.info? fd.type with
  |none=>simp [Program.cellsOf,hi]at dW
  |some i=>exact Go.run_sizeOf w hi
 have dQ:P.cellsOf fd.type≠0:=by omega
 simp [Instr.fieldAt,r.run_underlying,hd,xL,Instr.sureAddr,fieldPlace,hs,dQ,addr_add]
def Kw{s:TypeId}{aD:ef}(r:Row P s aD){cu:List (Nat×TypeId×Nat)}(hk:aD.k = .b0 cu){f cL gu fj:Nat}(bh:cu[f]? = some (cL,gu,fj)){sj:ef}(an:Row P gu sj)(vs:List Value)(hle:cL+fj≤vs.length):
 (sj.k.isAgg=true→(Instr.field s (.agg ⟨vs⟩) f).run P w = .ok (.agg ⟨(vs.drop cL).take fj⟩) w)∧
 (sj.k.isAgg=false→∀u,vs[cL]? = some u→(Instr.field s (.agg ⟨vs⟩) f).run P w = .ok u w):=by
 obtain⟨gs,hd,rfl⟩:=B3 r hk;simp only [List.getElem?_map,Option.map_eq_some_iff]at bh;obtain⟨fd,kq,he⟩:=bh;simp only [Prod.mk.injEq]at he;obtain⟨rfl,rfl,rfl⟩:=he;have xL:gs[f]? = some fd:=by simpa using kq
 have dW:=an.cellsOf;refine⟨λha=>?_,λha u hu=>?_⟩
 ·simp [Instr.field,r.run_underlying,hd,xL,asAgg,part,an.sg,ha,an.run_sizeOf,dW,List.extract_eq_take_drop]
 ·simp [Instr.field,r.run_underlying,hd,xL,asAgg,part,an.sg,ha,hu]
def W5{t:TypeId}{aD:ef}(r:Row P t aD){e:TypeId}(hk:aD.k = .bC e){cg:ef}(dE:Row P e cg){k:IntKind}{j:Int}{b off n cap:Nat}(h0:0≤j)(ab:j<n):
 (Instr.indexAt t (.slice (some ⟨b,off,none⟩) n cap) (.int k j)).run P w = .ok (.pointer (some ⟨b,off+j.toNat*cg.size,none⟩)) w:=by
 simp [Instr.indexAt,asIntOf,r.run_underlying,mD r hk,h0,ab,dE.run_sizeOf,addr_add]
def W6{t:TypeId}{aD:ef}(r:Row P t aD)(hk:aD.k = .str){k:IntKind}{j:Int}{l:ajK}(h0:0≤j)(ab:j<l.length):
 (Instr.index t (.string ⟨⟨l⟩⟩) (.int k j)).run P w = .ok (.int .u8 (l.getD j.toNat 0).toNat) w:=by
 have cV:j.toNat<l.length:=by omega
 have W7:j.toNat<(ByteArray.mk ⟨l⟩).size:=cV;have hs:(ByteArray.mk ⟨l⟩)[j.toNat]? = some l[j.toNat]:=by rw [getElem?_pos (ByteArray.mk ⟨l⟩) j.toNat W7];rfl
 simp [Instr.index,asIntOf,r.run_underlying,nu r hk,h0,hs,List.getElem?_eq_getElem cV]
def xM(l:ajK):(⟨⟨l⟩⟩:ByteArray).toList=l:=by
 rw [ByteArray.toList_eq]
end
section
variable {P:Program} {K:Ctx} {N:Nat} {M:Mem} {β:Nat→Option Nat} {g:db} {tmps:Array Value} {w:World} {o:Oper} {f:jl} {p:Path} {tt:dr} {cd:fN} {ops:List Oper}
def after(g:db)(f:jl):aF:={env:=fV f.f5 g.env,H:=f.hs++g.H,aU:=g.aU+f.e4}
def hq(P:Program)(K:Ctx)(M:Mem)(β:Nat→Option Nat)(g:db)(f:jl)(tmps:Array Value)(v:Value)(w':World):Prop:=
 ∃M' β',M.le M'∧(∀r b,β r=some b→β' r=some b)∧(∀r b,β' r=some b→β r=some b∨(look f.hs r).isSome=true)∧bE P K M' β' (after g f) tmps w'∧
  ∀e,f.e=some e→co M' β' v e.d∧∀T l0,e.own=some T→km P K M' β' (after g f) tmps w' l0 v T
def Yields(P:Program)(K:Ctx)(M:Mem)(β:Nat→Option Nat)(g:db)(f:jl)(o:Oper)(tmps:Array Value)(w:World):Prop:=
 (∃v w',(execOp (Act.eval ⟨tmps,[]⟩) o).run P w = .ok (.value v) w'∧hq P K M β g f tmps v w')∨
 (f.e=none∧∃w',(execOp (Act.eval ⟨tmps,[]⟩) o).run P w = .ok .skip w'∧hq P K M β g f tmps undef w')∨
 (∃fn vs,(execOp (Act.eval ⟨tmps,[]⟩) o).run P w = .ok (.enter fn vs) w∧Calls P fn vs w λe w'=>∃v,e = .returned v∧hq P K M β g f tmps v w')
def eG(h:eZ P K N M β g tmps w){v:Value}{d:D}(ak:(execOp (Act.eval ⟨tmps,[]⟩) o).run P w = .ok (.value v) w)(hd:co M β v d){rs:List eR}{a6:List Prop}:
 Yields P K M β g {e:=some {d},rs,a6} o tmps w:=
 .inl ⟨v,w,ak,M,β,Mem.le_refl _,λ_ _ h=>h,λ_ _ h=>.inl h,h.bn,λe he=>by cases he;exact⟨hd,by simp⟩⟩
def hF(x:Sem Value){v:Value}{w':World}(h:x.run P w = .ok v w'):(do pure (.value (←x)):Sem Next).run P w = .ok (.value v) w':=by
 simp [h]
def xN(h:eZ P K N M β g tmps w)(hp:fe tmps p){x:Operand}(ax:o.op = .move x∨o.op = .assign x){d:D}(hx:rd g.env g.bV p tt o.type x=some d):
 Yields P K M β g {e:=some {d},rs:=g.rs} o tmps w:=
 eG h (v:=(⟨tmps,[]⟩:Act).eval x) (by rcases ax with ax|ax<;>simp [execOp,ax]) (dL h hp hx)
def Kx(h:eZ P K N M β g tmps w)(hp:fe tmps p){t:Nat}(ax:o.op = .move (.tmp t)∨o.op = .assign (.tmp t)){d:D}(hx:rd g.env g.bV p tt o.type (.tmp t)=some d)
 {s:TypeId} (hs:lV g (.tmp t)=some s) {rs:List eR}:Yields P K M β g {e:=some {d,own:=some s},f5:=[t],rs} o tmps w:=by
 refine .inl ⟨(⟨tmps,[]⟩:Act).eval (.tmp t),w,by rcases ax with ax|ax<;>simp [execOp,ax],M,β,Mem.le_refl _,λ_ _ h=>h,λ_ _ h=>.inl h,?_,λe he=>?_⟩
 ·have:=h.bn.f5 [t];exact this
 ·cases he;refine⟨dL h hp hx,λT l0 aN=>?_⟩
  cases aN;simp only [lV,Option.bind_eq_some_iff]at hs;obtain⟨e,he,hs⟩:=hs;exact h.bn.hand he hs l0
def W8(h:eZ P K N M β g tmps w)(hp:fe tmps p)(ax:o.op = .assign (.const (.slice none 0 0))){d:D}(hx:rd g.env g.bV p tt o.type (.const (.slice none 0 0))=some d)(s:TypeId):
 Yields P K M β g {e:=some {d,own:=some s},rs:=g.rs} o tmps w:=by
 refine .inl ⟨.slice none 0 0,w,by simp [execOp,ax,Act.eval],M,β,Mem.le_refl _,λ_ _ h=>h,λ_ _ h=>.inl h,h.bn,λe he=>?_⟩
 cases he;exact⟨dL (ds:=[]) h hp hx,λT l0 _=>BV l0 T⟩
def W9(h:eZ P K N M β g tmps w)(hp:fe tmps p){c:Nat}{a b:Operand}(ax:o.op = .pick (.tmp c) a b){o1 ug p6:Bool}(hc:rd g.env g.bV p tt o.type (.tmp c)=some (.v (.bool o1)))
 (ha:rd g.env g.bV ((c,true)::p) tt o.type a=some (.v (.bool ug))) (hb:rd g.env g.bV ((c,false)::p) tt o.type b=some (.v (.bool p6))):
 Yields P K M β g {e:=some {d:=.v (.bool (bif o1 then ug else p6))},rs:=g.rs} o tmps w:=by
 have il:(⟨tmps,[]⟩:Act).eval (.tmp c) = .bool o1:=qf (dL h hp hc);have Ky:tmps.getD c undef = .bool o1:=il;cases o1 with
 |true=>
  refine eG h (v:=(⟨tmps,[]⟩:Act).eval a) (by simp [execOp,ax,il,asBool]) ?_
  exact dL h (p:=(c,true)::p) (λx hx=>by rcases List.mem_cons.1 hx with rfl|hx;exact Ky;exact hp x hx) ha
 |false=>
  refine eG h (v:=(⟨tmps,[]⟩:Act).eval b) (by simp [execOp,ax,il,asBool]) ?_
  exact dL h (p:=(c,false)::p) (λx hx=>by rcases List.mem_cons.1 hx with rfl|hx;exact Ky;exact hp x hx) hb
def bE.B4{st:aF}(h:bE P K M β st tmps w)(o:Nat):M w.heap.size o=none:=by
 cases hm:M w.heap.size o with
 |none=>rfl
 |some v=>have:=lt_of_cell (h.mem _ _ _ hm);omega
def Kz(h:eZ P K N M β g tmps w){vs:List Value}{T:TypeId}{cs:List aS}(hlen:vs.length=cs.length)(fP:∀v,v∈vs→v.oneCell'=true)(hlies:jo P T vs.length cs)
 (aA:∀(i:Nat) v e,vs[i]? = some v→cs[i]? = some e→co M β v e.d∧∀T,e.own=some T→v = .slice none 0 0)
 (ak:(execOp (Act.eval ⟨tmps,[]⟩) o).run P w = .ok (.value (.pointer (some ⟨w.heap.size,0,none⟩))) {w with heap:=w.heap.push (.cells ⟨vs⟩ T (0,0))}) {id e4:Nat} (hid:ll g o=some (id,e4)):
 Yields P K M β g {e:=some {d:=.ptr id 0},hs:=[(id,cs)],e4,rs:=g.rs} o tmps w:=by
 have bh:(∀b,β id≠some b)∧id<g.aU+e4:=by
  unfold ll at hid;split at hid
  ·rename_i ahW ah;rw [Bool.cond_eq_ite]at hid;split at hid<;>cases hid
   rename_i hc;simp only [Bool.and_eq_true,Option.isNone_iff_eq_none,Nat.blt_eq]at hc;rw [Option.bind_eq_some_iff]at ah;obtain⟨s,_,ah⟩:=ah;exact⟨h.fresh s _ ah hc.1,by omega⟩
  ·cases hid;exact⟨λb hb=>by have:=h.bn.lt _ b hb;simp at this,by omega⟩
 refine .inl ⟨_,_,ak,M,_,Mem.le_refl _,?_,?_,h.bn.WP (n':=g.aU+e4) bh.1 bh.2 (by simp) (T:=T) hlen fP hlies aA,λe he=>?_⟩
 ·intro r b hb;have dQ:r≠id:=λe=>bh.1 b (e ▸ hb)
  simp [dQ,hb]
 ·intro r b hb;by_cases dQ:r=id
  ·exact .inr (by simp [dn,dQ])
  ·simp [dQ]at hb;exact .inl hb
 ·cases he;exact⟨.ptr _ _ _ (by simp),by simp⟩
def KA{α:Type}:∀(l:List α) (n i:Nat),(cQ n l)[i]? = (l[i]?).map (n+i,·)
 |[],n,i=>by simp [cQ]
 |x::l,n,0=>by simp [cQ]
 |x::l,n,i+1=>by simp [cQ,KA l (n+1) i];congr 1;funext;congr 1;omega
def KB{α:Type}:∀(l:List α) (n:Nat),(cQ n l).length=l.length
 |[],n=>rfl
 |x::l,n=>by simp [cQ,KB l (n+1)]
def KC{x:V}{t:Option TypeId}{T:TypeId}(h:xy x t=some T):∃k n get,x = .bC k n get:=by
 cases x<;>simp [xy]at h;exact⟨_,_,_,rfl⟩
def KD(h2:List (Nat×TypeId))(id i:Nat)(x:V):ue h2 id i x = .v x∨(x = .eb∧∃u,ue h2 id i x = .cn id i u∧(i,u)∈h2):=by
 unfold ue;split
 ·split
  ·rename_i y b_;right
   have ab:=List.find?_some b_;have ai:=List.mem_of_find?_eq_some b_;obtain⟨j,u⟩:=y;obtain rfl:j=i:=by simpa using ab
   exact⟨rfl,u,rfl,ai⟩
  ·exact .inl rfl
 ·exact .inl rfl
def W'{t:TypeId}{id:Nat}{z:List aS}(h:xA tt t id=some z):∃aD,look tt t=some aD∧z.length=aD.zero.length∧
 ∀(i:Nat) e,z[i]? = some e→∃x,aD.zero[i]? = some x∧(e.d = .v x∨(x = .eb∧∃u,e.d = .cn id i u∧(i,u)∈aD.h2))∧∀T,e.own=some T→∃k n get,x = .bC k n get:=by
 unfold xA at h;split at h<;>simp at h
 ·rename_i e fj iD zero qh ah;subst h;refine⟨_,ah,by simp,λi aZ he=>?_⟩
  simp only [List.getElem?_map,Option.map_eq_some_iff]at he;obtain⟨x,hx,rfl⟩:=he;exact⟨x,hx,.inl rfl,λT aN=>KC aN⟩
 ·rename_i cu fj iD zero qh ah;subst h;refine⟨_,ah,by simp [KB],λi aZ he=>?_⟩
  simp only [List.getElem?_map,Option.map_eq_some_iff,KA]at he;obtain⟨_,⟨x,hx,rfl⟩,rfl⟩:=he;simp only [Nat.zero_add];exact⟨x,hx,KD qh id i x,λT aN=>KC aN⟩
 ·rename_i k fj iD zero qh _ _ ah;subst h;refine⟨_,ah,by simp,λi aZ he=>?_⟩
  simp only [List.getElem?_map,Option.map_eq_some_iff]at he;obtain⟨x,hx,rfl⟩:=he;exact⟨x,hx,.inl rfl,by simp⟩
def W_(h:eZ P K N M β g tmps w)(b':eF P tt=true){t:TypeId}(ax:o.op = .alloc t){z:List aS}{id e4:Nat}(ek:xA tt t id=some z)(hid:ll g o=some (id,e4)):
 Yields P K M β g {e:=some {d:=.ptr id 0},hs:=[(id,z)],e4,rs:=g.rs} o tmps w:=by
 obtain⟨aD,ah,hlen,KE⟩:=W' ek;obtain⟨r⟩:=d_ b' ah;obtain⟨ab,ai,ay⟩:=sf (M:=M) r.un;refine Kz h (vs:=r.z.cells.toList) (T:=t) (by omega) ai (λe he q off u hd=>?_) (λi v e aA he=>?_) ?_ hid
 ·obtain⟨i,hi,rfl⟩:=List.getElem_of_mem he;obtain⟨x,hx,i6,_⟩:=KE i z[i] (List.getElem?_eq_getElem hi);rcases i6 with i6|⟨_,ahX,i6,hm⟩
  ·rw [i6]at hd;cases hd
  ·rw [i6]at hd;cases hd;have:=List.all_eq_true.1 r.h2 _ hm
   have dW:=r.B0;rw [show r.z.cells.toList.length=aD.size by omega]
   exact this
 ·obtain⟨x,hx,hd,fk⟩:=KE i e he;obtain⟨bg,bQ⟩:=ay i v x aA hx
  refine⟨by
   rcases hd with hd|⟨rfl,u,hd,_⟩
   ·rw [hd];exact .v _ _ bg
   ·rw [hd];cases bg;exact .jL _ _ _,λT aN=>?_⟩
  obtain⟨k,n,get,rfl⟩:=fk T aN;unfold qc at bQ;split at bQ<;>simp_all
 ·simp [execOp,ax,Instr.alloc,r.xI,newVar,newRow]
def B5(tt:dr)(aD:ef)(id:Nat):∀(l:List D) (i j:Nat),(nr tt aD id i l)[j]? = (l[j]?).map (r7 tt aD id (i+j))
 |[],i,j=>by simp [nr]
 |d::l,i,0=>by simp [nr]
 |d::l,i,j+1=>by
  simp only [nr,List.getElem?_cons_succ];rw [B5 tt aD id l (i+1) j,show i+1+j=i+(j+1)by omega]
def B6(tt:dr)(aD:ef)(id:Nat):∀(l:List D) (i:Nat),(nr tt aD id i l).length=l.length
 |[],i=>rfl
 |d::l,i=>by simp only [nr,List.length_cons,B6 tt aD id l (i+1)]
def KF{M:Mem}{β:Nat→Option Nat}(tt:dr)(aD:ef)(id i:Nat)(d:D)(nv:∀r o u,d ≠ .cn r o u){v:Value}(h:co M β v d):
 co M β v (r7 tt aD id i d).d∧(∀T,(r7 tt aD id i d).own=some T→v = .slice none 0 0)∧∀r o u,(r7 tt aD id i d).d = .cn r o u→(o,u)∈aD.h2:=by
 unfold r7;split
 ·rcases KD aD.h2 id i .eb with ab|⟨_,u,ab,ai⟩
  ·simp only [ab];exact⟨h,(λT aN=>by cases aN),(λr o u e=>by cases e)⟩
  ·simp only [ab]
   cases h with|v u x hx=>cases hx with
    |eb=>exact⟨.jL _ _ _,(λT aN=>by cases aN),(λr o u e=>by cases e;exact ai)⟩
 ·split
  ·cases h with|v u x hx=>cases hx with
    |lS=>exact⟨.v _ _ (.jK _ _),λ_ _=>rfl,λr o u e=>by cases e⟩
  ·exact⟨h,(λT aN=>by cases aN),(λr o u e=>by cases e)⟩
 ·exact⟨h,(λT aN=>by cases aN),λr o u e=>absurd e (nv r o u)⟩
def Xa(h:eZ P K N M β g tmps w)(hp:fe tmps p){t:TypeId}{x:Operand}(ax:o.op = .box t x){d:D}(hx:rd g.env g.bV p tt o.type x=some d)(ce:nq d=false)(nv:n5 (cellsD d)=true)(b':eF P tt=true){aD:ef}(ah:look tt t=some aD)(dW:(cellsD d).length=aD.size){id e4:Nat}(hid:ll g o=some (id,e4)):
 Yields P K M β g {e:=some {d:=.ptr id 0},hs:=[(id,nr tt aD id 0 (cellsD d))],e4,rs:=g.rs} o tmps w:=by
 obtain⟨r⟩:=d_ b' ah;obtain⟨ab,ai,ay⟩:=(dL (ds:=[]) h hp hx).cells ce;refine Kz h (vs:=((⟨tmps,[]⟩:Act).eval x).cells.toList) (T:=t) (by rw [B6];simpa using ab) ai (λe he q off u hd=>?_) (λi v e aA he=>?_) ?_ hid
 ·obtain⟨i,hi,rfl⟩:=List.getElem_of_mem he;have hg:(nr tt aD id 0 (cellsD d))[i]? = some _:=List.getElem?_eq_getElem hi;rw [B5,Option.map_eq_some_iff]at hg;obtain⟨c,hc,B7⟩:=hg;rw [←B7]at hd;have KG:i<((⟨tmps,[]⟩:Act).eval x).cells.toList.length:=by rw [B6]at hi;omega
  have:=(KF tt aD id (0+i) c (uj nv c (List.mem_of_getElem? hc)) (ay i _ c (List.getElem?_eq_getElem KG) hc)).2.2 q off u hd
  have hb:=List.all_eq_true.1 r.h2 _ this;rw [ab,dW];exact hb
 ·rw [B5,Option.map_eq_some_iff]at he;obtain⟨c,hc,rfl⟩:=he;obtain⟨g1,g2,_⟩:=KF tt aD id (0+i) c (uj nv c (List.mem_of_getElem? hc)) (ay i v c aA hc);exact⟨g1,g2⟩
 ·simp [execOp,ax,Instr.box,newVar,newRow]
end
def lq{α:Type}:∀(cs:List α) (off:Nat) (xs:List α),off+xs.length≤cs.length→(setAt cs off xs).length=cs.length∧∀(i:Nat),(setAt cs off xs)[i]? = if off≤i∧i<off+xs.length then xs[i-off]? else cs[i]?
 |[],0,[],_=>by simp [setAt]
 |[],0,x::xs,h=>by simp at h
 |[],n+1,xs,h=>by simp at h
 |c::cs,0,[],_=>by
  refine⟨by simp [setAt],λi=>?_⟩
  simp only [setAt,List.length_nil];rw [if_neg (by omega)]
 |c::cs,0,x::xs,h=>by
  obtain⟨ab,ai⟩:=lq cs 0 xs (by simp at h ⊢;omega)
  refine⟨by simp [setAt,ab],λi=>?_⟩
  cases i with
  |zero=>simp [setAt]
  |succ i=>
   simp only [setAt,List.getElem?_cons_succ,ai i,Nat.zero_add,List.length_cons];by_cases hi:i<xs.length<;>simp [hi]
 |c::cs,n+1,xs,h=>by
  obtain⟨ab,ai⟩:=lq cs n xs (by simp at h ⊢;omega)
  refine⟨by simp [setAt,ab],λi=>?_⟩
  cases i with
  |zero=>simp [setAt]
  |succ i=>
   simp only [setAt,List.getElem?_cons_succ,ai i];by_cases hi:n≤i∧i<n+xs.length
   ·rw [if_pos hi,if_pos (by omega)];congr 1;omega
   ·rw [if_neg hi,if_neg (by omega)]
def B8(off:Nat):∀(l:List Value) (k:Nat) (cs:Array Value),off+k+l.length≤cs.size→
 ((l.zipIdx k).foldl (λcs (x:Value×Nat)=>cs.setIfInBounds (off+x.2) x.1) cs).size=cs.size∧
 ∀(i:Nat),((l.zipIdx k).foldl (λcs (x:Value×Nat)=>cs.setIfInBounds (off+x.2) x.1) cs)[i]? = if off+k≤i∧i<off+k+l.length then l[i-(off+k)]? else cs[i]?
 |[],k,cs,h=>by
  refine⟨rfl,λi=>?_⟩
  simp only [List.zipIdx_nil,List.foldl_nil,List.length_nil];rw [if_neg (by omega)]
 |x::l,k,cs,h=>by
  obtain⟨ab,ai⟩:=B8 off l (k+1) (cs.setIfInBounds (off+k) x) (by simp at h ⊢;omega)
  simp only [List.zipIdx_cons,List.foldl_cons];refine⟨by simpa using ab,λi=>?_⟩
  rw [ai i];simp only [List.length_cons]at h ⊢;by_cases ay:off+(k+1)≤i∧i<off+(k+1)+l.length
  ·rw [if_pos ay,if_pos (by omega)]
   obtain⟨j,rfl⟩:∃j,i=off+k+1+j:=⟨i-(off+k+1),by omega⟩
   rw [show off+k+1+j-(off+(k+1))=j by omega,show off+k+1+j-(off+k)=j+1 by omega]
   simp
  ·rw [if_neg ay];by_cases bg:i=off+k
   ·subst bg;rw [if_pos (by omega)]
    have:off+k<cs.size:=by omega
    simp [this]
   ·rw [if_neg (by omega)]
    rw [Array.getElem?_setIfInBounds_ne (Ne.symm bg)]
section
variable {P:Program} {K:Ctx} {N:Nat} {M:Mem} {β:Nat→Option Nat} {g:db} {tmps:Array Value} {w:World} {o:Oper} {f:jl} {p:Path} {tt:dr} {cd:fN} {ops:List Oper}
structure Cells(M:Mem)(β:Nat→Option Nat)(vs:List Value)(cs:List D):Prop where
 len:vs.length=cs.length
 one:∀v,v∈vs→v.oneCell'=true
 rep:∀(i:Nat) v c,vs[i]? = some v→cs[i]? = some c→co M β v c
def xO{vs:List Value}(h:∀v,v∈vs→v.oneCell'=true){i:Nat}{v:Value}(hi:vs[i]? = some v):v.oneCell'=true:=h v (List.mem_of_getElem? hi)
def KH{vs:List Value}(h:∀(i:Nat) v,vs[i]? = some v→v.oneCell'=true):∀v,v∈vs→v.oneCell'=true:=λv aA=>by
 obtain⟨i,hi⟩:=List.getElem?_of_mem aA;exact h i v hi
def Cells.set{vs:List Value}{cs:List D}(h:Cells M β vs cs){ws:List Value}{ds:List D}(dk:Cells M β ws ds){off:Nat}(hle:off+ds.length≤cs.length){vs':List Value}(hlen:vs'.length=vs.length)
 (hr:∀(i:Nat),vs'[i]? = if off≤i∧i<off+ws.length then ws[i-off]? else vs[i]?):Cells M β vs' (setAt cs off ds):=by
 obtain⟨ab,ai⟩:=lq cs off ds hle;refine⟨by rw [hlen,ab,h.len],KH λi v aA=>?_,λi v c aA hc=>?_⟩
 ·rw [hr i]at aA;split at aA
  ·exact xO dk.one aA
  ·exact xO h.one aA
 ·rw [hr i]at aA;rw [ai i]at hc;by_cases hi:off≤i∧i<off+ds.length
  ·rw [if_pos hi]at hc;rw [if_pos (by rw [dk.len];exact hi)]at aA
   exact dk.rep _ v c aA hc
  ·rw [if_neg hi]at hc;rw [if_neg (by rw [dk.len];exact hi)]at aA
   exact h.rep _ v c aA hc
def B9{place:Nat→Option (Nat×Nat)}:∀{cx:List (Nat×D)} {vs:List (Nat×Value)} {cs cs':List D} {cells:Array Value},vs.length=cx.length→
 (∀(i:Nat) a b,cx[i]? = some a→vs[i]? = some b→a.1=b.1∧co M β b.2 a.2)→Cells M β cells.toList cs→n6 place cs cx=some cs'→
 ∃h7,Instr.fill place cells vs=some h7∧Cells M β h7.toList cs'
 |[],[],cs,cs',cells,_,_,hc,h=>by simp [n6]at h;subst h;exact⟨cells,rfl,hc⟩
 |[],_::_,_,_,_,h,_,_,_=>by simp at h
 |_::_,[],_,_,_,h,_,_,_=>by simp at h
 |(i,d)::cx,(j,v)::vs,cs,cs',cells,hn,ak,hc,h=>by
  obtain⟨KI,hd⟩:=ak 0 (i,d) (j,v) (by simp) (by simp)
  simp only at KI hd
  subst KI;simp only [n6]at h;split at h
  ·cases h
  ·rename_i off size iE;rw [Bool.cond_eq_ite]at h;split at h
   case isFalse=>cases h
   rename_i hb;simp only [Bool.and_eq_true,Nat.beq_eq,Nat.ble_eq,Bool.not_eq_true']at hb;obtain⟨⟨cS,e6⟩,B'⟩:=hb;obtain⟨ab,ai,ay⟩:=hd.cells B';have dW:cells.size=cs.length:=by simpa using hc.len
   have dP:v.cells.size=size:=by simpa [cS]using ab
   have bh:=B8 off v.cells.toList 0 cells (by simp [dP];omega)
   have B_:v.cells.zipIdx.foldl (λcs (x:Value×Nat)=>cs.setIfInBounds (off+x.2) x.1) cells=(v.cells.toList.zipIdx 0).foldl (λcs (x:Value×Nat)=>cs.setIfInBounds (off+x.2) x.1) cells:=by
    rw [←Array.foldl_toList,Array.toList_zipIdx]
   have il:Cells M β (v.cells.zipIdx.foldl (λcs (x:Value×Nat)=>cs.setIfInBounds (off+x.2) x.1) cells).toList (setAt cs off (cellsD d)):=by
    rw [B_];refine hc.set ⟨ab,ai,ay⟩ (by omega) (by simpa using bh.1) (λk=>?_)
    have:=bh.2 k
    simp only [Nat.add_zero]at this;rw [Array.getElem?_toList,this];simp only [Array.getElem?_toList]
   obtain⟨h7,uq,mE⟩:=B9 (place:=place) (by simpa using hn) (λk a b ha hb=>ak (k+1) a b (by simpa using ha) (by simpa using hb)) il h
   refine⟨h7,?_,mE⟩
   simp only [Instr.fill,iE];rw [if_neg (by simp;omega)]
   exact uq
def o8{α dx:Type}{f:α→Option dx}:∀{l:List α} {cz:List dx},mapM' f l=some cz→cz.length=l.length∧∀(i:Nat) a b,l[i]? = some a→cz[i]? = some b→f a=some b
 |[],cz,h=>by simp [mapM']at h;subst h;simp
 |x::l,cz,h=>by
  simp only [mapM']at h;split at h<;>simp at h
  rename_i y ys b_ Xb;subst h;obtain⟨ab,ai⟩:=o8 Xb;refine⟨by simp [ab],λi a b ha hb=>?_⟩
  cases i with
  |zero=>simp at ha hb;subst ha;subst hb;exact b_
  |succ i=>simp at ha hb;exact ai i a b ha hb
def Row.KJ{t:TypeId}{aD:ef}(r:Row P t aD):Cells M β r.z.cells.toList (aD.zero.map .v):=by
 obtain⟨ab,ai,ay⟩:=sf (M:=M) r.un;refine⟨by simpa using ab,ai,λi v c aA hc=>?_⟩
 simp only [List.getElem?_map,Option.map_eq_some_iff]at hc;obtain⟨x,hx,rfl⟩:=hc;exact .v _ _ (ay i v x aA hx).1
def Xc{M:Mem}{v:Value}{x:V}(h:qc v x=true):dc M v (BL x):=by
 have h0:=(BZ (M:=M) h).1;unfold qc at h;split at h<;>first|exact h0|skip
 ·rename_i k n g;have:n=0:=by simpa using h
  subst this;exact .lS _ _
 ·cases h
def Row.Xd{t:TypeId}{aD:ef}(r:Row P t aD):Cells M β r.z.cells.toList (aD.zero.map λx=>.v (BL x)):=by
 obtain⟨ab,ai,ay⟩:=sf (M:=M) r.un;refine⟨by simpa using ab,ai,λi v c aA hc=>?_⟩
 simp only [List.getElem?_map,Option.map_eq_some_iff]at hc;obtain⟨x,hx,rfl⟩:=hc;exact .v _ _ (Xc (ay i v x aA hx).2)
def Ca(h:eZ P K N M β g tmps w)(hp:fe tmps p){ty:Nat→TypeId}{parts:Array (Nat×Operand)}{cx:List (Nat×D)}(j':mapM' (fun(x:Nat×Operand)=>(rd g.env g.bV p tt (ty x.1) x.2).map λd=>(x.1,d)) parts.toList=some cx):
 ((parts.map fun(x:Nat×Operand)=>(x.1,(⟨tmps,[]⟩:Act).eval x.2)).toList).length=cx.length∧
 ∀(i:Nat) a b,cx[i]? = some a→(parts.map fun(x:Nat×Operand)=>(x.1,(⟨tmps,[]⟩:Act).eval x.2)).toList[i]? = some b→a.1=b.1∧co M β b.2 a.2:=by
 obtain⟨ab,ai⟩:=o8 j';refine⟨by simpa using ab.symm,λi a b ha hb=>?_⟩
 simp only [Array.toList_map,List.getElem?_map,Option.map_eq_some_iff]at hb;obtain⟨x,hx,rfl⟩:=hb;have:=ai i x a hx ha
 simp only [Option.map_eq_some_iff]at this;obtain⟨d,hd,rfl⟩:=this;exact⟨rfl,dL h hp hd⟩
def run_places{cu:Array Field}{l:List (Nat×TypeId×Nat)}(ah:l=cu.toList.map λf=>(f.offset,f.type,P.cellsOf f.type))(hs:∀f,f∈cu.toList→1≤P.cellsOf f.type):
 (cu.mapM λf=>(do pure (f.offset,←sizeOf f.type):Sem (Nat×Nat))).run P w = .ok (cu.map λf=>(f.offset,P.cellsOf f.type)) w:=by
 obtain⟨sk⟩:=cu;rw [List.mapM_toArray]
 have key:∀(l:List Field),(∀f,f∈l→1≤P.cellsOf f.type)→(l.mapM λf=>(do pure (f.offset,←sizeOf f.type):Sem (Nat×Nat))).run P w = .ok (l.map λf=>(f.offset,P.cellsOf f.type)) w:=by
  intro l;induction l with
  |nil=>intro _;rfl
  |cons f l bv=>
   intro bh;have h0:=bh f (by simp)
   have ab:(sizeOf f.type).run P w = .ok (P.cellsOf f.type) w:=by
    cases hi:P.info? f.type with
    |none=>simp [Program.cellsOf,hi]at h0
    |some i=>exact Go.run_sizeOf w hi
   simp only [List.mapM_cons,Sem.run_bind,ab,Result.andThen_ok,Sem.run_pure,bv (λf h=>bh f (by simp [h])),List.map_cons]
 simp only [Sem.run_map,key sk (by simpa using hs),Result.andThen_ok]
 simp
def KK(h:eZ P K N M β g tmps w)(hp:fe tmps p)(b':eF P tt=true){t:TypeId}{aD:ef}(ah:look tt t=some aD){cu:List (Nat×TypeId×Nat)}(hk:aD.k = .b0 cu)(o9:cu.all (λf=>Nat.ble 1 f.2.2)=true)
 {parts:Array (Nat×Operand)} (ax:o.op = .build t parts) {cx:List (Nat×D)} (j':mapM' (fun(x:Nat×Operand)=>(rd g.env g.bV p tt (n7 tt t x.1) x.2).map λd=>(x.1,d)) parts.toList=some cx)
 {zs:List D} (qi:∀(r:Row P t aD),Cells M β r.z.cells.toList zs) {cs:List D} (bh:n6 (fun(i:Nat)=>(cu[i]?).map fun(f:Nat×TypeId×Nat)=>(f.1,f.2.2)) zs cx=some cs) {rs:List eR}:
 Yields P K M β g {e:=some {d:=kj cs},rs} o tmps w:=by
 obtain⟨r⟩:=d_ b' ah;obtain⟨gs,hd,Cb⟩:=B3 r hk;obtain⟨ab,ai⟩:=Ca h hp j';obtain⟨cells,uq,hc⟩:=B9 ab ai (qi r) bh
 have xP:∀f,f∈gs.toList→1≤P.cellsOf f.type:=by
  intro fd kq;rw [List.all_eq_true]at o9;have:=o9 (fd.offset,fd.type,P.cellsOf fd.type) (by rw [Cb];exact List.mem_map.2 ⟨fd,kq,rfl⟩)
  simpa using this
 have iE:(fun(i:Nat)=>(gs.map λf=>(f.offset,P.cellsOf f.type))[i]?)=fun(i:Nat)=>(cu[i]?).map fun(f:Nat×TypeId×Nat)=>(f.1,f.2.2):=by
  funext i
  rw [Cb];cases hi:gs[i]? <;> simp [hi]
 refine eG h (v:=.agg cells) ?_ ?_
 ·simp only [execOp,ax];refine hF _ ?_;have Xe:=run_places (P:=P) (w:=w) Cb xP;simp only [Instr.build,Sem.run_bind,r.xI,Result.andThen_ok,r.run_underlying,hd,Xe,iE];have:Instr.fill (fun(i:Nat)=>(cu[i]?).map fun(f:Nat×TypeId×Nat)=>(f.1,f.2.2)) r.z.cells (parts.map fun(x:Nat×Operand)=>(x.1,(⟨tmps,[]⟩:Act).eval x.2)).toList=some cells:=uq
  rw [this];rfl
 ·have:=sh hc.len hc.one hc.rep
  simpa using this
def Xf(h:eZ P K N M β g tmps w)(hp:fe tmps p)(b':eF P tt=true){t:TypeId}{aD:ef}(ah:look tt t=some aD){n:Nat}{e:TypeId}(hk:aD.k = .arr n e){cg:ef}(eE:look tt e=some cg)
 {parts:Array (Nat×Operand)} (ax:o.op = .build t parts) {cx:List (Nat×D)} (j':mapM' (fun(x:Nat×Operand)=>(rd g.env g.bV p tt (n7 tt t x.1) x.2).map λd=>(x.1,d)) parts.toList=some cx)
 {cs:List D} (bh:n6 (λi=>some (i*cg.size,cg.size)) (aD.zero.map .v) cx=some cs):
 Yields P K M β g {e:=some {d:=kj cs},rs:=g.rs} o tmps w:=by
 obtain⟨r⟩:=d_ b' ah;obtain⟨an⟩:=d_ b' eE;obtain⟨ab,ai⟩:=Ca h hp j';obtain⟨cells,uq,hc⟩:=B9 ab ai (r.KJ (β:=β)) bh;refine eG h (v:=.agg cells) ?_ ?_
 ·simp only [execOp,ax];refine hF _ ?_;simp only [Instr.build,Sem.run_bind,r.xI,Result.andThen_ok,r.run_underlying,W4 r hk,an.run_sizeOf];have:Instr.fill (λi=>some (i*cg.size,cg.size)) r.z.cells (parts.map fun(x:Nat×Operand)=>(x.1,(⟨tmps,[]⟩:Act).eval x.2)).toList=some cells:=uq
  rw [this];rfl
 ·have:=sh hc.len hc.one hc.rep
  simpa using this
end
section
variable {P:Program} {K:Ctx} {N:Nat} {M:Mem} {β:Nat→Option Nat} {g:db} {tmps:Array Value} {w:World} {o:Oper} {f:jl} {p:Path} {tt:dr} {cd:fN} {ops:List Oper}
def hG(M:Mem)(b:Nat)(lo:Nat)(vs:List Value):Mem:=λbM o=>if bM=b∧lo≤o∧o<lo+vs.length then vs[o-lo]? else M bM o
def Cc{b lo:Nat}{vs:List Value}(h:∀o,lo≤o→M b o=none):M.le (hG M b lo vs):=by
 intro bM o v aA;unfold hG;split
 ·rename_i hc;obtain⟨rfl,ab,ai⟩:=hc;rw [h o ab]at aA;cases aA
 ·exact aA
def xQ{b lo:Nat}{vs:List Value}{i:Nat}{v:Value}(h:vs[i]? = some v):hG M b lo vs b (lo+i)=some v:=by
 have hi:i<vs.length:=(List.getElem?_eq_some_iff.1 h).1;unfold hG;rw [if_pos ⟨rfl,by omega,by omega⟩,show lo+i-lo=i by omega,h]
def Xg{k:Nat}{n:Nat}{cells:List Value}(ah:cells.length=n*k){i j:Nat}(hi:i<n)(hj:j<k):cells[i*k+j]? = some (cells.getD (i*k+j) undef):=by
 have:i*k+j<cells.length:=by
  have ab:(i+1)*k≤n*k:=Nat.mul_le_mul_right k hi;rw [Nat.add_mul]at ab;omega
 simp [List.getD,List.getElem?_eq_getElem this]
def bE.newRow{st:aF}(h:bE P K M β st tmps w){vs:List Value}{T:TypeId}{n:Nat}{w':World}(hw:w'.heap=w.heap.push (.cells ⟨vs⟩ T (0,0)))(lZ:(w'.os,w'.output)=(w.os,w.output):=by rfl):
 bE P K (hG M w.heap.size 0 (vs.take n)) β st tmps w'∧M.le (hG M w.heap.size 0 (vs.take n)):=by
 have cX:M.le (hG M w.heap.size 0 (vs.take n)):=Cc λo _=>h.B4 o
 refine⟨h.free w.heap.size ?_ ?_ ?_ ?_ cX ?_ ?_ lZ,cX⟩
 ·cases du:K.F w.heap.size with
  |none=>rfl
  |some a6=>have:=lt_of_heap (h.frame _ a6 du).1;omega
 ·intro r cs ak hb;have:=h.uk ak hb;omega
 ·intro l e T ah aN hb;have:=(h.own l e T ah aN).lt hb;omega
 ·intro bM _ bO;rw [hw];simp [Array.getElem?_push,Nat.ne_of_lt bO]
 ·intro bM o bO;simp [hG,bO]
 ·intro o v aA;unfold hG at aA;split at aA
  ·rename_i hc;simp only [Nat.sub_zero]at aA;rw [List.getElem?_take]at aA;split at aA
   ·have:w'.heap[w.heap.size]? = some (.cells ⟨vs⟩ T (0,0)):=by rw [hw];simp
    rw [cell_of_heap this,aA]
   ·cases aA
  ·rw [h.B4 o]at aA;cases aA
def Cd{st:aF}(h:bE P K M β st tmps w){l0:Loc}{T:TypeId}{vs:List Value}{T':TypeId}(Ce:T'=T){n cap:Nat}{w':World}(hw:w'.heap=w.heap.push (.cells ⟨vs⟩ T' (0,0)))(hn:n≤cap)
 (hcap:cap*P.cellsOf T≤vs.length):km P K (hG M w.heap.size 0 (vs.take (n*P.cellsOf T))) β st tmps w' l0 (.slice (some ⟨w.heap.size,0,none⟩) n cap) T:=by
 have nw:w'.heap[w.heap.size]? = some (.cells ⟨vs⟩ T' (0,0)):=by rw [hw];simp
 refine⟨.inr ⟨w.heap.size,n,cap,vs,T',rfl,hn,nw,hcap,λo ax=>?_,?_,Ce⟩,?_,?_⟩
 ·have hle:n*P.cellsOf T≤vs.length:=Nat.le_trans (Nat.mul_le_mul_right _ hn) hcap;unfold hG;rw [if_neg,h.B4 o]
  rintro ⟨_,_,ay⟩
  simp only [List.length_take]at ay;omega
 ·cases du:K.F w.heap.size with
  |none=>rfl
  |some a6=>have:=lt_of_heap (h.frame _ a6 du).1;omega
 ·intro l e mC b ah aN _ hb bO;simp [hC,ij]at hb;subst hb
  have hold:b9 tmps w' β l=b9 tmps w β l:=by
   cases l with
   |slot s=>rfl
   |cell r i=>
    simp only [aF.at]at ah;cases ak:look st.H r with
    |none=>simp [ak]at ah
    |some cs=>
     obtain⟨cj,kL,fX,cS,bz,_⟩:=h.box r cs ak;simp only [b9,cS];rw [oa (w:=w) (by rw [hw];simp [Array.getElem?_push,Nat.ne_of_lt (lt_of_heap bz)])]
  rw [hold]at bO;have:=(h.own l e mC ah aN).lt bO
  omega
 ·intro b r cs hb ak bO;simp [hC,ij]at hb;subst hb;have:=h.uk ak bO
  omega
def KL{size:Nat}:∀(l:List (Nat×Value)) (m:Nat) (cells:Array Value),(∀(i:Nat) x,l[i]? = some x→x.1=m+i∧x.2.cells.size=size)→(m+l.length)*size≤cells.size→
 ∃h7,Instr.fill (λi=>some (i*size,size)) cells l=some h7∧h7.size=cells.size∧(∀i,i<m*size→h7[i]? = cells[i]?)∧
  ∀(i:Nat) x (j:Nat) u,l[i]? = some x→x.2.cells[j]? = some u→h7[(m+i)*size+j]? = some u
 |[],m,cells,_,_=>⟨cells,rfl,rfl,λ_ _=>rfl,by simp⟩
 |(a,v)::l,m,cells,ah,hle=>by
  obtain⟨ha,dW⟩:=ah 0 (a,v) (by simp)
  simp only [Nat.add_zero]at ha;simp only at dW
  subst ha
  have ahY:a*size+size≤cells.size:=by
   have ab:(a+1)*size≤(a+((a,v)::l).length)*size:=Nat.mul_le_mul_right _ (by simp)
   rw [Nat.add_mul,Nat.one_mul]at ab;omega
  have bh:=B8 (a*size) v.cells.toList 0 cells (by simp [dW];omega)
  have B_:v.cells.zipIdx.foldl (λcs (x:Value×Nat)=>cs.setIfInBounds (a*size+x.2) x.1) cells=(v.cells.toList.zipIdx 0).foldl (λcs (x:Value×Nat)=>cs.setIfInBounds (a*size+x.2) x.1) cells:=by
   rw [←Array.foldl_toList,Array.toList_zipIdx]
  rw [←B_]at bh;generalize im:v.cells.zipIdx.foldl (λcs (x:Value×Nat)=>cs.setIfInBounds (a*size+x.2) x.1) cells=c1 at bh
  obtain⟨h7,ab,ai,ay,bg⟩:=KL l (a+1) c1 (λi x hx=>by
   obtain⟨ab,ai⟩:=ah (i+1) x (by simpa using hx)
   exact⟨by omega,ai⟩) (by rw [bh.1];simpa [Nat.add_assoc,Nat.add_comm 1]using hle)
  refine⟨h7,?_,by rw [ai,bh.1],λi hi=>?_,λi x j u hx hu=>?_⟩
  ·simp only [Instr.fill];rw [if_neg (by simp [dW];omega)]
   have:v.cells.zipIdx.foldl (λcs (c,j)=>cs.setIfInBounds (a*size+j) c) cells=c1:=im
   rw [this];exact ab
  ·rw [ay i (by rw [Nat.add_mul];omega),bh.2 i,if_neg (by omega)]
  ·cases i with
   |zero=>
    simp at hx;subst hx
    simp only at hu
    have hj:j<size:=by rw [←dW];exact(Array.getElem?_eq_some_iff.1 hu).1
    rw [Nat.add_zero,ay _ (by rw [Nat.add_mul,Nat.one_mul];omega),bh.2,if_pos (by simp [dW];omega)]
    simpa using hu
   |succ i=>
    have:=bg i x j u (by simpa using hx) hu
    rw [show a+(i+1)=a+1+i by omega];exact this
def KM{KN:Bool}{size:Nat}:∀{cx:List (Nat×D)} {n:Nat} {xs:List V},elems KN size n cx=some xs→xs.length=cx.length∧
 ∀(i:Nat) y x,cx[i]? = some y→xs[i]? = some x→y=(n+i,.v x)∧x.cells.length=size∧x.isAgg=KN
 |[],n,xs,h=>by simp [elems]at h;subst h;simp
 |(j,d)::cx,n,xs,h=>by
  cases d<;>simp only [elems]at h<;>try cases h
  rename_i ff;rw [Bool.cond_eq_ite]at h;split at h
  case isFalse=>cases h
  rename_i hb;simp only [Bool.and_eq_true,Nat.beq_eq,beq_iff_eq]at hb;obtain⟨⟨cS,e6⟩,B'⟩:=hb;simp only [Option.map_eq_some_iff]at h;obtain⟨ys,b_,rfl⟩:=h;obtain⟨ab,ai⟩:=KM b_;refine⟨by simp [ab],λi y x hi hx=>?_⟩
  cases i with
  |zero=>simp at hi hx;subst hi;subst hx;exact⟨by simp [cS],e6,B'⟩
  |succ i=>
   simp at hi hx
   obtain⟨ay,bg⟩:=ai i y x hi hx;exact⟨by rw [ay];simp;omega,bg⟩
def Xh(h:eZ P K N M β g tmps w)(hp:fe tmps p)(b':eF P tt=true){t e:TypeId}{aD cg:ef}(ah:look tt t=some aD)(hk:aD.k = .bC e)(eE:look tt e=some cg){len:Nat}
 {parts:Array (Nat×Operand)} (ax:o.op = .buildSlice t len parts) {cx:List (Nat×D)} (j':mapM' (fun(x:Nat×Operand)=>(rd g.env g.bV p tt (n7 tt t x.1) x.2).map λd=>(x.1,d)) parts.toList=some cx)
 {xs:List V} (hx:elems cg.k.isAgg cg.size 0 cx=some xs) (hlen:xs.length=len) (_hs:1≤cg.size) (hb:len*cg.size≤16777216) {x:V} (aA:f0 (.bC cg.size len λi=>xs.getD i .eb) x) {rs:List eR} {a6:List Prop}:
 Yields P K M β g {e:=some {d:=.v x,own:=some e},rs,a6} o tmps w:=by
 obtain⟨r⟩:=d_ b' ah;obtain⟨dE⟩:=d_ b' eE;obtain⟨ab,ai⟩:=Ca h hp j';obtain⟨ahZ,Cf⟩:=KM hx;generalize Xi:(parts.map fun(x:Nat×Operand)=>(x.1,(⟨tmps,[]⟩:Act).eval x.2))=pa at ab ai
 generalize kN:pa.toList=vs at ab ai
 have iE:vs.length=len:=by omega
 have gG:∀(i:Nat) b,vs[i]? = some b→∃x,xs[i]? = some x∧b.1=i∧dc M b.2 x∧x.cells.length=cg.size:=by
  intro i b hi;have BT:i<vs.length:=(List.getElem?_eq_some_iff.1 hi).1;have ha:cx[i]? = some cx[i]:=List.getElem?_eq_getElem (by omega)
  have kO:xs[i]? = some xs[i]:=List.getElem?_eq_getElem (by omega)
  obtain⟨ay,bg,_⟩:=Cf i _ _ ha kO;obtain⟨bQ,dh⟩:=ai i _ b ha hi;rw [ay]at bQ dh;exact⟨_,kO,by simpa using bQ.symm,lp dh,bg⟩
 have mE:∀(i:Nat) b,vs[i]? = some b→∃x,xs[i]? = some x∧b.1=i∧b.2.cells.size=cg.size∧(∀u,u∈b.2.cells.toList→u.oneCell'=true)∧∀(j:Nat) u c,b.2.cells.toList[j]? = some u→x.cells[j]? = some c→dc M u c:=by
  intro i b hi;obtain⟨x,ay,bg,bQ,dh⟩:=gG i b hi;obtain⟨e5,gH,sl⟩:=(co.v (β:=β) _ _ bQ).cells rfl;refine⟨x,ay,bg,by simp [cellsD]at e5;omega,gH,λj u c hu hc=>?_⟩
  exact lp (sl j u (.v c) hu (by simp [cellsD,hc]))
 obtain⟨h7,o_,qj,ah0,Xj⟩:=KL (size:=cg.size) vs 0 ((Array.range (len*cg.size)).map λi=>dE.z.cells[i % dE.z.cells.size]!) (λi x hi=>by
  obtain⟨y,ay,bg,bQ,_⟩:=mE i x hi;exact⟨by omega,bQ⟩) (by simp [iE])
 have dW:h7.size=len*cg.size:=by rw [qj];simp
 have hr:∀i j,i<len→j<cg.size→∃b u,vs[i]? = some b∧b.2.cells.toList[j]? = some u∧h7.toList[i*cg.size+j]? = some u:=by
  intro i j hi hj;have eg:vs[i]? = some vs[i]:=List.getElem?_eq_getElem (by omega)
  obtain⟨y,ay,bg,bQ,_⟩:=mE i _ eg;have hu:vs[i].2.cells[j]? = some vs[i].2.cells[j]:=Array.getElem?_eq_getElem (by omega)
  refine⟨vs[i],vs[i].2.cells[j],eg,(Array.getElem?_toList ..).trans hu,?_⟩
  have:=Xj i _ j _ eg hu
  simpa using this
 have el:(execOp (Act.eval ⟨tmps,[]⟩) o).run P w = .ok (.value (.slice (some ⟨w.heap.size,0,none⟩) len len)) {w with heap:=w.heap.push (.cells ⟨h7.toList⟩ e (0,0))}:=by
  simp only [execOp,ax];refine hF _ ?_;have bO:¬ (16777216<len*cg.size):=by omega
  have Xk:(parts.map fun(x:Nat×Operand)=>match x with|(i,x)=>(i,(⟨tmps,[]⟩:Act).eval x))=pa:=Xi
  rw [Xk];simp only [Instr.buildSlice,Sem.run_bind,r.run_underlying,mD r hk,Result.andThen_ok,dE.run_sizeOf];by_cases h0:len*cg.size=0
  ·have bP:∀f:Nat→Value,(Array.range (len*cg.size)).map f = #[]:=by intro f;rw [h0];simp
   rw [bP]at o_;have e1:∀f:Nat→Value,(Array.range 0).map f = #[]:=by intro f;simp
   simp [h0,kN,e1,o_,newRow]
  ·simp [h0,bO,dE.xI,kN,o_,newRow]
 obtain⟨cK,hle⟩:=h.bn.newRow (w':={w with heap:=w.heap.push (.cells ⟨h7.toList⟩ e (0,0))}) (T:=e) (vs:=h7.toList) (n:=len*cg.size) rfl;have ur:h7.toList.take (len*cg.size)=h7.toList:=List.take_of_length_le (by simp [dW])
 refine .inl ⟨_,_,el,_,β,hle,λ_ _ h=>h,λ_ _ h=>.inl h,cK,λe1 he=>?_⟩
 cases he;refine⟨.v _ _ (aA _ _ (.bC _ 0 cg.size len len _ (λi j=>h7.toList.getD (i*cg.size+j) undef) (Nat.le_refl _) ?_ ?_ ?_ ?_)),λT l0 aN=>?_⟩
 ·intro i hi;have kO:xs[i]? = some xs[i]:=List.getElem?_eq_getElem (by omega)
  have ha:cx[i]? = some cx[i]:=List.getElem?_eq_getElem (by omega)
  simp only [List.getD,kO,Option.getD_some];exact(Cf i _ _ ha kO).2.1
 ·intro i j hi hj;obtain⟨b,u,_,_,hu⟩:=hr i j hi hj;rw [ur,Nat.zero_add];have:=xQ (M:=M) (b:=w.heap.size) (lo:=0) hu
  simpa [List.getD,hu]using this
 ·intro i j hi hj;obtain⟨b,u,cS,Cg,hu⟩:=hr i j hi hj;obtain⟨y,_,_,_,dh,_⟩:=mE i b cS;simp only [List.getD,hu,Option.getD_some];exact xO dh Cg
 ·intro i j c hi hc;have kO:xs[i]? = some xs[i]:=List.getElem?_eq_getElem (by omega)
  simp only [List.getD,kO,Option.getD_some]at hc
  have hj:j<cg.size:=by
   have ha:cx[i]? = some cx[i]:=List.getElem?_eq_getElem (by omega)
   rw [←(Cf i _ _ ha kO).2.1];exact(List.getElem?_eq_some_iff.1 hc).1
  obtain⟨b,u,cS,Cg,hu⟩:=hr i j hi hj;obtain⟨y,b_,_,_,_,e5⟩:=mE i b cS;rw [kO]at b_;cases b_;simp only [List.getD,hu,Option.getD_some];exact(e5 j u c Cg hc).mono hle
 ·cases aN;have:=Cd (l0:=l0) (T:=e) h.bn (vs:=h7.toList) (T':=e) (n:=len) (cap:=len) (w':={w with heap:=w.heap.push (.cells ⟨h7.toList⟩ e (0,0))}) rfl rfl (Nat.le_refl _) (by rw [dE.cellsOf];simp [dW])
  rw [dE.cellsOf]at this;exact this
end
section
variable {P:Program} {K:Ctx} {N:Nat} {M:Mem} {β:Nat→Option Nat} {g:db} {tmps:Array Value} {w:World} {o:Oper} {f:jl} {p:Path} {tt:dr} {cd:fN} {ops:List Oper}
def Xl(h:eZ P K N M β g tmps w)(hp:fe tmps p)(b':eF P tt=true){t:TypeId}{aD:ef}(ah:look tt t=some aD){a:Operand}(ax:o.op = .load t a){q off:Nat}(ha:rd g.env g.bV p tt o.type a=some (.ptr q off))
 {cs:List aS} (aR:look g.H q=some cs) (gl:aD.k.isAgg=true) (hle:off+aD.size≤cs.length):
 Yields P K M β g {e:=some {d:=kj (((cs.drop off).take aD.size).map (·.d))},rs:=g.rs} o tmps w:=by
 obtain⟨r⟩:=d_ b' ah;obtain⟨b,hb,aA⟩:=l2 (dL (ds:=[]) h hp ha);obtain⟨bM,vs,T,bO,bz,hlen,_,_,fP,iX⟩:=h.bn.box q cs aR;rw [hb]at bO;cases bO;have el:=xK (P:=P) (w:=w) r (off:=off) bz (by omega) gl
 refine eG h (v:=.agg ⟨(vs.drop off).take aD.size⟩) ?_ ?_
 ·simp only [execOp,ax];rw [aA];exact hF _ el
 ·refine sh (by simp;omega) (λv aA=>fP v (List.mem_of_mem_drop (List.mem_of_mem_take aA))) (λi v c aA hc=>?_)
  rw [List.getElem?_map,Option.map_eq_some_iff]at hc;obtain⟨e,he,rfl⟩:=hc;rw [List.getElem?_take]at aA he;split at aA
  ·rename_i hi;rw [if_pos hi,List.getElem?_drop]at he;rw [List.getElem?_drop]at aA;have:=h.bn.ez (.cell q (off+i)) e (by simp [aF.at,aR,he])
   simpa [b9,hb,cell_of_heap bz,aA]using this
  ·cases aA
def Xm(h:eZ P K N M β g tmps w)(hp:fe tmps p)(b':eF P tt=true){t:TypeId}{aD:ef}(ah:look tt t=some aD){a:Operand}(ax:o.op = .load t a){q off:Nat}(ha:rd g.env g.bV p tt o.type a=some (.ptr q off))
 {cs:List aS} (aR:look g.H q=some cs) (gl:aD.k.isAgg=false) {e:aS} (he:cs[off]? = some e):
 Yields P K M β g {e:=some {d:=e.d},rs:=g.rs} o tmps w:=by
 obtain⟨r⟩:=d_ b' ah;obtain⟨b,hb,aA⟩:=l2 (dL (ds:=[]) h hp ha);obtain⟨bM,vs,T,v,bO,bz,eg,b8⟩:=BS h.bn aR he;rw [hb]at bO;cases bO;have hc:w.cell? ⟨b,off,none⟩=some v:=by rw [cell_of_heap bz,eg]
 refine eG h (v:=v) ?_ ?_
 ·simp only [execOp,ax];rw [aA];exact hF _ (B2 (P:=P) r hc gl)
 ·have:=h.bn.ez (.cell q off) e (by simp [aF.at,aR,he])
  rwa [b8]at this
def KO{cs:List aS}{off:Nat}{e:aS}(cV:off<cs.length)(i:Nat):(setAt cs off [e])[i]? = if i=off then some e else cs[i]? := by
 rw [(lq cs off [e] (by simp;omega)).2 i]
 by_cases hi:i=off
 ·subst hi;simp
 ·rw [if_neg (by simp;omega),if_neg hi]
def Xn(h:eZ P K N M β g tmps w)(hp:fe tmps p)(b':eF P tt=true){t:TypeId}{aD:ef}(ah:look tt t=some aD){a:Operand}(ax:o.op = .load t a){q off:Nat}(ha:rd g.env g.bV p tt o.type a=some (.ptr q off))
 {cs:List aS} (aR:look g.H q=some cs) (gl:aD.k.isAgg=false) {e:aS} (he:cs[off]? = some e) {s:TypeId} (hs:e.own=some s) {rs:List eR}:
 Yields P K M β g {e:=some e,hs:=[(q,setAt cs off [{d:=e.d}])],rs} o tmps w:=by
 obtain⟨r⟩:=d_ b' ah;obtain⟨b,hb,aA⟩:=l2 (dL (ds:=[]) h hp ha);obtain⟨bM,vs,T,v,bO,bz,eg,b8⟩:=BS h.bn aR he;rw [hb]at bO;cases bO;have hc:w.cell? ⟨b,off,none⟩=some v:=by rw [cell_of_heap bz,eg]
 have cV:off<cs.length:=(List.getElem?_eq_some_iff.1 he).1
 have hE:=λl0=>h.bn.Kp aR he hs (cs':=setAt cs off [{d:=e.d}]) (lq cs off _ (by simp;omega)).1 (λj aZ hj=>by
  rw [KO cV]at hj;by_cases Ch:j=off
  ·subst Ch;simp at hj;subst hj;exact⟨e,he,rfl,by simp⟩
  ·rw [if_neg Ch]at hj;exact⟨aZ,hj,rfl,λT aN=>⟨aN,Ch⟩⟩) l0
 refine .inl ⟨v,w,?_,M,β,Mem.le_refl _,λ_ _ h=>h,λ_ _ h=>.inl h,(hE (.slot 0)).1,λe1 mF=>?_⟩
 ·simp only [execOp,ax];rw [aA];exact hF _ (B2 (P:=P) r hc gl)
 ·cases mF;refine⟨?_,λT l0 aN=>?_⟩
  ·have:=h.bn.ez (.cell q off) e (by simp [aF.at,aR,he])
   rwa [b8]at this
  ·rw [hs]at aN;cases aN;have:=(hE l0).2
   rwa [b8]at this
def Xo(h:eZ P K N M β g tmps w)(hp:fe tmps p)(b':eF P tt=true){t:TypeId}{aD:ef}(ah:look tt t=some aD){a:Operand}(ax:o.op = .load t a){x:V}(ha:rd g.env g.bV p tt o.type a=some (.eB x))
 (gl:x.isAgg=aD.k.isAgg) (hs:x.cells.length=aD.size):Yields P K M β g {e:=some {d:=.v x},rs:=g.rs} o tmps w:=by
 obtain⟨r⟩:=d_ b' ah;obtain⟨u,ab,ai⟩:=W3 (w:=w) r h.bn.mem (dL (ds:=[]) h hp ha) gl hs;exact eG h (v:=u) (by simp only [execOp,ax];exact hF _ ab) (.v _ _ ai)
def Ci{t:TypeId}{aD:ef}(r:Row P t aD){b off:Nat}{vs:List Value}{T:TypeId}(bz:w.heap[b]? = some (.cells ⟨vs⟩ T (0,0))){v:Value}(hs:v.cells.size=aD.size)(fP:∀u,u∈v.cells.toList→u.oneCell'=true)
 (hle:off+aD.size≤vs.length):(Instr.storeAt t (.pointer (some ⟨b,off,none⟩)) v).run P w = .ok () (w.setRow b (vs.take off++v.cells.toList++vs.drop (off+aD.size)).toArray):=by
 have:=run_storeCells_at P b off T v.cells.toList 0 ⟨vs⟩ w bz (by simpa [hs]using hle) fP
 simp only [Nat.add_zero,Array.length_toList,hs]at this;simp [Instr.storeAt,Instr.sureAddr,storeVar,r.run_sizeOf,hs,this]
def ut{vs us:List Value}{off:Nat}(hle:off+us.length≤vs.length)(i:Nat):(vs.take off++us++vs.drop (off+us.length))[i]? = if off≤i∧i<off+us.length then us[i-off]? else vs[i]? := by
 have ce:(vs.take off).length=off:=by simp;omega
 by_cases ab:i<off
 ·rw [if_neg (by omega),List.append_assoc,List.getElem?_append_left (by omega),List.getElem?_take,if_pos ab]
 ·by_cases ai:i<off+us.length
  ·rw [if_pos (by omega),List.append_assoc,List.getElem?_append_right (by omega),ce,List.getElem?_append_left (by omega)]
  ·rw [if_neg (by omega),List.getElem?_append_right (by simp;omega),List.getElem?_drop]
   congr 1
   simp;omega
def qk{vs us:List Value}{off:Nat}(hle:off+us.length≤vs.length):(vs.take off++us++vs.drop (off+us.length)).length=vs.length:=by
 simp;omega
def Cj{vs us:List Value}{off:Nat}(ab:∀v,v∈vs→v.oneCell'=true)(ai:∀v,v∈us→v.oneCell'=true):∀v,v∈vs.take off++us++vs.drop (off+us.length)→v.oneCell'=true:=by
 intro v aA;rcases List.mem_append.1 aA with aA|aA
 ·rcases List.mem_append.1 aA with aA|aA
  ·exact ab v (List.mem_of_mem_take aA)
  ·exact ai v aA
 ·exact ab v (List.mem_of_mem_drop aA)
def Ck{v:Value}{t:TypeId}{a x:Operand}(ax:o.op = .store t a x)(hx:(⟨tmps,[]⟩:Act).eval x=v){gm:Value}(ha:(⟨tmps,[]⟩:Act).eval a=gm){w':World}(h:(Instr.storeAt t gm v).run P w = .ok () w'):
 (execOp (Act.eval ⟨tmps,[]⟩) o).run P w = .ok .skip w':=by
 simp only [execOp,ax,hx,ha];simp [h]
def jo.set{T:TypeId}{n:Nat}{cs ds:List aS}{off:Nat}(h:jo P T n cs)(hn:∀e,e∈ds→∀r o u,e.d ≠ .cn r o u)(hle:off+ds.length≤cs.length):jo P T n (setAt cs off ds):=λe he r o u hd=>by
 obtain⟨i,hi,rfl⟩:=List.getElem_of_mem he;have hg:(setAt cs off ds)[i]? = some (setAt cs off ds)[i]:=List.getElem?_eq_getElem hi;rw [(lq cs off ds hle).2 i]at hg;split at hg
 ·exact absurd hd (hn _ (List.mem_of_getElem? hg) r o u)
 ·exact h _ (List.mem_of_getElem? hg) r o u hd
def Xp(h:eZ P K N M β g tmps w)(hp:fe tmps p)(b':eF P tt=true){t:TypeId}{aD:ef}(ah:look tt t=some aD){a x:Operand}(ax:o.op = .store t a x){q off:Nat}(ha:rd g.env g.bV p tt o.type a=some (.ptr q off))
 {cs:List aS} (aR:look g.H q=some cs) {d:D} (hx:rd g.env g.bV p tt t x=some d) (ce:nq d=false) (nv:n5 (cellsD d)=true) (hs:(cellsD d).length=aD.size) (hle:off+aD.size≤cs.length):
 Yields P K M β g {e:=none,hs:=[(q,setAt cs off ((cellsD d).map λd=>{d}))],rs:=g.rs} o tmps w:=by
 obtain⟨r⟩:=d_ b' ah;obtain⟨b,hb,aA⟩:=l2 (dL (ds:=[]) h hp ha);obtain⟨bM,vs,T,bO,bz,hlen,_,_,fP,iX⟩:=h.bn.box q cs aR;rw [hb]at bO;cases bO;obtain⟨ab,ai,ay⟩:=(dL (ds:=[]) h hp hx).cells ce;generalize hu:(⟨tmps,[]⟩:Act).eval x=u at ab ai ay
 have KP:u.cells.size=aD.size:=by simp at ab;omega
 have nx:u.cells.toList.length=aD.size:=by simpa using KP
 have el:=Ci (P:=P) r (off:=off) bz KP ai (by omega)
 rw [←nx]at el;refine .inr (.inl ⟨rfl,_,Ck ax hu aA el,M,β,Mem.le_refl _,λ_ _ h=>h,λ_ _ h=>.inl h,?_,λe he=>by cases he⟩)
 have jr:=lq cs off ((cellsD d).map λd=>({d}:aS)) (by simp;omega)
 refine h.bn.xF aR hb bz (vs':=vs.take off++u.cells.toList++vs.drop (off+u.cells.toList.length)) (by rw [qk (by omega),jr.1,hlen]) (Cj fP ai) (λ_=>by
  rw [qk (by omega)]
  refine iX.set (λe he=>?_) (by simp;omega)
  obtain⟨c,hc,rfl⟩:=List.mem_map.1 he;exact uj nv c hc) jr.1
  (setRow_heap w b _ _ T (0,0) bz) (λbM dQ=>setRow_other w b bM _ dQ) cs.length (λi v e eg hH=>?_)
 rw [ut (by omega)]at eg
 rw [jr.2]at hH;simp only [List.length_map]at hH;by_cases hi:off≤i∧i<off+aD.size
 ·rw [if_pos (by omega)]at eg
  rw [if_pos (by omega),List.getElem?_map,Option.map_eq_some_iff]at hH
  obtain⟨c,hc,rfl⟩:=hH;exact⟨ay _ v c eg hc,by simp⟩
 ·rw [if_neg (by omega)]at eg
  rw [if_neg (by omega)]at hH
  have Cl:i<cs.length:=(List.getElem?_eq_some_iff.1 hH).1;refine⟨?_,λT aN=>.inl ⟨by omega,⟨e,hH,aN⟩,eg⟩⟩
  have:=h.bn.ez (.cell q i) e (by simp [aF.at,aR,hH])
  simpa [b9,hb,cell_of_heap bz,eg]using this
def KQ(ty:Nat→Option TypeId):∀(l:List aS) (n:Nat),(mx ty n l).length=l.length∧∀(i:Nat) aZ,(mx ty n l)[i]? = some aZ→∃e,l[i]? = some e∧((e.d=aZ.d∧∀T,aZ.own=some T→e.own=some T)∨∃k g,e.d = .v (.lS k g)∧aZ.d = .v (.bC k 0 g))
 |[],n=>by simp [mx]
 |e::l,n=>by
  obtain⟨ab,ai⟩:=KQ ty l (n+1);refine⟨by simp [mx,ab],λi aZ he=>?_⟩
  cases i with
  |zero=>
   simp only [mx,List.getElem?_cons_zero,Option.some.injEq]at he;refine⟨e,rfl,?_⟩
   split at he
   ·rename_i k g hd;subst he;exact .inr ⟨k,g,hd,rfl⟩
   ·subst he;exact .inl ⟨rfl,λ_ h=>h⟩
  |succ i=>simp only [mx,List.getElem?_cons_succ]at he ⊢;exact ai i aZ he
def KR(h:eZ P K N M β g tmps w)(hp:fe tmps p)(b':eF P tt=true){t:TypeId}{aD:ef}(ah:look tt t=some aD){a x:Operand}(ax:o.op = .store t a x){q off:Nat}(ha:rd g.env g.bV p tt o.type a=some (.ptr q off))
 {cs:List aS} (aR:look g.H q=some cs) {d:D} (hx:rd g.env g.bV p tt t x=some d) (ce:nq d=false) (nv:n5 (cellsD d)=true) (hs:(cellsD d).length=aD.size) (hle:off+aD.size≤cs.length) (ty:Nat→Option TypeId):
 Yields P K M β g {e:=none,hs:=[(q,mx ty 0 (setAt cs off ((cellsD d).map λd=>{d})))],rs:=g.rs} o tmps w:=by
 have up:∀{M':Mem} {β':Nat→Option Nat} {v:Value} {w':World},hq P K M β g {e:=none,hs:=[(q,setAt cs off ((cellsD d).map λd=>{d}))],rs:=g.rs} tmps v w'→
  hq P K M β g {e:=none,hs:=[(q,mx ty 0 (setAt cs off ((cellsD d).map λd=>{d})))],rs:=g.rs} tmps v w':=by
  rintro M' β' v w' ⟨ql,oe,ab,ai,ay,bg,_⟩
  refine⟨ql,oe,ab,ai,λr b hb=>?_,?_,λe he=>by cases he⟩
  ·rcases ay r b hb with bQ|bQ
   ·exact .inl bQ
   ·right
    simp only [dn]at bQ ⊢;split at bQ
    ·rename_i lr;simp [lr]
    ·cases bQ
  ·obtain⟨g1,g2⟩:=KQ ty (setAt cs off ((cellsD d).map λd=>({d}:aS))) 0
   refine bg.WN rfl (λl aZ cF=>?_) (λr cs' ak=>?_)
   ·cases l with
    |slot s=>exact⟨aZ,cF,.inl ⟨rfl,λ_ h=>h⟩⟩
    |cell r i=>
     simp only [aF.at,after,List.cons_append,List.nil_append,dn]at cF ⊢;by_cases lr:q=r
     ·simp only [lr,if_true,Option.bind_some]at cF ⊢;exact g2 i aZ cF
     ·simp only [lr,if_false]at cF ⊢;exact⟨aZ,cF,.inl ⟨rfl,λ_ h=>h⟩⟩
   ·simp only [after,List.cons_append,List.nil_append,dn]at ak ⊢;by_cases lr:q=r
    ·simp only [lr,if_true,Option.some.injEq]at ak ⊢;subst ak;exact⟨_,rfl,g1.symm⟩
    ·simp only [lr,if_false]at ak ⊢;exact⟨cs',ak,rfl⟩
 rcases Xp h hp b' ah ax ha aR hx ce nv hs hle with⟨v,w',ab,ai⟩|⟨h0,w',ab,ai⟩|⟨fn,vs,ab,ai⟩
 ·exact .inl ⟨v,w',ab,up (M':=M) (β':=β) ai⟩
 ·exact .inr (.inl ⟨h0,w',ab,up (M':=M) (β':=β) ai⟩)
 ·exact .inr (.inr ⟨fn,vs,ab,ai.mono λe w' ⟨v,ay,bg⟩=>⟨v,ay,up (M':=M) (β':=β) bg⟩⟩)
def KS(h:eZ P K N M β g tmps w)(hp:fe tmps p)(b':eF P tt=true){t:TypeId}{aD:ef}(ah:look tt t=some aD){a x:Operand}(ax:o.op = .store t a x){q off:Nat}(ha:rd g.env g.bV p tt o.type a=some (.ptr q off))
 {cs:List aS} (aR:look g.H q=some cs) {k n:Nat} {get:Nat→V} (hx:rd g.env g.bV p tt t x=some (.v (.bC k n get))) (hs:aD.size=1) (hle:off+aD.size≤cs.length) {s:TypeId} {l:List Nat}
 (fk:km P K M β {env:=fV l g.env,H:=g.H,aU:=g.aU} tmps w (.cell q off) ((⟨tmps,[]⟩:Act).eval x) s):
 Yields P K M β g {e:=none,f5:=l,hs:=[(q,setAt cs off [{d:=.v (.bC k n get),own:=some s}])],rs:=g.rs} o tmps w:=by
 obtain⟨r⟩:=d_ b' ah;obtain⟨b,hb,aA⟩:=l2 (dL (ds:=[]) h hp ha);have l3:=h.bn.f5 l;obtain⟨bM,vs,T,bO,bz,hlen,_,_,fP,iX⟩:=h.bn.box q cs aR;rw [hb]at bO;cases bO;have js:=dL (ds:=[]) h hp hx;generalize hu:(⟨tmps,[]⟩:Act).eval x=u at js fk
 have uu:u.cells = #[u]∧u.oneCell'=true:=by
  obtain⟨a,cap,rfl,_⟩:=qg js;exact⟨rfl,rfl⟩
 have el:=Ci (P:=P) r (off:=off) bz (v:=u) (by rw [uu.1,hs];rfl) (by rw [uu.1];simpa using uu.2) (by omega)
 rw [uu.1,hs]at el;have cV:off<cs.length:=by omega
 refine .inr (.inl ⟨rfl,_,Ck ax hu aA el,M,β,Mem.le_refl _,λ_ _ h=>h,λ_ _ h=>.inl h,?_,λe he=>by cases he⟩)
 refine l3.xF (st:={env:=fV l g.env,H:=g.H,aU:=g.aU}) aR hb bz (vs':=vs.take off++[u]++vs.drop (off+1)) (by rw [show off+1=off+[u].length by rfl,qk (by simp;omega),(lq cs off _ (by simp;omega)).1,hlen])
  (Cj (us:=[u]) fP (by simpa using uu.2)) (λ_=>by
   rw [show off+1=off+[u].length by rfl,qk (by simp;omega)]
   refine iX.set (λe he=>?_) (by simp;omega)
   obtain rfl:=List.mem_singleton.1 he;exact λ_ _ _ e=>by cases e) (lq cs off _ (by simp;omega)).1 (setRow_heap w b _ _ T (0,0) bz) (λbM dQ=>setRow_other w b bM _ dQ) off (λi v e eg hH=>?_)
 rw [show off+1=off+[u].length by rfl,ut (by simp;omega)]at eg
 rw [KO cV]at hH;by_cases hi:i=off
 ·subst hi;simp at eg hH
  subst eg;subst hH;refine⟨js,λT aN=>.inr ⟨rfl,?_⟩⟩
  cases aN;exact fk
 ·rw [if_neg hi]at hH;rw [if_neg (by simp;omega)]at eg
  refine⟨?_,λT aN=>.inl ⟨hi,⟨e,hH,aN⟩,eg⟩⟩
  have:=h.bn.ez (.cell q i) e (by simp [aF.at,aR,hH])
  simpa [b9,hb,cell_of_heap bz,eg]using this
end
section
variable {P:Program} {K:Ctx} {M:Mem} {β:Nat→Option Nat} {st:aF} {tmps:Array Value} {w:World}
def bE.KT(h:bE P K M β st tmps w){r off size T b:Nat}{cs cs':List aS}{vs:List Value}{dr:TypeId}(ak:look st.H r=some cs)(hb:β r=some b)(bz:w.heap[b]? = some (.cells ⟨vs⟩ dr (0,0)))
 (fP:∀v,v∈vs→v.oneCell'=true) (hlen:vs.length=cs.length)
 (hm:∀x,x∈marks T→x.1<size∧∃e,cs[off+x.1]? = some e∧e.own=some x.2)
 (dP:cs'.length=cs.length) (hE:∀(j:Nat) aZ,cs'[j]? = some aZ→∃bP,cs[j]? = some bP∧bP.d=aZ.d∧(∀U,aZ.own=some U→bP.own=some U∧∀x,x∈marks T→j≠off+x.1)) (l0:Loc):
 bE P K M β {st with H:=(r,cs')::st.H} tmps w∧km P K M β {st with H:=(r,cs')::st.H} tmps w l0 (.agg ⟨(vs.drop off).take size⟩) T:=by
 have eM:∀l aZ,({st with H:=(r,cs')::st.H}:aF).at l=some aZ→∃bP,st.at l=some bP∧bP.d=aZ.d∧∀U,aZ.own=some U→bP.own=some U∧∀x,x∈marks T→l ≠ .cell r (off+x.1):=by
  intro l aZ cF;cases l with
  |slot s=>exact⟨aZ,cF,rfl,λU h=>⟨h,λ_ _=>by simp⟩⟩
  |cell cA j=>
   by_cases f_:r=cA
   ·subst f_;simp [aF.at,dn]at cF;obtain⟨bP,ab,ai,ay⟩:=hE j aZ cF;exact⟨bP,by simp [aF.at,ak,ab],ai,λU gn=>⟨(ay U gn).1,λx hx=>by simp [(ay U gn).2 x hx]⟩⟩
   ·refine⟨aZ,by simpa [aF.at,dn,f_]using cF,rfl,λU h=>⟨h,λ_ _=>by simp [Ne.symm f_]⟩⟩
 have ej:∀cA c,look ((r,cs')::st.H) cA=some c→∃gk,look st.H cA=some gk∧gk.length=c.length:=by
  intro cA c hc;by_cases f_:r=cA
  ·subst f_;simp [dn]at hc;subst hc;exact⟨cs,ak,dP.symm⟩
  ·exact⟨c,by simpa [dn,f_]using hc,rfl⟩
 -- xR ah1 at a mark
 have mk:∀x,x∈marks T→∃e,st.at (.cell r (off+x.1))=some e∧e.own=some x.2∧b9 tmps w β (.cell r (off+x.1))=(Array.mk ((vs.drop off).take size)).getD x.1 undef∧jM P K.F M w x.2 ((Array.mk ((vs.drop off).take size)).getD x.1 undef)∧
  ∀cj,hC x.2 (b9 tmps w β (.cell r (off+x.1))) cj↔ij ((Array.mk ((vs.drop off).take size)).getD x.1 undef)=some cj:=by
  intro x hx;obtain⟨cV,e,he,aN⟩:=hm x hx;have ah:st.at (.cell r (off+x.1))=some e:=by simp [aF.at,ak,he]
  have Cm:off+x.1<vs.length:=by rw [hlen];exact(List.getElem?_eq_some_iff.1 he).1
  have aA:b9 tmps w β (.cell r (off+x.1))=vs[off+x.1]:=by simp only [b9,hb,cell_of_heap bz,List.getElem?_eq_getElem Cm,Option.getD_some]
  have hg:(Array.mk ((vs.drop off).take size)).getD x.1 undef=vs[off+x.1]:=by
   have:((vs.drop off).take size)[x.1]? = some vs[off+x.1]:=by rw [List.getElem?_take,if_pos cV,List.getElem?_drop,List.getElem?_eq_getElem Cm]
   simp [Array.getD_eq_getD_getElem?,this]
  have ax:=h.own _ e x.2 ah aN;have ab:=fP vs[off+x.1] (List.getElem_mem Cm);refine⟨e,ah,aN,aA.trans hg.symm,?_,?_⟩
  ·rw [hg];rw [aA]at ax;rcases ax.cases with⟨c,hc⟩|⟨ai,_⟩
   ·rw [hc]at ab;cases ab
   ·exact ai
  ·rw [hg];rw [aA]at ax ⊢;rcases ax.cases with⟨c,hc⟩|⟨_,ai⟩
   ·rw [hc]at ab;cases ab
   ·exact ai
 refine⟨h.sub rfl (λl aZ cF=>?_) ej,⟨λx hx=>?_,λx hx y b_ ko cj ab ai=>?_⟩,λl aZ T' cj cF dK _ cS bO=>?_,λcj cA c cS eD=>?_⟩
 ·obtain⟨bP,ab,ai,ay⟩:=eM l aZ cF;exact⟨bP,ab,ai,λT aN=>(ay T aN).1⟩
 ·obtain⟨_,_,_,_,ab,_⟩:=mk x hx;exact ab
 ·obtain⟨e1,bb,a2,_,_,a3⟩:=mk x hx;obtain⟨e2,c1,c2,_,_,c3⟩:=mk y b_;have:=h.uniq _ _ e1 e2 x.2 y.2 cj bb a2 c1 c2 ((a3 cj).2 ab) ((c3 cj).2 ai)
  simp only [Loc.cell.injEq]at this;omega
 ·obtain⟨x,hx,cS⟩:=cS;obtain⟨e1,bb,a2,_,_,a3⟩:=mk x hx;obtain⟨bP,ab,_,ay⟩:=eM l aZ cF;exact(ay T' dK).2 x hx (h.uniq l _ bP e1 T' x.2 cj ab (ay T' dK).1 bb a2 bO ((a3 cj).2 cS))
 ·obtain⟨x,hx,cS⟩:=cS;obtain⟨e1,bb,a2,_,_,a3⟩:=mk x hx;obtain⟨gk,ab,_⟩:=ej cA c eD;exact h.unbox _ e1 x.2 cj cA gk bb a2 ((a3 cj).2 cS) ab
def bE.Xq(h:bE P K M β st tmps w){s r off T:Nat}{e:aS}{cs cs':List aS}{us:List Value}(hs:look st.env s=some e)(aN:e.own=some T)(hu:tmps.getD s undef = .agg ⟨us⟩)
 (ak:look st.H r=some cs) (aA:∀x,x∈marks T→b9 tmps w β (.cell r (off+x.1))=(Array.mk us).getD x.1 undef) (dP:cs'.length=cs.length)
 (fP:∀x,x∈marks T→∀c,(Array.mk us).getD x.1 undef ≠ .agg c)
 (hE:∀(j:Nat) aZ,cs'[j]? = some aZ→∃bP,cs[j]? = some bP∧bP.d=aZ.d∧∀U,aZ.own=some U→bP.own=some U∨∃x,x∈marks T∧j=off+x.1∧U=x.2):
 bE P K M β {st with env:=fV [s] st.env,H:=(r,cs')::st.H} tmps w:=by
 have ah:st.at (.slot s)=some e:=hs;have ax:=h.own (.slot s) e T ah aN;have b8:b9 tmps w β (.slot s) = .agg ⟨us⟩:=hu;rw [b8]at ax
 have eM:∀l aZ,({st with env:=fV [s] st.env,H:=(r,cs')::st.H}:aF).at l=some aZ→∃bP,st.at l=some bP∧bP.d=aZ.d∧∀U,aZ.own=some U→(bP.own=some U∧l ≠ .slot s)∨∃x,x∈marks T∧l = .cell r (off+x.1)∧U=x.2:=by
  intro l aZ cF;cases l with
  |slot ob=>
   simp only [aF.at,kM]at cF ⊢;by_cases qb:ob=s
   ·subst qb;simp at cF
    obtain⟨e1,ab,rfl⟩:=cF;exact⟨e1,ab,rfl,λU gn=>by simp at gn⟩
   ·simp [qb]at cF;exact⟨aZ,cF,rfl,λU gn=>.inl ⟨gn,by simp [qb]⟩⟩
  |cell cA j=>
   by_cases f_:r=cA
   ·subst f_;simp [aF.at,dn]at cF;obtain⟨bP,ab,ai,ay⟩:=hE j aZ cF;refine⟨bP,by simp [aF.at,ak,ab],ai,λU gn=>?_⟩
    rcases ay U gn with bg|⟨x,hx,bg,bQ⟩
    ·exact .inl ⟨bg,by simp⟩
    ·exact .inr ⟨x,hx,by rw [bg],bQ⟩
   ·exact⟨aZ,by simpa [aF.at,dn,f_]using cF,rfl,λU gn=>.inl ⟨gn,by simp⟩⟩
 have ej:∀cA c,look ((r,cs')::st.H) cA=some c→∃gk,look st.H cA=some gk∧gk.length=c.length:=by
  intro cA c hc;by_cases f_:r=cA
  ·subst f_;simp [dn]at hc;subst hc;exact⟨cs,ak,dP.symm⟩
  ·exact⟨c,by simpa [dn,f_]using hc,rfl⟩
 have xS:∀x,x∈marks T→∀cj,hC x.2 ((Array.mk us).getD x.1 undef) cj↔ij ((Array.mk us).getD x.1 undef)=some cj:=by
  intro x hx cj;have:=fP x hx
  generalize (Array.mk us).getD x.1 undef=v at this
  cases v<;>first
   |exact Iff.rfl
   |exact absurd rfl (this _)
 have Cn:∀x,x∈marks T→∀cj,ij ((Array.mk us).getD x.1 undef)=some cj→hC T (b9 tmps w β (.slot s)) cj:=λx hx cj cS=>by rw [b8];exact⟨x,hx,cS⟩
 -- jN state ah2 any marks, first
 have base:bE P K M β {st with env:=fV [s] st.env,H:=(r,cs')::st.H} tmps w↔True:=by
  refine⟨λ_=>trivial,λ_=>?_⟩
  constructor
  ·intro l aZ cF;obtain⟨bP,ab,ai,_⟩:=eM l aZ cF;rw [←ai];exact h.ez l bP ab
  ·intro l aZ U cF gn;obtain⟨bP,ab,_,ay⟩:=eM l aZ cF;rcases ay U gn with⟨bg,_⟩|⟨x,hx,rfl,rfl⟩
   ·exact h.own l bP U ab bg
   ·rw [aA x hx];exact(ax.1 x hx).at
  ·intro l cz e1 e2 U xT cj fg gn eE KU cS e6;obtain⟨f1,g1,_,c6⟩:=eM l e1 fg;obtain⟨f2,g2,_,ar⟩:=eM cz e2 eE;rcases c6 U gn with⟨m1,KV⟩|⟨x,hx,rfl,rfl⟩
   ·rcases ar xT KU with⟨m2,KW⟩|⟨y,b_,rfl,rfl⟩
    ·exact h.uniq l cz f1 f2 U xT cj g1 m1 g2 m2 cS e6
    ·rw [aA y b_,xS y b_]at e6;exact absurd (h.uniq l (.slot s) f1 e U T cj g1 m1 ah aN cS (Cn y b_ cj e6)) KV
   ·rw [aA x hx,xS x hx]at cS;rcases ar xT KU with⟨m2,KW⟩|⟨y,b_,rfl,rfl⟩
    ·exact absurd (h.uniq cz (.slot s) f2 e xT T cj g2 m2 ah aN e6 (Cn x hx cj cS)) KW
    ·rw [aA y b_,xS y b_]at e6;by_cases ko:x.1=y.1
     ·rw [ko]
     ·exact absurd e6 (ax.2 x hx y b_ ko cj cS)
  ·intro l e1 U cj cA c fg gn cS eD;obtain⟨f1,g1,_,c6⟩:=eM l e1 fg;obtain⟨gk,ab,_⟩:=ej cA c eD;rcases c6 U gn with⟨m1,KV⟩|⟨x,hx,rfl,rfl⟩
   ·exact h.unbox l f1 U cj cA gk g1 m1 cS ab
   ·rw [aA x hx,xS x hx]at cS;exact h.unbox (.slot s) e T cj cA gk ah aN (Cn x hx cj cS) ab
  ·intro cA c eD;obtain⟨gk,gF,hlen⟩:=ej cA c eD;obtain⟨cj,vs,fX,ab,ai,ay,bg,bQ,dh,e5⟩:=h.box cA gk gF
   exact⟨cj,vs,fX,ab,ai,ay.trans hlen,bg,bQ,dh,e5.BR gF eD λl aZ ah=>by
    obtain⟨e,g1,g2,_⟩:=eM l aZ ah;exact⟨e,g1,.inl g2⟩⟩
  ·intro ae an cj c1 c2 gF hQ cS e6;obtain⟨d1,ab,_⟩:=ej ae c1 gF;obtain⟨d2,ai,_⟩:=ej an c2 hQ;exact h.inj ae an cj d1 d2 ab ai cS e6
  ·exact h.lt
  ·exact h.mem
  ·exact h.m0
  ·exact h.frame
  ·exact h.gO
  ·exact h.hD
  ·exact h.gj
 exact base.2 trivial
end
def uv:∀(l:List aS) (i:Nat) (x:Nat×TypeId),x∈marksOf i l→i≤x.1∧∃e,l[x.1-i]? = some e∧e.own=some x.2
 |[],i,x,h=>by simp [marksOf]at h
 |e::l,i,x,h=>by
  have next:x∈marksOf (i+1) l→i≤x.1∧∃aZ,(e::l)[x.1-i]? = some aZ∧aZ.own=some x.2:=λh=>by
   obtain⟨ab,aZ,ai,ay⟩:=uv l (i+1) x h;refine⟨by omega,aZ,?_,ay⟩
   rw [show x.1-i=(x.1-(i+1))+1 by omega,List.getElem?_cons_succ];exact ai
  unfold marksOf at h;split at h
  ·rename_i T aN;rcases List.mem_cons.1 h with rfl|h
   ·exact⟨Nat.le_refl _,e,by simp,aN⟩
   ·exact next h
  ·exact next h
def Co:∀{l m:List (Nat×TypeId)},o0 l m=true→l=m
 |[],[],_=>rfl
 |x::l,y::m,h=>by
  simp only [o0,Bool.and_eq_true,Nat.beq_eq]at h;rw [Co h.2];obtain⟨a,b⟩:=x;obtain⟨c,d⟩:=y;simp only at h
  rw [h.1.1,h.1.2]
 |[],_::_,h=>by simp [o0]at h
 |_::_,[],h=>by simp [o0]at h
def KX:∀{ms:List (Nat×TypeId)} {i:Nat} {U:TypeId},r8 ms i=some U→∃x,x∈ms∧x.1=i∧U=x.2
 |[],i,U,h=>by simp [r8]at h
 |x::l,i,U,h=>by
  unfold r8 at h;rw [Bool.cond_eq_ite]at h;split at h
  ·rename_i hx;cases h;exact⟨x,by simp,by simpa using hx,rfl⟩
  ·obtain⟨y,b_,ab,ai⟩:=KX h;exact⟨y,by simp [b_],ab,ai⟩
def KY(ms:List (Nat×TypeId)):∀(ds:List D) (i:Nat),(my ms i ds).length=ds.length∧∀(j:Nat),(my ms i ds)[j]? = (ds[j]?).map λd=>{d,own:=r8 ms (i+j)}
 |[],i=>by simp [my]
 |d::ds,i=>by
  obtain⟨ab,ai⟩:=KY ms ds (i+1);refine⟨by simp [my,ab],λj=>?_⟩
  cases j with
  |zero=>simp [my]
  |succ j=>simp only [my,List.getElem?_cons_succ];rw [ai j,show i+1+j=i+(j+1)by omega]
def Xr{M:Mem}{β:Nat→Option Nat}{v:Value}{d:D}(h:co M β v d)(hd:BM d=true):∃us,v = .agg ⟨us⟩:=by
 cases h<;>first
  |(cases hd;done)
  |(rename_i hx;cases hx<;>first |(cases hd;done) |exact⟨_,rfl⟩)
  |exact⟨_,rfl⟩
section
variable {P:Program} {K:Ctx} {N:Nat} {M:Mem} {β:Nat→Option Nat} {g:db} {tmps:Array Value} {w:World} {o:Oper} {p:Path} {tt:dr}
def Xs(h:eZ P K N M β g tmps w)(hp:fe tmps p)(b':eF P tt=true){t:TypeId}{aD:ef}(ah:look tt t=some aD){a:Operand}(ax:o.op = .load t a){q off:Nat}(ha:rd g.env g.bV p tt o.type a=some (.ptr q off))
 {cs:List aS} (aR:look g.H q=some cs) (gl:aD.k.isAgg=true) (hle:off+aD.size≤cs.length) {c:Nat} (hm:o0 (marks c) (marksOf 0 ((cs.drop off).take aD.size))=true) {rs:List eR}:
 Yields P K M β g {e:=some {d:=kj (((cs.drop off).take aD.size).map (·.d)),own:=some c},hs:=[(q,setAt cs off (((cs.drop off).take aD.size).map λe=>{d:=e.d}))],rs} o tmps w:=by
 obtain⟨r⟩:=d_ b' ah;obtain⟨b,hb,aA⟩:=l2 (dL (ds:=[]) h hp ha);obtain⟨bM,vs,T,bO,bz,hlen,_,_,fP,iX⟩:=h.bn.box q cs aR;rw [hb]at bO;cases bO;have el:=xK (P:=P) (w:=w) r (off:=off) bz (by omega) gl
 have ny:=Co hm;have iE:((cs.drop off).take aD.size).length=aD.size:=by simp;omega
 have jr:=lq cs off (((cs.drop off).take aD.size).map λe=>({d:=e.d}:aS)) (by rw [List.length_map,iE];exact hle)
 have nz:∀j,j<aD.size→((cs.drop off).take aD.size)[j]? = cs[off+j]? := λj hj=>by rw [List.getElem?_take,if_pos hj,List.getElem?_drop]
 have hE:=λl0=>h.bn.KT (T:=c) (size:=aD.size) (off:=off) aR hb bz fP hlen (cs':=setAt cs off (((cs.drop off).take aD.size).map λe=>{d:=e.d})) (λx hx=>by
  rw [ny]at hx;obtain⟨_,e,ai,ay⟩:=uv _ 0 x hx;rw [Nat.sub_zero]at ai;have cV:x.1<aD.size:=by rw [←iE];exact(List.getElem?_eq_some_iff.1 ai).1
  exact⟨cV,e,by rw [←nz x.1 cV];exact ai,ay⟩) jr.1 (λj aZ hj=>by
  rw [jr.2]at hj;rw [List.length_map,iE]at hj;by_cases hi:off≤j∧j<off+aD.size
  ·rw [if_pos hi,List.getElem?_map,Option.map_eq_some_iff]at hj;obtain⟨bP,ab,rfl⟩:=hj;rw [nz _ (by omega),show off+(j-off)=j by omega]at ab
   exact⟨bP,ab,rfl,λU gn=>by cases gn⟩
  ·rw [if_neg hi]at hj;refine⟨aZ,hj,rfl,λU gn=>⟨gn,λx hx Xt=>?_⟩⟩
   rw [ny]at hx;obtain⟨_,e,ai,_⟩:=uv _ 0 x hx;rw [Nat.sub_zero]at ai;have cV:x.1<aD.size:=by rw [←iE];exact(List.getElem?_eq_some_iff.1 ai).1
   omega) l0
 refine .inl ⟨.agg ⟨(vs.drop off).take aD.size⟩,w,?_,M,β,Mem.le_refl _,λ_ _ h=>h,λ_ _ h=>.inl h,(hE (.slot 0)).1,λe1 mF=>?_⟩
 ·simp only [execOp,ax];rw [aA];exact hF _ el
 ·cases mF;refine⟨?_,λT l0 aN=>?_⟩
  ·refine sh (by simp;omega) (λv aA=>fP v (List.mem_of_mem_drop (List.mem_of_mem_take aA))) (λi v c aA hc=>?_)
   rw [List.getElem?_map,Option.map_eq_some_iff]at hc;obtain⟨e,he,rfl⟩:=hc;rw [List.getElem?_take]at aA he;split at aA
   ·rename_i hi;rw [if_pos hi,List.getElem?_drop]at he;rw [List.getElem?_drop]at aA;have:=h.bn.ez (.cell q (off+i)) e (by simp [aF.at,aR,he])
    simpa [b9,hb,cell_of_heap bz,aA]using this
   ·cases aA
  ·cases aN;exact(hE l0).2
def Xu(h:eZ P K N M β g tmps w)(hp:fe tmps p)(b':eF P tt=true){t:TypeId}{aD:ef}(ah:look tt t=some aD){a:Operand}{u:Nat}(ax:o.op = .store t a (.tmp u)){q off:Nat}(ha:rd g.env g.bV p tt o.type a=some (.ptr q off))
 {cs:List aS} (aR:look g.H q=some cs) {d:D} (hx:rd g.env g.bV p tt t (.tmp u)=some d) (ce:nq d=false) (nv:n5 (cellsD d)=true) (hs:(cellsD d).length=aD.size) (hle:off+aD.size≤cs.length)
 (gl:BM d=true) {sm:aS} {s:TypeId} (qm:look g.env u=some sm) (aN:sm.own=some s) (l4:∀x,x∈marks s→x.1<aD.size) {rs:List eR}:
 Yields P K M β g {e:=none,f5:=[u],hs:=[(q,setAt cs off (my (marks s) 0 (cellsD d)))],rs} o tmps w:=by
 obtain⟨r⟩:=d_ b' ah;obtain⟨b,hb,aA⟩:=l2 (dL (ds:=[]) h hp ha);obtain⟨bM,vs,T,bO,bz,hlen,_,_,fP,iX⟩:=h.bn.box q cs aR;rw [hb]at bO;cases bO;have fl:=dL (ds:=[]) h hp hx;obtain⟨us,Cp⟩:=Xr fl gl;obtain⟨ab,ai,ay⟩:=fl.cells ce;rw [Cp]at ab ai ay;have xU:(Value.agg ⟨us⟩).cells.toList=us:=rfl;rw [xU]at ai
 have nx:us.length=aD.size:=by
  have:(Value.agg ⟨us⟩).cells.toList.length=(cellsD d).length:=by simpa using ab
  rw [xU]at this;omega
 have el:=Ci (P:=P) r (off:=off) bz (v:=.agg ⟨us⟩) nx ai (by omega)
 rw [xU,←nx]at el;have jr:=lq cs off ((cellsD d).map λd=>({d}:aS)) (by simp;omega)
 have Cq:=KY (marks s) (cellsD d) 0;have KZ:=lq cs off (my (marks s) 0 (cellsD d)) (by rw [Cq.1];omega)
 have nw:=setRow_heap w b _ (vs.take off++us++vs.drop (off+us.length)).toArray T (0,0) bz
 have Xv:bE P K M β {env:=g.env,H:=(q,setAt cs off ((cellsD d).map λd=>{d}))::g.H,aU:=g.aU} tmps (w.setRow b (vs.take off++us++vs.drop (off+us.length)).toArray):=by
  refine h.bn.xF aR hb bz (vs':=vs.take off++us++vs.drop (off+us.length)) (by rw [qk (by omega),jr.1,hlen]) (Cj fP ai) (λ_=>by
   rw [qk (by omega)]
   refine iX.set (λe he=>?_) (by simp;omega)
   obtain⟨c,hc,rfl⟩:=List.mem_map.1 he;exact uj nv c hc) jr.1 nw (λbM dQ=>setRow_other w b bM _ dQ) cs.length (λi v e eg hH=>?_)
  rw [ut (by omega)]at eg
  rw [jr.2]at hH;simp only [List.length_map]at hH;by_cases hi:off≤i∧i<off+aD.size
  ·rw [if_pos (by omega)]at eg
   rw [if_pos (by omega),List.getElem?_map,Option.map_eq_some_iff]at hH
   obtain⟨c,hc,rfl⟩:=hH;exact⟨ay _ v c (by rw [xU];exact eg) hc,by simp⟩
  ·rw [if_neg (by omega)]at eg
   rw [if_neg (by omega)]at hH
   have Cl:i<cs.length:=(List.getElem?_eq_some_iff.1 hH).1;refine⟨?_,λT aN=>.inl ⟨by omega,⟨e,hH,aN⟩,eg⟩⟩
   have:=h.bn.ez (.cell q i) e (by simp [aF.at,aR,hH])
   simpa [b9,hb,cell_of_heap bz,eg]using this
 have Xw:=Xv.Xq (s:=u) (r:=q) (off:=off) (T:=s) (us:=us) (cs:=setAt cs off ((cellsD d).map λd=>{d})) (cs':=setAt cs off (my (marks s) 0 (cellsD d))) qm aN Cp (by simp [dn]) (λx hx=>by
  have cV:=l4 x hx
  have:(vs.take off++us++vs.drop (off+us.length))[off+x.1]? = us[x.1]? := by
   rw [ut (by omega),if_pos (by omega)];congr 1;omega
  simp only [b9,hb,cell_of_heap nw,this];simp [Array.getD_eq_getD_getElem?]) (by rw [KZ.1,jr.1]) (λx hx c hc=>by
  have cV:=l4 x hx;have bg:(Array.mk us).getD x.1 undef=us[x.1]'(by omega):=by simp [Array.getD_eq_getD_getElem?,List.getElem?_eq_getElem (show x.1<us.length by omega)]
  have bQ:=ai (us[x.1]'(by omega)) (List.getElem_mem _)
  rw [bg]at hc;rw [hc]at bQ;cases bQ) (λj aZ hj=>by
  rw [KZ.2,Cq.1]at hj;rw [jr.2,List.length_map];by_cases hi:off≤j∧j<off+(cellsD d).length
  ·rw [if_pos hi,Cq.2,Option.map_eq_some_iff]at hj;obtain⟨c,hc,rfl⟩:=hj;refine⟨{d:=c},by rw [if_pos hi,List.getElem?_map,hc];rfl,rfl,λU gn=>.inr ?_⟩
   simp only [Nat.zero_add]at gn;obtain⟨x,hx,bQ,dh⟩:=KX gn;exact⟨x,hx,by omega,dh⟩
  ·rw [if_neg hi]at hj;exact⟨aZ,by rw [if_neg hi];exact hj,rfl,λU gn=>.inl gn⟩)
 refine .inr (.inl ⟨rfl,_,Ck ax Cp aA el,M,β,Mem.le_refl _,λ_ _ h=>h,λ_ _ h=>.inl h,?_,λe he=>by cases he⟩)
 refine Xw.sub rfl (λl aZ cF=>⟨aZ,?_,rfl,λ_ h=>h⟩) (λr cs' ak=>⟨cs',?_,rfl⟩)
 ·cases l with
  |slot ob=>exact cF
  |cell cA j=>
   simp only [aF.at,after,List.cons_append,List.nil_append,dn]at cF ⊢;by_cases lr:q=cA
   ·simpa [lr]using cF
   ·simpa [lr]using cF
 ·simp only [after,List.cons_append,List.nil_append,dn]at ak ⊢;by_cases lr:q=r
  ·simpa [lr]using ak
  ·simpa [lr]using ak
end
end Go.Ab

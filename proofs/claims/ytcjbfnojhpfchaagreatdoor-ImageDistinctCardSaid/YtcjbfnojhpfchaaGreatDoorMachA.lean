/- The abstract machine: a step of code over plain data, proved against the model. -/
import Derived.Orders
import Derived.KernelRfl
import Derived.Laws.Sem
import Derived.Laws.Entries
import Derived.ChangeKeysEq
import Derived.Laws.Cells
import Derived.Laws.CopyRow
import Derived.Laws.Slices
import Derived.Laws.Strings2
import Derived.Deep.AppendSrc
set_option linter.all false
namespace Go.Ab
abbrev ae7:=List UInt8
inductive V where
 |int (k:IntKind) (n:Int)
 |bool (b:Bool)
 |str (s:ae7)
 |agg (cs:List V)
 |bm (k n:Nat) (get:Nat→V)
 |iface (t:TypeId) (x:V)
 |dD |gF |aF
 |any
 |me (k:Nat) (get:Nat→V)
def V.cells:V→List V
 |.agg cs=>cs
 |x=>[x]
inductive D where
 |v (x:V)
 |ptr (r off:Nat)
 |bZ (r off:Nat) (u:TypeId)
 |eg (x:V)
 |full (k n:Nat) (get:Nat→V)
 |fn (f:FuncId) (er:List D)
 |agg (cs:List D)
 |cc (cs:List D)
structure aM where
 d:D
 own:Option TypeId:=none
structure az where
 env:List (Nat×aM)
 H:List (Nat×List aM)
 aJ:Nat
inductive j' where
 |int (k:IntKind) |bool |str
 |bF (b2:List (Nat×TypeId×Nat))
 |bm (e:TypeId) |arr (n:Nat) (e:TypeId) |ptr |aQ |mf
deriving DecidableEq
structure dS where
 k:j'
 size:Nat
 bytes:Nat
 zero:List V
 hZ:List (Nat×TypeId):=[]
abbrev c7:=List (TypeId×dS)
def look{α:Type}:List (Nat×α)→Nat→Option α
 |[],_=>none
 |(j,x)::l,i=>bif Nat.beq j i then some x else look l i
def del{α:Type}:List (Nat×α)→Nat→List (Nat×α)
 |[],_=>[]
 |(j,x)::l,i=>bif Nat.beq j i then del l i else(j,x)::del l i
def j'.isAgg:j'→Bool
 |.bF _ |.arr _ _=>true
 |_=>false
abbrev Path:=List (Nat×Bool)
def Path.has(p:Path)(x:Nat×Bool):Bool:=p.any λy=>Nat.beq y.1 x.1&&(y.2 == x.2)
def Path.sub(q p:Path):Bool:=q.all p.has
inductive Out where
 |ret (d:D) (own:Option TypeId)
 |aW (x:V)
inductive eD where
 |val (x:V)
 |raw
 |own
 |call (o:Out) (H:Option (List (List aM))) (os:List Nat)
def a_(i:Int)(n:Nat):Bool:=decide (0≤i)&&decide (i<n)
def gh(i:Int)(n:Nat):Bool:=decide (0≤i)&&decide (i≤n)
def oA(a b:Int)(n:Nat):Bool:=decide (0≤a)&&(decide (a≤b)&&decide (b≤n))
def sL(a:Int):Bool:=!decide (a=0)
def room(n b:Nat):Bool:=decide (n*b≤140737488355328)
def ew(n:Nat):Bool:=decide (n≤9223372036854775807)
structure cG where
 env:List (Nat×aM)
 bB:List (Nat×Path×D)
 H:List (Nat×List aM)
 aJ:Nat
 rs:List eD
 aL:List Prop
 ids:List (Nat×Nat):=[]
def CI:Value→Option V
 |.int k n=>some (.int k n)
 |.bool b=>some (.bool b)
 |.string s=>some (.str s.data.toList)
 |.pointer none=>some .dD
 |.nilIface=>some .gF
 |.nilFunc=>some .aF
 |_=>none
def rd(env:List (Nat×aM))(bB:List (Nat×Path×D))(p:Path)(tt:c7)(ty:TypeId):Operand→Option D
 |.tmp t=>match look bB t with
  |some (q,d)=>bif q.sub p then some d else none
  |none=>(look env t).map (·.d)
 |.const (.slice none 0 0)=>match look tt ty with
  |some {k:=.bm _,zero:=[.bm k 0 get],..}=>some (.v (.bm k 0 get))
  |_=>none
 |.const v=>(CI v).map .v
 |.func f=>some (.fn f [])
 |.global _=>none
def jK(f:TypeId→Operand→Option D):List Operand→List TypeId→Option (List D)
 |[],_=>some []
 |x::xs,t::ts=>match f t x,jK f xs ts with
  |some d,some ds=>some (d::ds)
  |_,_=>none
 |_::_,[]=>none
def u4:List D→Option (List V)
 |[]=>some []
 |.v x::l=>(u4 l).map (x :: ·)
 |_::_=>none
def nA(cs:List D):D:=match u4 cs with|some vs=>.v (.agg vs)|none=>.agg cs
def cellsD:D→List D
 |.v x=>x.cells.map .v
 |.agg cs=>cs
 |d=>[d]
def po:List D→Bool
 |[]=>true
 |.bZ _ _ _::_=>false
 |_::l=>po l
def oB:D→Bool
 |.cc _=>true
 |_=>false
def setAt{α:Type}:List α→Nat→List α→List α
 |cs,0,[]=>cs
 |_::cs,0,x::xs=>x::setAt cs 0 xs
 |c::cs,n+1,xs=>c::setAt cs n xs
 |[],_,_=>[]
def oC(place:Nat→Option (Nat×Nat))(cells:List D):List (Nat×D)→Option (List D)
 |[]=>some cells
 |(i,d)::rest=>match place i with
  |none=>none
  |some (off,size)=>
   bif Nat.beq (cellsD d).length size&&Nat.ble (off+size) cells.length && !oB d then oC place (setAt cells off (cellsD d)) rest else none
abbrev Mem:=Nat→Nat→Option Value
def Mem.le(M M':Mem):Prop:=∀b o v,M b o=some v→M' b o=some v
def Mem.le_refl(M:Mem):M.le M:=λ_ _ _ h=>h
def Mem.le_trans{A B C:Mem}(h:A.le B)(cL:B.le C):A.le C:=λb o v e=>cL b o v (h b o v e)
inductive cw(M:Mem):Value→V→Prop where
 |int (k:IntKind) (n:Int):cw M (.int k n) (.int k n)
 |bool (b:Bool):cw M (.bool b) (.bool b)
 |str (l:ae7):cw M (.string ⟨⟨l⟩⟩) (.str l)
 |agg (vs:List Value) (cs:List V) (hn:vs.length=cs.length) (Z:∀v,v∈vs→v.oneCell'=true)
  (h:∀(i:Nat) v c,vs[i]? = some v→cs[i]? = some c→cw M v c):cw M (.agg ⟨vs⟩) (.agg cs)
 |j_ (k:Nat) (get:Nat→V):cw M (.slice none 0 0) (.bm k 0 get)
 |mO (a:Addr) (k:Nat) (get:Nat→V):cw M (.slice (some a) 0 0) (.bm k 0 get)
 |bm (b off k n cap:Nat) (get:Nat→V) (val:Nat→Nat→Value) (hc:n≤cap)
  (hk:∀i,i<n→(get i).cells.length=k)
  (cr:∀i j,i<n→j<k→M b (off+i*k+j)=some (val i j)) (Z:∀i j,i<n→j<k→(val i j).oneCell'=true)
  (h:∀(i j:Nat) c,i<n→(get i).cells[j]? = some c→cw M (val i j) c):cw M (.slice (some ⟨b,off,none⟩) n cap) (.bm k n get)
 |iface (t:TypeId) (v:Value) (x:V) (h:cw M v x):cw M (.iface t v) (.iface t x)
 |dD:cw M (.pointer none) .dD
 |gF:cw M .nilIface .gF
 |aF:cw M .nilFunc .aF
 |any (v:Value) (Z:v.oneCell'=true):cw M v .any
 |me (k:Nat) (get:Nat→V):cw M (.slice none 0 0) (.me k get)
def fX(raw x:V):Prop:=∀(M:Mem) (v:Value),cw M v raw→cw M v x
def sM(k:IntKind)(a b:Int):Int:=k.wrap (BitVec.ofInt k.bits a &&& BitVec.ofInt k.bits b).toNat
def qC(k:IntKind)(a b:Int):Int:=k.wrap (BitVec.ofInt k.bits a |||BitVec.ofInt k.bits b).toNat
def nB(k:IntKind)(a b:Int):Int:=k.wrap (BitVec.ofInt k.bits a ^^^ BitVec.ofInt k.bits b).toNat
def CJ(k:IntKind)(a b:Int):Int:=k.wrap (BitVec.ofInt k.bits a &&& ~~~BitVec.ofInt k.bits b).toNat
def oD(k:IntKind)(x y:Int):Int:=k.wrap (x*2 ^ min y.toNat k.bits)
def mP(k:IntKind)(x y:Int):Int:=x.fdiv (2 ^ min y.toNat k.bits)
def mQ(y:Int):Bool:=decide (0≤y)
def CK(op:BinOp)(k:IntKind)(x y:Int):Option (V×List Prop):=
 match op with
 |.shl=>some (.int k (oD k x y),[mQ y=true])
 |.shr=>some (.int k (mP k x y),[mQ y=true])
 |_=>none
def CL(op:BinOp)(k:IntKind)(a b:Int):Option (V×List Prop):=
 match op with
 |.add=>some (.int k (k.wrap (a+b)),[])
 |.sub=>some (.int k (k.wrap (a-b)),[])
 |.mul=>some (.int k (k.wrap (a*b)),[])
 |.quo=>some (.int k (k.wrap (a.tdiv b)),[sL b=true])
 |.rem=>some (.int k (a.tmod b),[sL b=true])
 |.eql=>some (.bool (decide (a=b)),[])
 |.neq=>some (.bool (!decide (a=b)),[])
 |.lss=>some (.bool (decide (a<b)),[])
 |.leq=>some (.bool (decide (a≤b)),[])
 |.gtr=>some (.bool (decide (b<a)),[])
 |.geq=>some (.bool (decide (b≤a)),[])
 |.and=>some (.int k (sM k a b),[])
 |.or=>some (.int k (qC k a b),[])
 |.xor=>some (.int k (nB k a b),[])
 |.andNot=>some (.int k (CJ k a b),[])
 |_=>none
def CM(op:BinOp)(a b:ae7):Option (V×List Prop):=
 match op with
 |.add=>some (.str (a++b),[ew (a.length+b.length)=true])
 |.eql=>some (.bool (decide (a=b)),[])
 |.neq=>some (.bool (!decide (a=b)),[])
 |.lss=>some (.bool (Op.bytesLess a b),[])
 |.leq=>some (.bool (Op.bytesLess a b||decide (a=b)),[])
 |.gtr=>some (.bool (!(Op.bytesLess a b||decide (a=b))),[])
 |.geq=>some (.bool (!Op.bytesLess a b),[])
 |_=>none
def isNil:j'→D→Option Bool
 |.ptr,.v .dD=>some true
 |.ptr,.ptr _ _=>some false
 |.ptr,.eg _=>some false
 |.mf,.v .gF=>some true
 |.mf,.v (.iface _ _)=>some false
 |.aQ,.v .aF=>some true
 |.aQ,.fn _ _=>some false
 |_,_=>none
def yn:j'→D→Bool
 |.ptr,.v .dD=>true
 |.mf,.v .gF=>true
 |.aQ,.v .aF=>true
 |_,_=>false
def hv:List (Option j')→List V→List V→Option Bool
 |[],[],[]=>some true
 |some (.int _)::ks,.int k a::l,.int k' b::m=>bif decide (k=k') then(hv ks l m).map λr=>decide (a=b)&&r else none
 |some .str::ks,.str a::l,.str b::m=>(hv ks l m).map λr=>decide (a=b)&&r
 |some .bool::ks,.bool a::l,.bool b::m=>(hv ks l m).map λr=>(a == b)&&r
 |_,_,_=>none
def kC(tt:c7):Nat→List (Nat×TypeId×Nat)→List (Option j')
 | 0,b2=>b2.map λf=>(look tt f.2.1).map (·.k)
 |d+1,b2=>b2.flatMap λf=>match look tt f.2.1 with
  |some {k:=.bF gs,..}=>kC tt d gs
  |o=>[o.map (·.k)]
def JK(k:Option j')(SZ:Bool)(op:BinOp)(a b:D):Option (V×List Prop):=
 match a,b with
 |.v (.int k x),.v (.int k' y)=>match CK op k x y with
  |some z=>some z
  |none=>bif decide (k=k')then CL op k x y else none
 |.v (.str x),.v (.str y)=>CM op x y
 |.v (.bool x),.v (.bool y)=>match k,op with
  |some .bool,.eql=>some (.bool (x == y),[])
  |some .bool,.neq=>some (.bool (!(x == y)),[])
  |_,_=>none
 |a,b=>match k with
  |some k=>bif yn k b&&SZ then match isNil k a,op with
   |some t,.eql=>some (.bool t,[])
   |some t,.neq=>some (.bool (!t),[])
   |_,_=>none
   else none
  |none=>none
def isConst:Operand→Bool
 |.const _=>true
 |_=>false
def JL(op:UnOp)(a:V):Option V:=
 match op,a with
 |.not,.bool b=>some (.bool (!b))
 |.neg,.int k n=>some (.int k (k.wrap (0-n)))
 |_,_=>none
def u5(env:List (Nat×aM))(bB:List (Nat×Path×D))(t:Nat):Option Bool:=
 match look bB t with
 |some (_,.v (.bool b))=>some b
 |some _=>none
 |none=>match look env t with
  |some ⟨.v (.bool b),_⟩=>some b
  |_=>none
def under(g:cG):Path→Prop→Prop
 |[],q=>q
 |(t,w)::p,q=>match u5 g.env g.bB t with
  |some b=>b=w→under g p q
  |none=>under g p q
structure ji where
 e:Option aM
 f_:List Nat:=[]
 hs:List (Nat×List aM):=[]
 e6:Nat:=0
 rs:List eD
 aL:List Prop:=[]
def mR(g:cG):Operand→Option TypeId
 |.tmp t=>(look g.env t).bind (·.own)
 |_=>none
def S0(t:Nat)(o:Oper):Bool:=
 match o.op with
 |.assign (.tmp u)=>Nat.beq u t
 |.store _ _ (.tmp u)=>Nat.beq u t
 |.call {callee:=.builtin .append,args,..}=>match args.toList with
  |.tmp u::_=>Nat.beq u t
  |_=>false
 |_=>false
def S1(ops:List Oper)(dst:Option Nat):Bool:=
 match dst with
 |some t=>ops.any (S0 t)
 |none=>false
def refs:D→List Nat
 |.ptr r _=>[r]
 |.bZ r _ _=>[r]
 |.fn _ er=>er.flatMap fun |.ptr r _=>[r] |_=>[]
 |.agg cs=>cs.flatMap fun |.ptr r _=>[r] |.bZ r _ _=>[r] |.fn _ er=>(er.flatMap fun |.ptr r _=>[r] |_=>[]) |_=>[]
 |_=>[]
def idx(l:List Nat)(r:Nat):Option Nat:=
 match l with
 |[]=>none
 |x::l=>bif Nat.beq x r then some 0 else(idx l r).map (· + 1)
def dedup:List Nat→List Nat
 |[]=>[]
 |x::l=>bif (dedup l).any (Nat.beq x)then dedup l else x::dedup l
mutual
def dE(f:Nat→Option Nat):D→Option D
 |.v x=>some (.v x)
 |.ptr r off=>(f r).map (.ptr · off)
 |.bZ r off u=>(f r).map (.bZ · off u)
 |.eg x=>some (.eg x)
 |.full k n get=>some (.full k n get)
 |.fn g er=>(jj f er).map (.fn g)
 |.agg cs=>(jj f cs).map .agg
 |.cc cs=>(jj f cs).map .cc
def jj(f:Nat→Option Nat):List D→Option (List D)
 |[]=>some []
 |d::l=>match dE f d,jj f l with
  |some dm,some cd=>some (dm::cd)
  |_,_=>none
end
def yo(f:Nat→Option Nat)(e:aM):Option aM:=(dE f e.d).map λd=>{d,own:=e.own}
def k2(f:Nat→Option Nat):List aM→Option (List aM)
 |[]=>some []
 |e::l=>match yo f e,k2 f l with
  |some a1,some cd=>some (a1::cd)
  |_,_=>none
def ig(f:Nat→Option Nat):List (List aM)→Option (List (List aM))
 |[]=>some []
 |b::l=>match k2 f b,ig f l with
  |some bl,some cd=>some (bl::cd)
  |_,_=>none
def boxes(H:List (Nat×List aM)):List Nat→Option (List (List aM))
 |[]=>some []
 |r::l=>match look H r,boxes H l with
  |some b,some bs=>some (b::bs)
  |_,_=>none
def cl{α:Type}:Nat→List α→List (Nat×α)
 |_,[]=>[]
 |n,x::l=>(n,x)::cl (n+1) l
def jk:List Nat→List (List aM)→List (Nat×List aM)
 |r::l,b::bs=>(r,b)::jk l bs
 |_,_=>[]
def mapM'{α β:Type}(f:α→Option β):List α→Option (List β)
 |[]=>some []
 |x::l=>match f x,mapM' f l with
  |some y,some ys=>some (y::ys)
  |_,_=>none
structure fw where
 call:FuncId→List D→List (Nat×TypeId)→List (List aM)→Out→List (List aM)→Prop
 eq:TypeId→Bool
inductive lL where
 |go (e:ji)
 |aW (x:V) (hs:List (Nat×List aM)) (aL:List Prop)
def mg(H:List (Nat×List aM)):Nat→List Nat→List Nat
 | 0,l=>l
 |n+1,l=>mg H n (dedup (l++l.flatMap λr=>((look H r).getD []).flatMap λe=>refs e.d))
def k3:List Nat→Bool
 |[]=>true
 |x::l=>!l.any (Nat.beq x)&&k3 l
def handed(tt:c7)(g:cG)(xs:List Operand)(ts:List TypeId):List Nat→Option (List (Nat×Option Nat×TypeId))
 |[]=>some []
 |i::os=>match xs[i]?,handed tt g xs ts os with
  |some (.tmp t),some l=>match look g.env t with
   |some ⟨_,some e⟩=>bif (look g.bB t).isNone&&l.all (λx=>!(match x.2.1 with |some u=>Nat.beq u t |none=>false) && !Nat.beq x.1 i)then some ((i,some t,e)::l)else none
   |_=>none
  |some (.const (.slice none 0 0)),some l=>match(ts[i]?).bind (look tt) with
   |some {k:=.bm e,..}=>bif l.all (λx=>!Nat.beq x.1 i)then some ((i,none,e)::l)else none
   |_=>none
  |_,_=>none
def sN(bL:fw)(tt:c7)(g:cG)(p:Path)(xs:List Operand)(ts:List TypeId)(f:FuncId)(args:List D):Option lL:=
 let ρ:=mg g.H 2 (dedup (args.flatMap refs))
 match g.rs with
 |.call out ch os::rs=>
  match jj (idx ρ) args,(boxes g.H ρ).bind (ig (idx ρ)),handed tt g xs ts os with
  |some h1,some H1,some hd=>bif !k3 ρ || !(p.isEmpty||os.isEmpty)then none else
   let dw:=hd.map λx=>(x.1,x.2.2)
   let f_:=hd.filterMap λx=>x.2.1
   match out,ch with
   |.ret d own,none=>(dE (λj=>ρ[j]?) d).map λdm=>.go {e:=some {d:=dm,own},f_,rs,aL:=[bL.call f h1 dw H1 out H1]}
   |.ret d own,some ch=>match dE (λj=>ρ[j]?) d,ig (λj=>ρ[j]?) ch with
    |some dm,some gS=>bif Nat.beq ch.length ρ.length then some (.go {e:=some {d:=dm,own},f_,hs:=jk ρ gS,rs,aL:=[bL.call f h1 dw H1 out ch]})else none
    |_,_=>none
   |.aW x,none=>some (.aW x [] [bL.call f h1 dw H1 out H1])
   |.aW x,some ch=>match ig (λj=>ρ[j]?) ch with
    |some gS=>bif Nat.beq ch.length ρ.length then some (.aW x (jk ρ gS) [bL.call f h1 dw H1 out ch])else none
    |none=>none
  |_,_,_=>none
 |_=>none
def yp:V→Option TypeId→Option TypeId
 |.bm _ _ _,t=>t
 |_,_=>none
def JM(tt:c7):Nat→List (Nat×TypeId×Nat)→Nat→Option TypeId
 | 0,_,_=>none
 |d+1,b2,j=>match b2.find? λf=>Nat.ble f.1 j&&Nat.blt j (f.1+f.2.2) with
  |some f=>match look tt f.2.1 with
   |some {k:=.bm e,..}=>some e
   |some {k:=.bF gs,..}=>JM tt d gs (j-f.1)
   |_=>none
  |none=>none
def CN(tt:c7):j'→Nat→Option TypeId
 |.bF b2,j=>JM tt 5 b2 j
 |.bm e,0=>some e
 |_,_=>none
def JN(tt:c7)(hZ:List (Nat×TypeId))(k:j')(i:Nat):Option TypeId:=
 match CN tt k i with
 |some e=>some e
 |none=>(hZ.find? λy=>Nat.beq (y.1+1) i).bind λy=>match look tt y.2 with |some {k,..}=>CN tt k 1 |none=>none
def u6(hZ:List (Nat×TypeId))(id i:Nat)(x:V):D:=
 match x with
 |.dD=>match hZ.find? λy=>Nat.beq y.1 i with
  |some y=>.bZ id i y.2
  |none=>.v x
 |_=>.v x
def yq(tt:c7)(t:TypeId)(id:Nat):Option (List aM):=
 match look tt t with
 |some {k:=.bm e,zero,..}=>some (zero.map λx=>{d:=.v x,own:=yp x (some e)})
 |some {k:=.bF b2,zero,hZ,..}=>some ((cl 0 zero).map fun(i,x)=>
  {d:=u6 hZ id i x,own:=yp x (JN tt hZ (.bF b2) i)})
 |some {zero,..}=>some (zero.map λx=>{d:=.v x})
 |none=>none
def V.isAgg:V→Bool
 |.agg _=>true
 |_=>false
def CO:V→V
 |.bm k 0 g=>.me k g
 |x=>x
def nC(ty:Nat→Option TypeId):Nat→List aM→List aM
 |_,[]=>[]
 |i,e::l=>(match e.d with
  |.v (.me k g)=>{d:=.v (.bm k 0 g),own:=ty i}
  |_=>e)::nC ty (i+1) l
def elems(isAgg:Bool)(size:Nat):Nat→List (Nat×D)→Option (List V)
 |_,[]=>some []
 |i,(j,.v x)::b9=>bif Nat.beq i j&&Nat.beq x.cells.length size&&(x.isAgg == isAgg) then(elems isAgg size (i+1) b9).map (x :: ·)else none
 |_,_=>none
def oE(tt:c7)(t:TypeId)(i:Nat):TypeId:=
 match look tt t with
 |some {k:=.bF b2,..}=>match b2[i]? with
  |some f=>f.2.1
  |none=>0
 |some {k:=.arr _ e,..}=>e
 |some {k:=.bm e,..}=>e
 |_=>0
def sO(tt:c7)(aB:dS)(id i:Nat)(d:D):aM:=
 match d with
 |.v .dD=>{d:=u6 aB.hZ id i .dD}
 |.v (.me k g)=>match JN tt aB.hZ aB.k i with
  |some T=>{d:=.v (.bm k 0 g),own:=some T}
  |none=>{d}
 |d=>{d}
def nD(tt:c7)(aB:dS)(id:Nat):Nat→List D→List aM
 |_,[]=>[]
 |i,d::l=>sO tt aB id i d::nD tt aB id (i+1) l
def lM(g:cG)(o:Oper):Option (Nat×Nat):=
 match o.dst.bind (look g.ids) with
 |some id=>bif (look g.H id).isNone&&Nat.blt id g.aJ then some (id,0)else none
 |none=>some (g.aJ,1)
def step1(bL:fw)(tt:c7)(ops:List Oper)(g:cG)(p:Path)(o:Oper):Option lL:=
 let r:=rd g.env g.bB p tt o.type
 let val (d:Option D):Option lL:=d.map λd=>.go {e:=some {d},rs:=g.rs}
 let u7 (x:Option (V×List Prop)):Option lL:=x.map fun(x,aL)=>.go {e:=some {d:=.v x},rs:=g.rs,aL}
 let yr (raw:V) (mk:V→D) (aL:List Prop):Option lL:=match g.rs with
  |.val x::rs=>some (.go {e:=some {d:=mk x},rs,aL:=fX raw x::aL})
  |.raw::rs=>some (.go {e:=some {d:=mk raw},rs,aL:=aL})
  |_=>none
 match o.op with
 |.move x=>match r x with
  |some d=>match mR g x,x with
   |some e,.tmp t=>match g.rs with
    |.own::rs=>bif p.isEmpty then some (.go {e:=some {d,own:=some e},f_:=[t],rs})else none
    |_=>bif p.isEmpty&&S1 ops o.dst then some (.go {e:=some {d,own:=some e},f_:=[t],rs:=g.rs})else some (.go {e:=some {d},rs:=g.rs})
   |_,_=>some (.go {e:=some {d},rs:=g.rs})
  |none=>none
 |.assign x=>match r x with
  |some d=>match mR g x,x with
   |some e,.tmp t=>bif p.isEmpty then some (.go {e:=some {d,own:=some e},f_:=[t],rs:=g.rs})else some (.go {e:=some {d},rs:=g.rs})
   |_,.const (.slice none 0 0)=>match look tt o.type with
    |some {k:=.bm e,..}=>bif p.isEmpty then some (.go {e:=some {d,own:=some e},rs:=g.rs})else some (.go {e:=some {d},rs:=g.rs})
    |_=>none
   |_,_=>some (.go {e:=some {d},rs:=g.rs})
  |none=>none
 |.pick (.tmp c) a b=>match r (.tmp c),rd g.env g.bB ((c,true)::p) tt o.type a,rd g.env g.bB ((c,false)::p) tt o.type b with
  |some (.v (.bool pp)),some (.v (.bool u9)),some (.v (.bool qD))=>val (some (.v (.bool (bif pp then u9 else qD))))
  |_,_,_=>none
 |.alloc t=>match lM g o with
  |some (id,e6)=>match yq tt t id with
   |some z=>some (.go {e:=some {d:=.ptr id 0},hs:=[(id,z)],e6,rs:=g.rs})
   |none=>none
  |none=>none
 |.box t x=>match r x,lM g o,look tt t with
  |some d,some (id,e6),some aB=>bif oB d || !po (cellsD d) || !Nat.beq (cellsD d).length aB.size then none else some (.go {e:=some {d:=.ptr id 0},hs:=[(id,nD tt aB id 0 (cellsD d))],e6,rs:=g.rs})
  |_,_,_=>none
 |.build t parts=>match look tt t,mapM' (fun(i,x)=>(rd g.env g.bB p tt (oE tt t i) x).map λd=>(i,d)) parts.toList with
  |some {k:=.bF b2,zero,..},some b9=>bif b2.all (λf=>Nat.ble 1 f.2.2)then match g.rs with
   |.own::rs=>((oC (λi=>(b2[i]?).map λf=>(f.1,f.2.2)) (zero.map λx=>.v (CO x)) b9).map nA).map λd=>.go {e:=some {d},rs}
   |_=>val ((oC (λi=>(b2[i]?).map λf=>(f.1,f.2.2)) (zero.map .v) b9).map nA)
   else none
  |some {k:=.arr _ e,zero,..},some b9=>match look tt e with
   |some {size,..}=>val ((oC (λi=>some (i*size,size)) (zero.map .v) b9).map nA)
   |none=>none
  |_,_=>none
 |.buildSlice t len parts=>match look tt t,mapM' (fun(i,x)=>(rd g.env g.bB p tt (oE tt t i) x).map λd=>(i,d)) parts.toList with
  |some {k:=.bm e,..},some b9=>match look tt e with
   |some {k,size,..}=>
    match elems k.isAgg size 0 b9,g.rs with
    |some xs,.val x::rs=>bif Nat.ble (len*size) 16777216&&Nat.ble 1 size&&Nat.beq xs.length len then some (.go {e:=some {d:=.v x,own:=some e},rs,aL:=[fX (.bm size len λi=>xs.getD i .dD) x]})else none
    |_,_=>none
   |none=>none
  |_,_=>none
 |.load t a=>match r a,look tt t with
  |some (
   .ptr q off),some aB=>match look g.H q with
   |some cs=>bif aB.k.isAgg then
    bif Nat.ble (off+aB.size) cs.length then val (some (nA (((cs.drop off).take aB.size).map (·.d))))else none
    else match cs[off]? with
     |some e=>match e.own,g.rs with
      |some _,.own::rs=>bif p.isEmpty then some (.go {e:=some e,hs:=[(q,setAt cs off [{d:=e.d}])],rs})else none
      |_,_=>val (some e.d)
     |none=>none
   |none=>none
  |some (.eg x),some aB=>bif x.isAgg == aB.k.isAgg&&Nat.beq x.cells.length aB.size then val (some (.v x))else none
  |_,_=>none
 |.store t a x=>match r a,rd g.env g.bB p tt t x,look tt t with
  |some (
   .ptr q off),some d,some aB=>match look g.H q with
   |some cs=>bif Nat.beq (cellsD d).length aB.size&&Nat.ble (off+aB.size) cs.length&&p.isEmpty && !oB d&&po (cellsD d) then
    match x,mR g x,d with
    |.tmp u,some s,.v (.bm ..)=>some (.go {e:=none,f_:=[u],hs:=[(q,setAt cs off [{d,own:=some s}])],rs:=g.rs})
    |.const (.slice none 0 0),_,_=>match aB.k with
     |.bm s=>some (.go {e:=none,hs:=[(q,setAt cs off [{d,own:=some s}])],rs:=g.rs})
     |_=>none
    |_,_,_=>some (.go {e:=none,hs:=[(q,nC (λi=>CN tt aB.k (i-off)) 0 (setAt cs off ((cellsD d).map λd=>{d})))],rs:=g.rs})
    else none
   |none=>none
  |_,_,_=>none
 |.nilCheck x=>match r x with
  |some (.ptr q off)=>val (some (.ptr q off))
  |some (.eg x)=>val (some (.eg x))
  |_=>none
 |.binOp op t x y _=>match r x,r y with
  |some (.v (.agg xs)),some (.v (.agg ys))=>match look tt t with
   |some {k:=.bF b2,..}=>bif bL.eq t then match op,hv (kC tt 4 b2) xs ys with
    |.eql,some r=>val (some (.v (.bool r)))
    |.neq,some r=>val (some (.v (.bool (!r))))
    |_,_=>none
    else none
   |_=>none
  |some a,some b=>u7 (JK ((look tt t).map (·.k)) (isConst y) op a b)
  |_,_=>none
 |.unOp op _ x=>match r x with
  |some (.v a)=>val ((JL op a).map .v)
  |_=>none
 |.convert s t x=>match look tt s,look tt t,r x with
  |some {k:=.int _,..},some {k:=.int k,..},some (.v (.int _ n))=>val (some (.v (.int k (k.wrap n))))
  |some {k:=.str,..},some {k:=.str,..},some (.v (.str s))=>val (some (.v (.str s)))
  |some {k:=.bm e,..},some {k:=.str,..},some (.v (.bm 1 n get))=>match look tt e,g.rs with
   |some {k:=.int .u8,..},.val (.str l)::rs=>some (.go {e:=some {d:=.v (.str l)},rs,aL:=[l.length=n∧∀i,i<n→get i = .int .u8 ((l.getD i 0).toNat:Int)]})
   |_,_=>none
  |_,_,_=>none
 |.makeInterface t x=>match r x,look tt t with
  |some (.v x),some {k,..}=>match k with
   |.mf=>none
   |_=>val (some (.v (.iface t x)))
  |_,_=>none
 |.makeFunc (.func f) first er=>bif first.isEmpty then(mapM' r er.toList).map λds=>.go {e:=some {d:=.fn f ds},rs:=g.rs}else none
 |.slice t x lo hi ka=>match ka,look tt t with
  |none,some {k:=.str,..}=>match r x,lo.map r,hi.map r with
   |some (.v (.str s)),none,none=>val (some (.v (.str s)))
   |some (.v (.str s)),some (some (.v (.int _ a))),none=>u7 (some (.str (s.drop a.toNat),[gh a s.length=true]))
   |some (.v (.str s)),none,some (some (.v (.int _ b)))=>u7 (some (.str (s.take b.toNat),[gh b s.length=true]))
   |some (.v (.str s)),some (some (.v (.int _ a))),some (some (.v (.int _ b)))=>u7 (some (.str ((s.take b.toNat).drop a.toNat),[oA a b s.length=true]))
   |_,_,_=>none
  |none,some {k:=.bm e,..}=>match look tt e,r x,lo.map r,hi.map r with
   |some {size,..},some (.v (.bm k n get)),some (some (.v (.int _ a))),none=>bif Nat.beq k size then yr (.bm k (n-a.toNat) λi=>get (a.toNat+i)) .v [gh a n=true]else none
   |some {size,..},some (.v (.bm k n get)),none,some (some (.v (.int _ b)))=>bif Nat.beq k size then yr (.bm k b.toNat get) .v [gh b n=true]else none
   |some {size,..},some (.v (.bm k n get)),some (some (.v (.int _ a))),some (some (.v (.int _ b)))=>bif Nat.beq k size then yr (.bm k (b.toNat-a.toNat) λi=>get (a.toNat+i)) .v [oA a b n=true]else none
   |some {size,..},some (.v (.bm k n get)),none,none=>bif Nat.beq k size then val (some (.v (.bm k n get)))else none
   |_,_,_,_=>none
  |some _,some {k:=.bm e,..}=>match look tt e,r x,lo,hi.map r,ka.map r with
   |some {size,..},some (.v (.bm k n get)),none,some (some (.v (.int _ b))),some (some (.v (.int _ c)))=>bif Nat.beq k size then some (.go {e:=some {d:=.full k b.toNat get},rs:=g.rs,aL:=[b=c,gh b n=true]})else none
   |_,_,_,_,_=>none
  |_,_=>none
 |.fieldAddr s x f=>match r x,look tt s with
  |some (.ptr q off),some {k:=.bF b2,..}=>match b2[f]? with
   |some (c_,_,eU)=>bif Nat.ble 1 eU then val (some (.ptr q (off+c_)))else none
   |none=>none
  |some (
   .eg (.agg cs)),some {k:=.bF b2,..}=>match b2[f]? with
   |some (
    c_,gm,eU)=>match look tt gm with
    |some aB=>bif Nat.ble 1 eU&&Nat.ble (c_+eU) cs.length then
     bif aB.k.isAgg then val (some (.eg (.agg ((cs.drop c_).take eU))))else bif Nat.beq eU 1 then match cs[c_]? with
      |some c=>bif c.isAgg then none else val (some (.eg c))
      |none=>none
     else none
     else none
    |none=>none
   |none=>none
  |_,_=>none
 |.field s x f=>match r x,look tt s with
  |some (
   .v (.agg cs)),some {k:=.bF b2,..}=>match b2[f]? with
   |some (c_,gm,eU)=>match look tt gm with
    |some aB=>bif Nat.ble (c_+eU) cs.length then bif aB.k.isAgg then val (some (.v (.agg ((cs.drop c_).take eU))))else match cs[c_]? with
     |some c=>val (some (.v c))
     |none=>none
     else none
    |none=>none
   |none=>none
  |some (.agg cs),some {k:=.bF b2,..}=>match b2[f]? with
   |some (c_,gm,eU)=>match look tt gm,cs[c_]? with
    |some aB,some c=>bif aB.k.isAgg || !Nat.beq eU 1||oB c then none else val (some c)
    |_,_=>none
   |none=>none
  |_,_=>none
 |.indexAddr t x i=>match r x,r i,look tt t with
  |some (.v (.bm k n get)),some (.v (.int _ j)),some {k:=.bm e,..}=>match look tt e with
   |some {size,..}=>bif Nat.beq k size&&Nat.ble 1 size then yr (get j.toNat) .eg [a_ j n=true]else none
   |none=>none
  |_,_,_=>none
 |.index t x i=>match r x,r i,look tt t with
  |some (.v (.str s)),some (.v (.int _ j)),some {k:=.str,..}=>u7 (some (.int .u8 (s.getD j.toNat 0).toNat,[a_ j s.length=true]))
  |_,_,_=>none
 |.typeAssert x _ t ok=>match r x,look tt t with
  |some (.v (.iface h2 y)),some {k,..}=>match k with
   |.mf=>none
   |_=>bif Nat.beq h2 t then val (some (bif ok then .cc [.v y,.v (.bool true)]else .v y))else none
  |_,_=>none
 |.extract x i=>match r x with
  |some (.cc ds)=>val ds[i]?
  |_=>none
 |.call c=>match c.callee with
  |.value x=>match r x,jK (rd g.env g.bB p tt) c.args.toList c.argTypes.toList with
   |some (.fn f er),some ds=>sN bL tt g p c.args.toList c.argTypes.toList f (ds++er)
   |_,_=>none
  |.builtin .len=>match mapM' (λy=>r y) c.args.toList,(c.argTypes.toList[0]?).bind (look tt) with
   |some [.v (.str s)],some {k:=.str,..}=>val (some (.v (.int .i64 s.length)))
   |some [.v (.bm _ n _)],some {k:=.bm _,..}=>val (some (.v (.int .i64 n)))
   |_,_=>none
  |.builtin .append=>match c.args.toList,(c.argTypes.toList[0]?).bind (look tt),(c.argTypes.toList[1]?).bind (look tt) with
   |[.tmp t,x],some {k:=.bm e,..},some t2=>match look tt e,r (.tmp t),r x,look g.env t,g.rs with
    |some bN,some (.v (.bm k n get)),some d2,some ⟨_,some a1⟩,.val y::rs=>
     bif Nat.beq e a1&&Nat.beq k bN.size&&Nat.ble 1 bN.size&&Nat.ble 1 bN.bytes&&p.isEmpty then
      match d2,t2.k with
      |.v (.bm aq m kb),.bm _=>bif Nat.beq aq k then
       some (.go {e:=some {d:=.v y,own:=some e},f_:=[t],rs,aL:=[fX (.bm k (n+m) λi=>bif Nat.blt i n then get i else kb (i-n)) y,room (n+m) bN.bytes=true]})
       else none
      |.v (.str s),.str=>bif Nat.beq k 1 then
       some (.go {e:=some {d:=.v y,own:=some e},f_:=[t],rs,aL:=[fX (.bm k (n+s.length) λi=>bif Nat.blt i n then get i else .int .u8 (s.getD (i-n) 0).toNat) y,room (n+s.length) bN.bytes=true]})
       else none
      |_,_=>none
     else none
    |some bN,some (.full k n get),some d2,_,.val y::rs=>
     bif Nat.beq k bN.size&&Nat.ble 1 bN.size&&Nat.ble 1 bN.bytes&&p.isEmpty then
      match d2,t2.k with
      |.v (.bm aq m kb),.bm _=>bif Nat.beq aq k&&Nat.ble 1 m then
       some (.go {e:=some {d:=.v y,own:=some e},f_:=[t],rs,aL:=[fX (.bm k (n+m) λi=>bif Nat.blt i n then get i else kb (i-n)) y,room (n+m) bN.bytes=true]})
       else none
      |_,_=>none
     else none
    |_,_,_,_,_=>none
   |_,_,_=>none
  |.builtin .min=>match mapM' (λy=>r y) c.args.toList with
   |some [.v (.int k a),.v (.int aq b)]=>bif decide (k=aq)then val (some (.v (.int k (bif decide (b<a)then b else a))))else none
   |_=>none
  |.builtin .max=>match mapM' (λy=>r y) c.args.toList with
   |some [.v (.int k a),.v (.int aq b)]=>bif decide (k=aq)then val (some (.v (.int k (bif decide (a<b)then b else a))))else none
   |_=>none
  |_=>none
 |.panic x=>match r x with
  |some (.v (.iface t y))=>some (.aW (.iface t y) [] [])
  |_=>none
 |_=>none
def fY:List Nat→List (Nat×aM)→List (Nat×aM)
 |[],env=>env
 |t::l,env=>match look env t with
  |some e=>(t,{e with own:=none})::fY l env
  |none=>fY l env
inductive u' where
 |go (g:cG)
 |aW (x:V) (st:az) (aL:List Prop)
def mS:List (Nat×aM)→List (Nat×aM)
 |[]=>[]
 |(t,e)::l=>(t,{d:=e.d})::mS l
def mT(ops:List Oper)(g:cG)(o:Oper):Option Path:=
 match o.guard with
 |none=>some []
 |some (j,w)=>match(ops[j]?).bind (·.dst) with
  |some t=>match look g.bB t with
   |some (q,.v (.bool _))=>some (q++[(t,w)])
   |some _=>none
   |none=>match look g.env t with
    |some ⟨.v (.bool _),_⟩=>some [(t,w)]
    |_=>none
  |none=>none
def sP(bB:List (Nat×Path×D))(t:Nat):Bool:=bB.all λx=>Nat.beq x.1 t||x.2.1.all λy=>!Nat.beq y.1 t
def lN(
 bL:fw) (tt:c7) (N:Nat) (ops:List Oper) (g:cG) (o:Oper):Option u':=
 match mT ops g o with
 |none=>none
 |some p=>
  match step1 bL tt ops g p o with
  |none=>none
  |some (.aW x hs aL)=>bif p.isEmpty then some (.aW x {env:=mS g.env,H:=hs++g.H,aJ:=g.aJ} (aL++g.aL))else none
  |some (
   .go f)=>
   let es:cG:={g with rs:=f.rs,aL:=f.aL.map (under g p)++g.aL}
   match o.dst with
   |none=>bif p.isEmpty then some (.go {es with env:=fY f.f_ g.env,H:=f.hs++g.H,aJ:=g.aJ+f.e6})else none
   |some t=>bif Nat.blt t N&&sP g.bB t then
    match p with
    |[]=>some (.go {es with
     env:=match f.e with|some e=>(t,e)::fY f.f_ g.env|none=>del (fY f.f_ g.env) t
     bB:=del g.bB t,H:=f.hs++g.H,aJ:=g.aJ+f.e6})
    |_::_=>match f.e,f.hs,f.f_ with
     |some e,[],[]=>bif p.all (λy=>!Nat.beq y.1 t)&&Nat.beq f.e6 0 then some (.go {es with env:=del g.env t,bB:=(t,p,e.d)::del g.bB t})else none
     |_,_,_=>none
    else none
def pq(bL:fw)(tt:c7)(N:Nat)(ops:List Oper):List Oper→cG→Option u'
 |[],g=>some (.go g)
 |o::l,g=>match lN bL tt N ops g o with
  |some (.go es)=>pq bL tt N ops l es
  |x=>x
mutual
def below(n:Nat):D→Bool
 |.v _ |.eg _ |.full _ _ _=>true
 |.ptr r _=>Nat.blt r n
 |.bZ r _ _=>Nat.blt r n
 |.fn _ er=>qE n er
 |.agg cs |.cc cs=>qE n cs
def qE(n:Nat):List D→Bool
 |[]=>true
 |d::l=>below n d&&qE n l
end
def pr(n:Nat):List aM→Bool
 |[]=>true
 |e::l=>below n e.d&&pr n l
def u_(env:List (Nat×aM)):List Nat→Option (List (Nat×aM))
 |[]=>some []
 |t::l=>match look env t,u_ env l with
  |some e,some cd=>some ((t,e)::cd)
  |_,_=>none
def va(H:List (Nat×List aM)):List Nat→Option (List (Nat×List aM))
 |[]=>some []
 |r::l=>match look H r,va H l with
  |some e,some cd=>some ((r,e)::cd)
  |_,_=>none
def qF(live:List Nat)(boxes:List Nat)(n:Nat)(env:List (Nat×aM))(H:List (Nat×List aM))(aJ:Nat):Option az:=
 match u_ env live,va H boxes with
 |some lO,some bq=>bif Nat.ble n aJ&&lO.all (λx=>below n x.2.d)&&bq.all (λx=>Nat.blt x.1 n&&pr n x.2)then some {env:=lO,H:=bq,aJ:=n}else none
 |_,_=>none
inductive Fin where
 |go (st:az) (aL:List Prop)
 |aW (x:V) (st:az) (aL:List Prop)
def cw.mono{M M':Mem}(cr:M.le M'){v:Value}{x:V}(h:cw M v x):cw M' v x:=by
 induction h with
 |int k n=>exact .int k n
 |bool b=>exact .bool b
 |str l=>exact .str l
 |agg vs cs hn Z _ a'=>exact .agg vs cs hn Z a'
 |j_ k get=>exact .j_ k get
 |mO a k get=>exact .mO a k get
 |bm b off k n cap get val hc hk hm Z _ a'=>exact .bm b off k n cap get val hc hk (λi j hi hj=>cr _ _ _ (hm i j hi hj)) Z a'
 |iface t v x _ a'=>exact .iface t v x a'
 |dD=>exact .dD
 |gF=>exact .gF
 |aF=>exact .aF
 |any v Z=>exact .any v Z
 |me k get=>exact .me k get
inductive b3(M:Mem)(β:Nat→Option Nat):Value→D→Prop where
 |v (u:Value) (x:V) (h:cw M u x):b3 M β u (.v x)
 |ptr (r off b:Nat) (h:β r=some b):b3 M β (.pointer (some ⟨b,off,none⟩)) (.ptr r off)
 |jL (r off:Nat) (u:TypeId):b3 M β (.pointer none) (.bZ r off u)
 |bZ (r off b:Nat) (u:TypeId) (h:β r=some b):b3 M β (.pointer (some ⟨b,off,none⟩)) (.bZ r off u)
 |eg (b off:Nat) (x:V) (val:Nat→Value) (cr:∀j,j<x.cells.length→M b (off+j)=some (val j)) (Z:∀j,j<x.cells.length→(val j).oneCell'=true)
  (h:∀(j:Nat) c,x.cells[j]? = some c→cw M (val j) c):b3 M β (.pointer (some ⟨b,off,none⟩)) (.eg x)
 |full (base:Option Addr) (k n:Nat) (get:Nat→V) (h:cw M (.slice base n n) (.bm k n get)):b3 M β (.slice base n n) (.full k n get)
 |fn (f:FuncId) (vs:List Value) (cs:List D) (hn:vs.length=cs.length)
  (h:∀(i:Nat) v c,vs[i]? = some v→cs[i]? = some c→b3 M β v c):b3 M β (.func (.func f) #[] ⟨vs⟩) (.fn f cs)
 |agg (vs:List Value) (cs:List D) (hn:vs.length=cs.length) (Z:∀v,v∈vs→v.oneCell'=true)
  (h:∀(i:Nat) v c,vs[i]? = some v→cs[i]? = some c→b3 M β v c):b3 M β (.agg ⟨vs⟩) (.agg cs)
 |cc (vs:List Value) (cs:List D) (hn:vs.length=cs.length)
  (h:∀(i:Nat) v c,vs[i]? = some v→cs[i]? = some c→b3 M β v c):b3 M β (.tuple ⟨vs⟩) (.cc cs)
def b3.mono{M M':Mem}{β:Nat→Option Nat}(cr:M.le M'){v:Value}{d:D}(h:b3 M β v d):b3 M' β v d:=by
 induction h with
 |v u x h=>exact .v u x (h.mono cr)
 |ptr r off b h=>exact .ptr r off b h
 |jL r off u=>exact .jL r off u
 |bZ r off b u h=>exact .bZ r off b u h
 |eg b off x val hm Z h=>exact .eg b off x val (λj hj=>cr _ _ _ (hm j hj)) Z (λj c hc=>(h j c hc).mono cr)
 |full b k n get h=>exact .full b k n get (h.mono cr)
 |fn f vs cs hn _ a'=>exact .fn f vs cs hn a'
 |agg vs cs hn Z _ a'=>exact .agg vs cs hn Z a'
 |cc vs cs hn _ a'=>exact .cc vs cs hn a'
def ps{n:Nat}:∀{l:List D} {i:Nat} {d:D},qE n l=true→l[i]? = some d→below n d=true
 |[],_,_,_,h=>by simp at h
 |d::l,0,_,hb,h=>by simp [qE]at hb;simp at h;exact h ▸ hb.1
 |d::l,i+1,_,hb,h=>by simp [qE]at hb;simp at h;exact ps hb.2 h
def b3.JO{M:Mem}{β β':Nat→Option Nat}{n:Nat}(fZ:∀r,r<n→β' r=β r){v:Value}{d:D}(h:b3 M β v d):Ab.below n d=true→b3 M β' v d:=by
 induction h with
 |v u x h=>intro _;exact .v u x h
 |ptr r off b h=>intro hb;exact .ptr r off b (by rw [fZ r (by simpa [Ab.below,Nat.blt_eq]using hb)];exact h)
 |jL r off u=>intro hb;exact .jL r off u
 |bZ r off b u h=>intro hb;exact .bZ r off b u (by rw [fZ r (by simpa [Ab.below,Nat.blt_eq]using hb)];exact h)
 |eg b off x val hm Z h=>intro _;exact .eg b off x val hm Z h
 |full b k n get h=>intro _;exact .full b k n get h
 |fn f vs cs hn _ a'=>intro hb;exact .fn f vs cs hn λi v c ar hc=>a' i v c ar hc (ps (by simpa [Ab.below]using hb) hc)
 |agg vs cs hn Z _ a'=>intro hb;exact .agg vs cs hn Z λi v c ar hc=>a' i v c ar hc (ps (by simpa [Ab.below]using hb) hc)
 |cc vs cs hn _ a'=>intro hb;exact .cc vs cs hn λi v c ar hc=>a' i v c ar hc (ps (by simpa [Ab.below]using hb) hc)
def sQ{f:Nat→Option Nat}:∀{l cd:List D},jj f l=some cd→l.length=cd.length∧∀(i:Nat) d,l[i]? = some d→∃dm,cd[i]? = some dm∧dE f d=some dm
 |[],cd,h=>by simp [jj]at h;subst h;simp
 |d::l,cd,h=>by
  simp only [jj]at h;split at h<;>simp at h
  rename_i dm ga hd ab;subst h;obtain⟨Z,ad⟩:=sQ ab;refine⟨by simp [Z],λi x hx=>?_⟩
  cases i with
  |zero=>simp at hx;subst hx;exact⟨dm,by simp,hd⟩
  |succ i=>simp at hx;simpa using ad i x hx
def b3.dE{M:Mem}{β β':Nat→Option Nat}{f:Nat→Option Nat}(fZ:∀r s b,f r=some s→β r=some b→β' s=some b){v:Value}{d:D}(h:b3 M β v d):
 ∀{dm},dE f d=some dm→b3 M β' v dm:=by
 induction h with
 |v u x h=>intro dm hd;simp [Ab.dE]at hd;subst hd;exact .v u x h
 |ptr r off b h=>
  intro dm hd;simp only [Ab.dE,Option.map_eq_some_iff]at hd;obtain⟨s,hs,rfl⟩:=hd;exact .ptr s off b (fZ r s b hs h)
 |jL r off u=>
  intro dm hd;simp only [Ab.dE,Option.map_eq_some_iff]at hd;obtain⟨s,hs,rfl⟩:=hd;exact .jL s off u
 |bZ r off b u h=>
  intro dm hd;simp only [Ab.dE,Option.map_eq_some_iff]at hd;obtain⟨s,hs,rfl⟩:=hd;exact .bZ s off b u (fZ r s b hs h)
 |eg b off x val hm Z h=>intro dm hd;simp [Ab.dE]at hd;subst hd;exact .eg b off x val hm Z h
 |full b k n get h=>intro dm hd;simp [Ab.dE]at hd;subst hd;exact .full b k n get h
 |fn f vs cs hn _ a'=>
  intro dm hd;simp only [Ab.dE,Option.map_eq_some_iff]at hd;obtain⟨cs',dy,rfl⟩:=hd;obtain⟨Z,ad⟩:=sQ dy;refine .fn f vs cs' (by omega) λi v c ar hc=>?_
  have hi:i<cs.length:=by have:=(List.getElem?_eq_some_iff.1 hc).1;omega
  obtain⟨d1,fx,ai⟩:=ad i cs[i] (List.getElem?_eq_getElem hi);rw [hc]at fx;cases fx;exact a' i v _ ar (List.getElem?_eq_getElem hi) ai
 |agg vs cs hn Z _ a'=>
  intro dm hd;simp only [Ab.dE,Option.map_eq_some_iff]at hd;obtain⟨cs',dy,rfl⟩:=hd;obtain⟨h0,ad⟩:=sQ dy;refine .agg vs cs' (by omega) Z λi v c ar hc=>?_
  have hi:i<cs.length:=by have:=(List.getElem?_eq_some_iff.1 hc).1;omega
  obtain⟨d1,fx,ai⟩:=ad i cs[i] (List.getElem?_eq_getElem hi);rw [hc]at fx;cases fx;exact a' i v _ ar (List.getElem?_eq_getElem hi) ai
 |cc vs cs hn _ a'=>
  intro dm hd;simp only [Ab.dE,Option.map_eq_some_iff]at hd;obtain⟨cs',dy,rfl⟩:=hd;obtain⟨Z,ad⟩:=sQ dy;refine .cc vs cs' (by omega) λi v c ar hc=>?_
  have hi:i<cs.length:=by have:=(List.getElem?_eq_some_iff.1 hc).1;omega
  obtain⟨d1,fx,ai⟩:=ad i cs[i] (List.getElem?_eq_getElem hi);rw [hc]at fx;cases fx;exact a' i v _ ar (List.getElem?_eq_getElem hi) ai
def b3.CP{M:Mem}{β β':Nat→Option Nat}(fZ:∀r b,β r=some b→β' r=some b){v:Value}{d:D}(h:b3 M β v d):b3 M β' v d:=by
 induction h with
 |v u x h=>exact .v u x h
 |ptr r off b h=>exact .ptr r off b (fZ r b h)
 |jL r off u=>exact .jL r off u
 |bZ r off b u h=>exact .bZ r off b u (fZ r b h)
 |eg b off x val hm Z h=>exact .eg b off x val hm Z h
 |full b k n get h=>exact .full b k n get h
 |fn f vs cs hn _ a'=>exact .fn f vs cs hn a'
 |agg vs cs hn Z _ a'=>exact .agg vs cs hn Z a'
 |cc vs cs hn _ a'=>exact .cc vs cs hn a'
def b3.S2{M:Mem}{β β':Nat→Option Nat}{n:Nat}(fZ:∀r,r<n→∀b,β r=some b→β' r=some b){v:Value}{d:D}(h:b3 M β v d):Ab.below n d=true→b3 M β' v d:=by
 induction h with
 |v u x h=>intro _;exact .v u x h
 |ptr r off b h=>intro hb;exact .ptr r off b (fZ r (by simpa [Ab.below,Nat.blt_eq]using hb) b h)
 |jL r off u=>intro hb;exact .jL r off u
 |bZ r off b u h=>intro hb;exact .bZ r off b u (fZ r (by simpa [Ab.below,Nat.blt_eq]using hb) b h)
 |eg b off x val hm Z h=>intro _;exact .eg b off x val hm Z h
 |full b k n get h=>intro _;exact .full b k n get h
 |fn f vs cs hn _ a'=>intro hb;exact .fn f vs cs hn λi v c ar hc=>a' i v c ar hc (ps (by simpa [Ab.below]using hb) hc)
 |agg vs cs hn Z _ a'=>intro hb;exact .agg vs cs hn Z λi v c ar hc=>a' i v c ar hc (ps (by simpa [Ab.below]using hb) hc)
 |cc vs cs hn _ a'=>intro hb;exact .cc vs cs hn λi v c ar hc=>a' i v c ar hc (ps (by simpa [Ab.below]using hb) hc)
structure Ctx where
 vb:Mem
 F:Nat→Option Obj
 jl:Nat→Option Nat
 gn:Os×Array (Nat×ByteArray)
 ds:List Deferred:=[]
inductive Loc where
 |slot (s:Nat)
 |cell (r i:Nat)
deriving DecidableEq
def az.at(st:az):Loc→Option aM
 |.slot s=>look st.env s
 |.cell r i=>(look st.H r).bind (·[i]?)
def b0(tmps:Array Value)(w:World)(β:Nat→Option Nat):Loc→Value
 |.slot s=>tmps.getD s undef
 |.cell r i=>match β r with
  |some b=>(w.cell? ⟨b,i,none⟩).getD undef
  |none=>undef
def gp:Value→Option Nat
 |.slice (some a) _ _=>some a.block
 |_=>none
def mU(P:Program)(F:Nat→Option Obj)(M:Mem)(w:World)(T:TypeId)(v:Value):Prop:=
 v = .slice none 0 0∨∃b n cap vs T',v = .slice (some ⟨b,0,none⟩) n cap∧n≤cap∧w.heap[b]? = some (.cells ⟨vs⟩ T' (0,0))∧cap*P.cellsOf T≤vs.length∧
  (∀o,n*P.cellsOf T≤o→M b o=none)∧F b=none∧T'=T
def CQ (P : Program) : List Nat := ["strconv.ErrSyntax", "strconv.ErrRange"].filterMap P.globalNamed
def CR:Array Value:=((List.range 20).map λi=>Value.int .u64 ((10 ^ i:Nat):Int)).toArray
def oF(P:Program)(F:Nat→Option Obj):Prop:=
 (∀g,g∈CQ P→∃cs t iU eP,F g=some (.cells cs t iU)∧cs[0]? = some eP∧(eP = .nilIface∨∃bN oG,eP = .iface bN oG))∧
 ∀ g, P.globalNamed "internal/strconv.uint64pow10" = some g → ∃ t iU, F g = some (.cells CR t iU)
def oF.mono{P:Program}{F JP:Nat→Option Obj}(h:oF P F)(da:∀b aL,F b=some aL→JP b=some aL):oF P JP:=⟨λg hg=>by
 obtain⟨cs,t,iU,eP,Z,ad,al⟩:=h.1 g hg;exact⟨cs,t,iU,eP,da _ _ Z,ad,al⟩,λg hg=>by
 obtain⟨t,iU,Z⟩:=h.2 g hg;exact⟨t,iU,da _ _ Z⟩⟩
def jm(P:Program)(T:TypeId)(n:Nat)(cs:List aM):Prop:=∀e,e∈cs→∀r off u,e.d = .bZ r off u→liesAt P P.depth T (n / P.cellsOf T) off u 1=true
def S3(P:Program)(T:TypeId)(vs:List Value)(cs:List aM):Prop:=(∀v,v∈vs→v.oneCell'=true)∧jm P T vs.length cs
def jm.sub{P:Program}{T:TypeId}{n:Nat}{cs cs':List aM}(h:jm P T n cs)(hs:∀e,e∈cs'→∃bW,bW∈cs∧bW.d=e.d):jm P T n cs':=λe he r off u hd=>by
 obtain⟨bW,Z,ad⟩:=hs e he;exact h bW Z r off u (ad.trans hd)
structure bo(P:Program)(K:Ctx)(M:Mem)(β:Nat→Option Nat)(st:az)(tmps:Array Value)(w:World):Prop where
 eE:∀l e,st.at l=some e→b3 M β (b0 tmps w β l) e.d
 own:∀l e T,st.at l=some e→e.own=some T→mU P K.F M w T (b0 tmps w β l)
 uniq:∀l cd e a1 T T' b,st.at l=some e→e.own=some T→st.at cd=some a1→a1.own=some T'→
  gp (b0 tmps w β l)=some b→gp (b0 tmps w β cd)=some b→l=cd
 unbox:∀l e T b r cs,st.at l=some e→e.own=some T→gp (b0 tmps w β l)=some b→look st.H r=some cs→β r≠some b
 box:∀r cs,look st.H r=some cs→∃b vs T,β r=some b∧w.heap[b]? = some (.cells ⟨vs⟩ T (0,0))∧vs.length=cs.length∧(∀o,M b o=none)∧K.F b=none∧S3 P T vs cs
 inj:∀r cS b cs cs',look st.H r=some cs→look st.H cS=some cs'→β r=some b→β cS=some b→r=cS
 lt:∀r b,β r=some b→r<st.aJ
 mem:∀b o v,M b o=some v→w.cell? ⟨b,o,none⟩=some v
 m0:K.vb.le M
 frame:∀b aL,K.F b=some aL→w.heap[b]? = some aL∧∀o,M b o=K.vb b o
 gT:∀r b,K.jl r=some b→β r=some b
 hL:oF P K.F
 gn:(w.os,w.output)=K.gn
def az.CS{st:az}{r i:Nat}{cs:List aM}(h:look st.H r=some cs):st.at (.cell r i)=cs[i]? := by simp [az.at,h]
def yt:∀{l:List D},po l=true→∀d,d∈l→∀r off u,d ≠ .bZ r off u
 |[],h,d,hd=>by cases hd
 |x::l,h,d,hd=>by
  have ad:po l=true:=by cases x<;>first|exact h|cases h
  rcases List.mem_cons.1 hd with rfl|ix
  ·intro r off u e;subst e;cases h
  ·exact yt ad d ix
def jm.JQ{P:Program}{T:TypeId}{n r:Nat}{st bD:az}{cs cs':List aM}(h:jm P T n cs)(Z:look st.H r=some cs)(ad:look bD.H r=some cs')
 (he:∀l a1,bD.at l=some a1→∃e,st.at l=some e∧(e.d=a1.d∨∀q off u,a1.d ≠ .bZ q off u)):jm P T n cs':=λe hm q off u hd=>by
 obtain⟨i,hi,rfl⟩:=List.getElem_of_mem hm;obtain⟨bW,g1,g2⟩:=he (.cell r i) cs'[i] (by rw [az.CS ad];exact List.getElem?_eq_getElem hi)
 rw [az.CS Z]at g1;rcases g2 with g2|g2
 ·exact h bW (List.mem_of_getElem? g1) q off u (g2.trans hd)
 ·exact absurd hd (g2 q off u)
def de{α:Type}(j:Nat)(x:α)(l:List (Nat×α))(i:Nat):look ((j,x)::l) i=if j=i then some x else look l i:=by
 by_cases h:j=i
 ·simp [look,h]
 ·have:Nat.beq j i=false:=by rw [Bool.eq_false_iff];simpa using h
  simp [look,h,this]
def nE{α:Type}(l:List (Nat×α))(t i:Nat):look (del l t) i=if t=i then none else look l i:=by
 induction l with
 |nil=>simp [del,look]
 |cons x l a'=>
  obtain⟨j,x⟩:=x;by_cases h:j=t
  ·subst h;have:Nat.beq j j=true:=by simp
   simp only [del,this,cond_true,a',de];by_cases ad:j=i<;>simp [ad]
  ·have cL:Nat.beq j t=false:=by rw [Bool.eq_false_iff];simpa using h
   simp only [del,cL,cond_false,de,a'];by_cases ad:j=i
   ·subst ad;simp [Ne.symm h]
   ·simp [ad]
def cell_of_heap{w:World}{b o:Nat}{vs:List Value}{T:TypeId}{mh:Nat×Nat}(h:w.heap[b]? = some (.cells ⟨vs⟩ T mh)):w.cell? ⟨b,o,none⟩=vs[o]? := by
 simp [World.cell?,h]
def lt_of_heap{w:World}{b:Nat}{aL:Obj}(h:w.heap[b]? = some aL):b<w.heap.size:=by
 rcases Nat.lt_or_ge b w.heap.size with cL|cL
 ·exact cL
 ·simp [Array.getElem?_eq_none cL]at h
def lt_of_cell{w:World}{b o:Nat}{v:Value}(h:w.cell? ⟨b,o,none⟩=some v):b<w.heap.size:=by
 unfold World.cell? at h;split at h
 ·rename_i bf;exact lt_of_heap bf
 ·cases h
def oH{w w':World}{b o:Nat}(h:w'.heap[b]? = w.heap[b]?):w'.cell? ⟨b,o,none⟩=w.cell? ⟨b,o,none⟩:=by
 simp [World.cell?,h]
section
variable {P:Program} {K:Ctx} {M M':Mem} {β β':Nat→Option Nat} {st bD:az} {tmps eV:Array Value} {w w':World}
def mU.lt{F:Nat→Option Obj}{T:TypeId}{v:Value}{b:Nat}(h:mU P F M w T v)(hb:gp v=some b):b<w.heap.size:=by
 rcases h with rfl|⟨bl,n,cap,vs,T',rfl,_,bf,_⟩
 ·simp [gp]at hb
 ·simp [gp]at hb;subst hb;exact lt_of_heap bf
def mU.free{F:Nat→Option Obj}{T:TypeId}{v:Value}{b:Nat}(h:mU P F M w T v)(hb:gp v=some b):F b=none:=by
 rcases h with rfl|⟨bl,n,cap,vs,T',rfl,_,bf,_,_,da,_⟩
 ·simp [gp]at hb
 ·simp [gp]at hb;subst hb;exact da
def mU.congr{F:Nat→Option Obj}{T:TypeId}{v:Value}(h:mU P F M w T v)(hw:∀b,gp v=some b→w'.heap[b]? = w.heap[b]?)(cr:∀b o,gp v=some b→M' b o=M b o):
 mU P F M' w' T v:=by
 rcases h with rfl|⟨bl,n,cap,vs,T',rfl,Z,bf,ad,al,da⟩
 ·exact .inl rfl
 ·exact .inr ⟨bl,n,cap,vs,T',rfl,Z,(hw bl rfl).trans bf,ad,λo am=>(cr bl o rfl).trans (al o am),da⟩
def CT(h:bo P K M β st tmps w){r i:Nat}{cs:List aM}{e:aM}(ai:look st.H r=some cs)(hi:cs[i]? = some e):
 ∃b vs T v,β r=some b∧w.heap[b]? = some (.cells ⟨vs⟩ T (0,0))∧vs[i]? = some v∧b0 tmps w β (.cell r i)=v:=by
 obtain⟨b,vs,T,hb,bf,ab,_⟩:=h.box r cs ai;have CU:i<cs.length:=(List.getElem?_eq_some_iff.1 hi).1;have ar:vs[i]? = some vs[i]:=List.getElem?_eq_getElem (by omega)
 exact⟨b,vs,T,_,hb,bf,ar,by simp only [b0,hb,cell_of_heap bf,ar,Option.getD_some]⟩
def bo.vc(h:bo P K M β st tmps w){r b:Nat}{cs:List aM}(ai:look st.H r=some cs)(hb:β r=some b):b<w.heap.size:=by
 obtain⟨bl,vs,T,bw,bf,_⟩:=h.box r cs ai;rw [hb]at bw;cases bw;exact lt_of_heap bf
def bo.free(h:bo P K M β st tmps w)(b:Nat)(da:K.F b=none)(qG:∀r cs,look st.H r=some cs→β r≠some b)
 (fj:∀l e T,st.at l=some e→e.own=some T→gp (b0 tmps w β l)≠some b)
 (hw:∀bl,bl≠b→bl<w.heap.size→w'.heap[bl]? = w.heap[bl]?) (cr:M.le M') (yu:∀bl o,bl≠b→M' bl o=M bl o)
 (yv:∀o v,M' b o=some v→w'.cell? ⟨b,o,none⟩=some v) (mi:(w'.os,w'.output)=(w.os,w.output):=by rfl):bo P K M' β st tmps w':=by
 have bO:∀l e,st.at l=some e→b0 tmps w' β l=b0 tmps w β l:=by
  intro l e ab;cases l with
  |slot s=>rfl
  |cell r i=>
   simp only [az.at]at ab;cases ai:look st.H r with
   |none=>simp [ai]at ab
   |some cs=>
    obtain⟨cH,vs,T,cK,bf,_⟩:=h.box r cs ai;have dt:cH≠b:=λe=>qG r cs ai (e ▸ cK)
    simp only [b0,cK];rw [oH (hw cH dt (lt_of_heap bf))]
 constructor
 ·intro l e ab;rw [bO l e ab];exact(h.eE l e ab).mono cr
 ·intro l e T ab aG;rw [bO l e ab];refine(h.own l e T ab aG).congr (λcH cK=>hw cH ?_ ((h.own l e T ab aG).lt cK)) (λcH o cK=>yu cH o ?_) <;>
  ·rintro rfl;exact fj l e T ab aG cK
 ·intro l cd e a1 T T' cH ab aG cY dn hb bw;rw [bO l e ab]at hb;rw [bO cd a1 cY]at bw;exact h.uniq l cd e a1 T T' cH ab aG cY dn hb bw
 ·intro l e T cH r cs ab aG hb ai;rw [bO l e ab]at hb;exact h.unbox l e T cH r cs ab aG hb ai
 ·intro r cs ai;obtain⟨cH,vs,T,cK,bf,Z,ad,al⟩:=h.box r cs ai;have dt:cH≠b:=λe=>qG r cs ai (e ▸ cK)
  exact⟨cH,vs,T,cK,(hw cH dt (lt_of_heap bf)).trans bf,Z,λo=>(yu cH o dt).trans (ad o),al⟩
 ·exact h.inj
 ·exact h.lt
 ·intro cH o v ar;by_cases dt:cH=b
  ·subst dt;exact yv o v ar
  ·rw [yu cH o dt]at ar;have:=h.mem cH o v ar
   rw [oH (hw cH dt (lt_of_cell this))];exact this
 ·exact Mem.le_trans h.m0 cr
 ·intro cH aL cK;have dt:cH≠b:=by rintro rfl;rw [da]at cK;cases cK
  obtain⟨Z,ad⟩:=h.frame cH aL cK;exact⟨(hw cH dt (lt_of_heap Z)).trans Z,λo=>(yu cH o dt).trans (ad o)⟩
 ·exact h.gT
 ·exact h.hL
 ·exact mi.trans h.gn
def bo.grow(h:bo P K M β st tmps w)(hw:∀b,b<w.heap.size→w'.heap[b]? = w.heap[b]?)(mi:(w'.os,w'.output)=(w.os,w.output):=by rfl):bo P K M β st tmps w':=by
 have hn:∀b,w.heap.size≤b→K.F b=none:=by
  intro b hb;cases da:K.F b with
  |none=>rfl
  |some aL=>have:=lt_of_heap (h.frame b aL da).1;omega
 refine h.free w.heap.size (hn _ (Nat.le_refl _)) ?_ ?_ (λb _ hb=>hw b hb) (Mem.le_refl _) (λ_ _ _=>rfl) ?_ mi
 ·intro r cs ai hb;have:=h.vc ai hb;omega
 ·intro l e T ab aG hb;have:=(h.own l e T ab aG).lt hb;omega
 ·intro o v ar;have:=lt_of_cell (h.mem _ _ _ ar);omega
def bo.sub(h:bo P K M β st tmps w)(hn:bD.aJ=st.aJ)
 (he:∀l a1,bD.at l=some a1→∃e,st.at l=some e∧e.d=a1.d∧∀T,a1.own=some T→e.own=some T)
 (ey:∀r cs',look bD.H r=some cs'→∃cs,look st.H r=some cs∧cs.length=cs'.length):bo P K M β bD tmps w:=by
 constructor
 ·intro l a1 ab;obtain⟨e,Z,ad,_⟩:=he l a1 ab;rw [←ad];exact h.eE l e Z
 ·intro l a1 T ab aG;obtain⟨e,Z,_,al⟩:=he l a1 ab;exact h.own l e T Z (al T aG)
 ·intro l cd e a1 T T' b ab aG cY dn;obtain⟨e1,Z,_,al⟩:=he l e ab;obtain⟨e2,k4,_,yw⟩:=he cd a1 cY;exact h.uniq l cd e1 e2 T T' b Z (al T aG) k4 (yw T' dn)
 ·intro l e T b r cs ab aG hb ai;obtain⟨e1,Z,_,al⟩:=he l e ab;obtain⟨qH,hy,_⟩:=ey r cs ai;exact h.unbox l e1 T b r qH Z (al T aG) hb hy
 ·intro r cs ai;obtain⟨qH,hy,hlen⟩:=ey r cs ai;obtain⟨b,vs,T,Z,ad,al,aH,a6,bT,cI⟩:=h.box r qH hy
  exact⟨b,vs,T,Z,ad,al.trans hlen,aH,a6,bT,cI.JQ hy ai λl a1 ab=>by
   obtain⟨e,g1,g2,_⟩:=he l a1 ab;exact⟨e,g1,.inl g2⟩⟩
 ·intro r cS b cs cs' ai e_ hb bw;obtain⟨c1,Z,_⟩:=ey r cs ai;obtain⟨c2,ad,_⟩:=ey cS cs' e_;exact h.inj r cS b c1 c2 Z ad hb bw
 ·intro r b hb;rw [hn];exact h.lt r b hb
 ·exact h.mem
 ·exact h.m0
 ·exact h.frame
 ·exact h.gT
 ·exact h.hL
 ·exact h.gn
def bo.S4(h:bo P K M β st tmps w)(hn:bD.aJ=st.aJ)
 (he:∀l a1,bD.at l=some a1→∃e,st.at l=some e∧((e.d=a1.d∧∀T,a1.own=some T→e.own=some T)∨∃k g,e.d = .v (.me k g)∧a1.d = .v (.bm k 0 g)))
 (ey:∀r cs',look bD.H r=some cs'→∃cs,look st.H r=some cs∧cs.length=cs'.length):bo P K M β bD tmps w:=by
 have mV:∀l e k g,st.at l=some e→e.d = .v (.me k g)→b0 tmps w β l = .slice none 0 0:=by
  intro l e k g ab hd;have:=h.eE l e ab
  rw [hd]at this;generalize b0 tmps w β l=u at this ⊢
  cases this with
  |v u x hx=>cases hx;rfl
 constructor
 ·intro l a1 ab;obtain⟨e,Z,⟨ad,_⟩|⟨k,g,ad,al⟩⟩:=he l a1 ab
  ·rw [←ad];exact h.eE l e Z
  ·rw [al,mV l e k g Z ad];exact .v _ _ (.j_ k g)
 ·intro l a1 T ab aG;obtain⟨e,Z,⟨_,al⟩|⟨k,g,ad,al⟩⟩:=he l a1 ab
  ·exact h.own l e T Z (al T aG)
  ·exact .inl (mV l e k g Z ad)
 ·intro l cd e a1 T T' b ab aG cY dn hb bw;obtain⟨e1,Z,⟨_,al⟩|⟨k,g,ad,al⟩⟩:=he l e ab
  ·obtain⟨e2,k4,⟨_,yw⟩|⟨k,g,S5,yw⟩⟩:=he cd a1 cY
   ·exact h.uniq l cd e1 e2 T T' b Z (al T aG) k4 (yw T' dn) hb bw
   ·rw [mV cd e2 k g k4 S5]at bw;cases bw
  ·rw [mV l e1 k g Z ad]at hb;cases hb
 ·intro l e T b r cs ab aG hb ai;obtain⟨qH,hy,_⟩:=ey r cs ai;obtain⟨e1,Z,⟨_,al⟩|⟨k,g,ad,al⟩⟩:=he l e ab
  ·exact h.unbox l e1 T b r qH Z (al T aG) hb hy
  ·rw [mV l e1 k g Z ad]at hb;cases hb
 ·intro r cs ai;obtain⟨qH,hy,hlen⟩:=ey r cs ai;obtain⟨b,vs,T,Z,ad,al,aH,a6,bT,cI⟩:=h.box r qH hy
  exact⟨b,vs,T,Z,ad,al.trans hlen,aH,a6,bT,cI.JQ hy ai λl a1 ab=>by
   obtain⟨e,g1,⟨g2,_⟩|⟨k,g,_,g3⟩⟩:=he l a1 ab
   ·exact⟨e,g1,.inl g2⟩
   ·exact⟨e,g1,.inr λq off u ax=>by rw [g3]at ax;cases ax⟩⟩
 ·intro r cS b cs cs' ai e_ hb bw;obtain⟨c1,Z,_⟩:=ey r cs ai;obtain⟨c2,ad,_⟩:=ey cS cs' e_;exact h.inj r cS b c1 c2 Z ad hb bw
 ·intro r b hb;rw [hn];exact h.lt r b hb
 ·exact h.mem
 ·exact h.m0
 ·exact h.frame
 ·exact h.gT
 ·exact h.hL
 ·exact h.gn
structure k5(P:Program)(K:Ctx)(M:Mem)(β:Nat→Option Nat)(st:az)(tmps:Array Value)(w:World)(l0:Loc)(v:Value)(T:TypeId):Prop where
 own:mU P K.F M w T v
 apart:∀l e T' b,st.at l=some e→e.own=some T'→l≠l0→gp v=some b→gp (b0 tmps w β l)≠some b
 unbox:∀b r cs,gp v=some b→look st.H r=some cs→β r≠some b
def bo.put(h:bo P K M β st tmps w){t:Nat}{v:Value}{e:aM}(bH:t<tmps.size)(ar:b3 M β v e.d)
 (am:∀T,e.own=some T→k5 P K M β st tmps w (.slot t) v T):
 bo P K M β {st with env:=(t,e)::st.env} (tmps.setIfInBounds t v) w:=by
 have fk:∀l,({st with env:=(t,e)::st.env}:az).at l=if l = .slot t then some e else st.at l:=by
  intro l;cases l with
  |slot s=>
   simp only [az.at,de,Loc.slot.injEq];by_cases hs:t=s
   ·subst hs;simp
   ·simp [hs,Ne.symm hs]
  |cell r i=>simp [az.at]
 have bO:∀l,b0 (tmps.setIfInBounds t v) w β l=if l = .slot t then v else b0 tmps w β l:=by
  intro l;cases l with
  |slot s=>
   simp only [b0,Loc.slot.injEq];by_cases hs:s=t
   ·subst hs;simp [bH]
   ·simp [hs,Ne.symm hs]
  |cell r i=>simp [b0]
 constructor
 ·intro l e1 ab;rw [fk]at ab;rw [bO];by_cases h0:l = .slot t
  ·simp only [h0,if_true]at ab ⊢;cases ab;exact ar
  ·simp only [h0,if_false]at ab ⊢;exact h.eE l e1 ab
 ·intro l e1 T ab aG;rw [fk]at ab;rw [bO];by_cases h0:l = .slot t
  ·simp only [h0,if_true]at ab ⊢;cases ab;exact(am T aG).own
  ·simp only [h0,if_false]at ab ⊢;exact h.own l e1 T ab aG
 ·intro l cd e1 e2 T T' b ab aG cY dn hb bw;rw [fk]at ab cY;rw [bO]at hb bw;by_cases h0:l = .slot t<;>by_cases pt:cd = .slot t
  ·rw [h0,pt]
  ·simp only [h0,pt,if_true,if_false]at ab cY hb bw;cases ab;exact absurd bw ((am T aG).apart cd e2 T' b cY dn pt hb)
  ·simp only [h0,pt,if_true,if_false]at ab cY hb bw;cases cY;exact absurd hb ((am T' dn).apart l e1 T b ab aG h0 bw)
  ·simp only [h0,pt,if_false]at ab cY hb bw;exact h.uniq l cd e1 e2 T T' b ab aG cY dn hb bw
 ·intro l e1 T b r cs ab aG hb ai;rw [fk]at ab;rw [bO]at hb;by_cases h0:l = .slot t
  ·simp only [h0,if_true]at ab hb;cases ab;exact(am T aG).unbox b r cs hb ai
  ·simp only [h0,if_false]at ab hb;exact h.unbox l e1 T b r cs ab aG hb ai
 ·exact h.box
 ·exact h.inj
 ·exact h.lt
 ·exact h.mem
 ·exact h.m0
 ·exact h.frame
 ·exact h.gT
 ·exact h.hL
 ·exact h.gn
def bo.drop(h:bo P K M β st tmps w){t:Nat}{v:Value}:bo P K M β {st with env:=del st.env t} (tmps.setIfInBounds t v) w:=by
 have fk:∀l,({st with env:=del st.env t}:az).at l=if l = .slot t then none else st.at l:=by
  intro l;cases l with
  |slot s=>
   simp only [az.at,nE,Loc.slot.injEq];by_cases hs:t=s
   ·subst hs;simp
   ·simp [hs,Ne.symm hs]
  |cell r i=>simp [az.at]
 have Z:bo P K M β {st with env:=del st.env t} tmps w:=by
  refine h.sub rfl (λl a1 ab=>?_) (λr cs ai=>⟨cs,ai,rfl⟩)
  rw [fk]at ab;by_cases h0:l = .slot t
  ·simp [h0]at ab
  ·simp only [h0,if_false]at ab;exact⟨a1,ab,rfl,λ_ h=>h⟩
 have bO:∀l e,({st with env:=del st.env t}:az).at l=some e→b0 (tmps.setIfInBounds t v) w β l=b0 tmps w β l:=by
  intro l e ab;cases l with
  |slot s=>
   have hs:t≠s:=by rintro rfl;simp [az.at,nE]at ab
   simp [b0,hs]
  |cell r i=>rfl
 constructor
 ·intro l e ab;rw [bO l e ab];exact Z.eE l e ab
 ·intro l e T ab aG;rw [bO l e ab];exact Z.own l e T ab aG
 ·intro l cd e a1 T T' b ab aG cY dn hb bw;rw [bO l e ab]at hb;rw [bO cd a1 cY]at bw;exact Z.uniq l cd e a1 T T' b ab aG cY dn hb bw
 ·intro l e T b r cs ab aG hb ai;rw [bO l e ab]at hb;exact Z.unbox l e T b r cs ab aG hb ai
 ·exact Z.box
 ·exact Z.inj
 ·exact Z.lt
 ·exact Z.mem
 ·exact Z.m0
 ·exact Z.frame
 ·exact Z.gT
 ·exact Z.hL
 ·exact Z.gn
def bo.S6(h:bo P K M β st tmps w){cZ n':Nat}(kc:∀b,β cZ≠some b)(S7:cZ<n')(adm:st.aJ≤n'){vs:List Value}{T:TypeId}{cs:List aM}(hlen:vs.length=cs.length)(hz:∀v,v∈vs→v.oneCell'=true)(hlies:jm P T vs.length cs)
 (ar:∀(i:Nat) v e,vs[i]? = some v→cs[i]? = some e→b3 M β v e.d∧∀T,e.own=some T→v = .slice none 0 0):
 bo P K M (λr=>if r=cZ then some w.heap.size else β r) {st with H:=(cZ,cs)::st.H,aJ:=n'} tmps {w with heap:=w.heap.push (.cells ⟨vs⟩ T (0,0))}:=by
 have JR:∀r b,β r=some b→r≠cZ:=λr b hb e=>kc b (e ▸ hb)
 have cK:∀r b,β r=some b→(λr=>if r=cZ then some w.heap.size else β r) r=some b:=by
  intro r b hb;simp [JR r b hb,hb]
 have fA:∀{v d},b3 M β v d→b3 M (λr=>if r=cZ then some w.heap.size else β r) v d:=by
  intro v d hd;refine hd.CP ?_;exact cK
 have hg:=h.grow (w':={w with heap:=w.heap.push (.cells ⟨vs⟩ T (0,0))}) (λb hb=>by simp [Array.getElem?_push,Nat.ne_of_lt hb])
 have hold:∀r cs,r≠cZ→look ((cZ,cs)::st.H) r=look st.H r:=λr cs dt=>by simp [de,Ne.symm dt]
 have S8:∀r cs,look st.H r=some cs→r≠cZ:=λr cs ai=>by obtain⟨b,_,_,hb,_⟩:=h.box r cs ai;exact JR r b hb
 have bO:∀l e,st.at l=some e→b0 tmps {w with heap:=w.heap.push (.cells ⟨vs⟩ T (0,0))} (λr=>if r=cZ then some w.heap.size else β r) l=b0 tmps {w with heap:=w.heap.push (.cells ⟨vs⟩ T (0,0))} β l:=by
  intro l e ab;cases l with
  |slot s=>rfl
  |cell r i=>
   simp only [az.at]at ab;cases ai:look st.H r with
   |none=>simp [ai]at ab
   |some c=>simp [b0,S8 r c ai]
 have JS:∀i e,cs[i]? = some e→∃v,vs[i]? = some v∧b0 tmps {w with heap:=w.heap.push (.cells ⟨vs⟩ T (0,0))} (λr=>if r=cZ then some w.heap.size else β r) (.cell cZ i)=v:=by
  intro i e hi;have CU:i<cs.length:=(List.getElem?_eq_some_iff.1 hi).1;have ek:vs[i]? = some vs[i]:=List.getElem?_eq_getElem (by omega)
  exact⟨_,ek,by simp [b0,World.cell?,hlen ▸ CU]⟩
 have fk:∀l e,({st with H:=(cZ,cs)::st.H,aJ:=n'}:az).at l=some e→(∃i,l = .cell cZ i∧cs[i]? = some e)∨(st.at l=some e∧∀i,l ≠ .cell cZ i):=by
  intro l e ab;cases l with
  |slot s=>exact .inr ⟨ab,by simp⟩
  |cell r i=>
   by_cases ai:r=cZ
   ·subst ai;simp [az.at,de]at ab;exact .inl ⟨i,rfl,ab⟩
   ·refine .inr ⟨?_,by simp [ai]⟩
    simpa [az.at,de,Ne.symm ai]using ab
 have iy:∀l e T',({st with H:=(cZ,cs)::st.H,aJ:=n'}:az).at l=some e→e.own=some T'→(∃i,l = .cell cZ i)→b0 tmps {w with heap:=w.heap.push (.cells ⟨vs⟩ T (0,0))} (λr=>if r=cZ then some w.heap.size else β r) l = .slice none 0 0:=by
  rintro l e T' ab aG ⟨i,rfl⟩
  have hi:cs[i]? = some e:=by simpa [az.at,de]using ab
  obtain⟨v,Z,ad⟩:=JS i e hi;rw [ad];exact(ar i v e Z hi).2 T' aG
 constructor
 ·intro l e ab;rcases fk l e ab with⟨i,rfl,hi⟩|⟨am,_⟩
  ·obtain⟨v,Z,ad⟩:=JS i e hi;rw [ad];exact fA (ar i v e Z hi).1
  ·rw [bO l e am];exact fA (hg.eE l e am)
 ·intro l e T' ab aG;rcases fk l e ab with⟨i,kD,hi⟩|⟨am,_⟩
  ·rw [iy l e T' ab aG ⟨i,kD⟩];exact .inl rfl
  ·rw [bO l e am];exact hg.own l e T' am aG
 ·intro l cd e a1 f0 mW b ab aG cY dn hb bw;rcases fk l e ab with⟨i,kD,hi⟩|⟨am,_⟩
  ·rw [iy l e f0 ab aG ⟨i,kD⟩]at hb;simp [gp]at hb
  ·rcases fk cd a1 cY with⟨i,kD,hi⟩|⟨iV,_⟩
   ·rw [iy cd a1 mW cY dn ⟨i,kD⟩]at bw;simp [gp]at bw
   ·rw [bO l e am]at hb;rw [bO cd a1 iV]at bw;exact hg.uniq l cd e a1 f0 mW b am aG iV dn hb bw
 ·intro l e f0 b r c ab aG hb ai;rcases fk l e ab with⟨i,kD,hi⟩|⟨am,_⟩
  ·rw [iy l e f0 ab aG ⟨i,kD⟩]at hb;simp [gp]at hb
  ·rw [bO l e am]at hb
   have cB:b<w.heap.size:=by
    have Z:=(h.own l e f0 am aG)
    have ad:b0 tmps {w with heap:=w.heap.push (.cells ⟨vs⟩ T (0,0))} β l=b0 tmps w β l:=by
     cases l with
     |slot s=>rfl
     |cell r i=>
      simp only [az.at]at am;cases ai:look st.H r with
      |none=>simp [ai]at am
      |some c=>
       obtain⟨cH,iz,mW,fl,bf,_⟩:=h.box r c ai;simp only [b0,fl];rw [oH (w:=w) (by simp [Array.getElem?_push,Nat.ne_of_lt (lt_of_heap bf)])]
    rw [ad]at hb;exact Z.lt hb
   by_cases h3:r=cZ
   ·subst h3;simp;omega
   ·simp [h3];exact hg.unbox l e f0 b r c am aG hb (by simpa [de,Ne.symm h3]using ai)
 ·intro r c ai;by_cases h3:r=cZ
  ·subst h3;simp [de]at ai;subst ai;refine⟨w.heap.size,vs,T,by simp,by simp,hlen,λo=>?_,?_,hz,hlies⟩
   ·cases hm:M w.heap.size o with
    |none=>rfl
    |some v=>have:=lt_of_cell (h.mem _ _ _ hm);omega
   ·cases da:K.F w.heap.size with
    |none=>rfl
    |some aL=>have:=lt_of_heap (h.frame _ aL da).1;omega
  ·obtain⟨b,iz,f0,Z,ad,al⟩:=hg.box r c (by simpa [de,Ne.symm h3]using ai)
   exact⟨b,iz,f0,by simp [h3,Z],ad,al⟩
 ·intro r cS b c kd ai e_ hb bw;by_cases h3:r=cZ<;>by_cases sR:cS=cZ
  ·rw [h3,sR]
  ·simp [h3]at hb;simp [sR]at bw;have:=h.vc (by simpa [de,Ne.symm sR]using e_) bw
   omega
  ·simp [sR]at bw;simp [h3]at hb;have:=h.vc (by simpa [de,Ne.symm h3]using ai) hb
   omega
  ·simp [h3]at hb;simp [sR]at bw;exact h.inj r cS b c kd (by simpa [de,Ne.symm h3]using ai) (by simpa [de,Ne.symm sR]using e_) hb bw
 ·intro r b hb;by_cases h3:r=cZ
  ·subst h3;exact S7
  ·simp [h3]at hb;have:=h.lt r b hb;simp;omega
 ·exact hg.mem
 ·exact hg.m0
 ·exact hg.frame
 ·intro r b hb;exact cK r b (h.gT r b hb)
 ·exact hg.hL
 ·exact hg.gn
end
section
variable {P:Program} {K:Ctx} {M M':Mem} {β β':Nat→Option Nat} {st bD:az} {tmps eV:Array Value} {w w':World}
def bo.CV(h:bo P K M β st tmps w){r b:Nat}{cs:List aM}(ai:look st.H r=some cs)(hb:β r=some b){vs vs':List Value}{T:TypeId}
 (bf:w.heap[b]? = some (.cells ⟨vs⟩ T (0,0))) {cs':List aM} (hlen:vs'.length=cs'.length) (hz:∀v,v∈vs'→v.oneCell'=true) (hlies:jm P T vs.length cs→jm P T vs'.length cs') (dy:cs'.length=cs.length)
 (lP:w'.heap[b]? = some (.cells ⟨vs'⟩ T (0,0))) (vd:∀bl,bl≠b→w'.heap[bl]? = w.heap[bl]?) (i0:Nat)
 (ar:∀(i:Nat) v e,vs'[i]? = some v→cs'[i]? = some e→b3 M β v e.d∧∀T,e.own=some T→
  (i≠i0∧(∃bW,cs[i]? = some bW∧bW.own=some T)∧vs[i]? = some v)∨(i=i0∧k5 P K M β st tmps w (.cell r i0) v T)) (mi:(w'.os,w'.output)=(w.os,w.output):=by rfl):
 bo P K M β {st with H:=(r,cs')::st.H} tmps w':=by
 have yx:K.F b=none∧∀o,M b o=none:=by
  obtain⟨cH,_,_,Z,_,_,ad,al,_⟩:=h.box r cs ai;rw [hb]at Z;cases Z;exact⟨al,ad⟩
 have S9:jm P T vs.length cs:=by
  obtain⟨cH,iz,f0,Z,ad,_,_,_,_,al⟩:=h.box r cs ai;rw [hb]at Z;cases Z;rw [bf]at ad;cases ad;exact al
 have gz:∀bl,bl≠b→∀o,w'.cell? ⟨bl,o,none⟩=w.cell? ⟨bl,o,none⟩:=λbl dt o=>oH (vd bl dt)
 have dt:∀cS c bl,look st.H cS=some c→β cS=some bl→cS≠r→bl≠b:=λcS c bl e_ bw dt e=>dt (h.inj cS r bl c cs e_ ai bw (e ▸ hb))
 have fk:∀l e,({st with H:=(r,cs')::st.H}:az).at l=some e→(∃i v,l = .cell r i∧cs'[i]? = some e∧vs'[i]? = some v∧b0 tmps w' β l=v)∨(st.at l=some e∧b0 tmps w' β l=b0 tmps w β l∧∀i,l ≠ .cell r i):=by
  intro l e ab;cases l with
  |slot s=>exact .inr ⟨ab,rfl,by simp⟩
  |cell cS i=>
   by_cases jn:cS=r
   ·subst jn;simp [az.at,de]at ab;have hi:i<cs'.length:=(List.getElem?_eq_some_iff.1 ab).1;have ek:vs'[i]? = some vs'[i]:=List.getElem?_eq_getElem (by omega)
    exact .inl ⟨i,_,rfl,ab,ek,by simp only [b0,hb,cell_of_heap lP,ek,Option.getD_some]⟩
   ·have cY:st.at (.cell cS i)=some e:=by simpa [az.at,de,Ne.symm jn]using ab
    refine .inr ⟨cY,?_,by simp [jn]⟩
    simp only [az.at]at cY;cases e_:look st.H cS with
    |none=>simp [e_]at cY
    |some c=>
     obtain⟨cH,_,_,cK,_⟩:=h.box cS c e_;simp only [b0,cK];rw [gz cH (dt cS c cH e_ cK jn)]
 have fj:∀l e T,({st with H:=(r,cs')::st.H}:az).at l=some e→e.own=some T→
  (l ≠ .cell r i0∧(∃bW,st.at l=some bW∧bW.own=some T)∧b0 tmps w' β l=b0 tmps w β l)∨(l = .cell r i0∧k5 P K M β st tmps w (.cell r i0) (b0 tmps w' β l) T):=by
  intro l e f0 ab aG;rcases fk l e ab with⟨i,v,rfl,hi,ek,bO⟩|⟨am,bO,gU⟩
  ·rcases(ar i v e ek hi).2 f0 aG with⟨S',⟨bW,CW,iW⟩,hold⟩|⟨rfl,hn⟩
   ·refine .inl ⟨by simp [S'],⟨bW,by simp [az.at,ai,CW],iW⟩,?_⟩
    rw [bO];simp only [b0,hb,cell_of_heap bf,hold,Option.getD_some]
   ·exact .inr ⟨rfl,by rw [bO];exact hn⟩
  ·exact .inl ⟨gU i0,⟨e,am,aG⟩,bO⟩
 have ey:∀cS c,look ((r,cs')::st.H) cS=some c→∃kd,look st.H cS=some kd:=by
  intro cS c hc;by_cases jn:r=cS
  ·exact⟨cs,jn ▸ ai⟩
  ·exact⟨c,by simpa [de,jn]using hc⟩
 constructor
 ·intro l e ab;rcases fk l e ab with⟨i,v,rfl,hi,ek,bO⟩|⟨am,bO,gU⟩
  ·rw [bO];exact(ar i v e ek hi).1
  ·rw [bO];exact h.eE l e am
 ·intro l e f0 ab aG;rcases fj l e f0 ab aG with⟨_,⟨bW,h0,iW⟩,bO⟩|⟨rfl,hn⟩
  ·rw [bO];refine(h.own l bW f0 h0 iW).congr (λcH cK=>vd cH ?_) (λ_ _ _=>rfl)
   rintro rfl
   exact h.unbox l bW f0 cH r cs h0 iW cK ai hb
  ·refine hn.own.congr (λcH cK=>vd cH ?_) (λ_ _ _=>rfl)
   rintro rfl
   exact hn.unbox cH r cs cK ai hb
 ·intro l cd e a1 f0 mW cH ab aG cY dn cK qI;rcases fj l e f0 ab aG with⟨hl0,⟨bW,h0,iW⟩,bO⟩|⟨rfl,hn⟩<;>rcases fj cd a1 mW cY dn with⟨S_,⟨sS,pt,ve⟩,nF⟩|⟨rfl,yy⟩
  ·rw [bO]at cK;rw [nF]at qI;exact h.uniq l cd bW sS f0 mW cH h0 iW pt ve cK qI
  ·rw [bO]at cK;exact absurd cK (yy.apart l bW f0 cH h0 iW hl0 qI)
  ·rw [nF]at qI;exact absurd qI (hn.apart cd sS mW cH pt ve S_ cK)
  ·rfl
 ·intro l e f0 cH cS c ab aG cK e_;obtain⟨kd,ih⟩:=ey cS c e_;rcases fj l e f0 ab aG with⟨_,⟨bW,h0,iW⟩,bO⟩|⟨rfl,hn⟩
  ·rw [bO]at cK;exact h.unbox l bW f0 cH cS kd h0 iW cK ih
  ·exact hn.unbox cH cS kd cK ih
 ·intro cS c e_;by_cases jn:r=cS
  ·subst jn;simp [de]at e_;subst e_;exact⟨b,vs',T,hb,lP,hlen,yx.2,yx.1,hz,hlies S9⟩
  ·have hM:look st.H cS=some c:=by simpa [de,jn]using e_
   obtain⟨cH,iz,f0,Z,ad,al⟩:=h.box cS c hM;exact⟨cH,iz,f0,Z,(vd cH (dt cS c cH hM Z (Ne.symm jn))).trans ad,al⟩
 ·intro ah ak cH c1 c2 hy hM cK fl;obtain⟨JT,Z⟩:=ey ah c1 hy;obtain⟨JU,ad⟩:=ey ak c2 hM;exact h.inj ah ak cH JT JU Z ad cK fl
 ·exact h.lt
 ·intro cH o v hm;by_cases sT:cH=b
  ·subst sT;rw [yx.2 o]at hm;cases hm
  ·rw [gz cH sT];exact h.mem cH o v hm
 ·exact h.m0
 ·intro cH aL da;have sT:cH≠b:=by rintro rfl;rw [yx.1]at da;cases da
  obtain⟨Z,ad⟩:=h.frame cH aL da;exact⟨(vd cH sT).trans Z,ad⟩
 ·exact h.gT
 ·exact h.hL
 ·exact mi.trans h.gn
def lQ:∀(l:List Nat) (env:List (Nat×aM)) (s:Nat),
 look (fY l env) s=if s∈l then(look env s).map (λe=>{e with own:=none})else look env s
 |[],env,s=>by simp [fY]
 |t::l,env,s=>by
  have a':=lQ l env s;simp only [fY];cases bH:look env t with
  |none=>
   simp only [a'];by_cases hs:s=t
   ·subst hs;simp [bH]
   ·simp [hs]
  |some e=>
   simp only [de];by_cases hs:t=s
   ·subst hs;simp [bH]
   ·simp [hs,Ne.symm hs,a']
def bo.f_(h:bo P K M β st tmps w)(l:List Nat):bo P K M β {st with env:=fY l st.env} tmps w:=by
 refine h.sub rfl (λga a1 ab=>?_) (λr cs ai=>⟨cs,ai,rfl⟩)
 cases ga with
 |slot s=>
  simp only [az.at,lQ]at ab ⊢;by_cases hs:s∈l
  ·simp only [hs,if_true,Option.map_eq_some_iff]at ab;obtain⟨e,he,rfl⟩:=ab;exact⟨e,he,rfl,by simp⟩
  ·simp only [hs,if_false]at ab;exact⟨a1,ab,rfl,λ_ h=>h⟩
 |cell r i=>exact⟨a1,ab,rfl,λ_ h=>h⟩
def bo.hand(h:bo P K M β st tmps w){s:Nat}{e:aM}{T:TypeId}(hs:look st.env s=some e)(aG:e.own=some T)(l0:Loc):
 k5 P K M β {st with env:=fY [s] st.env} tmps w l0 (tmps.getD s undef) T:=by
 have ab:st.at (.slot s)=some e:=hs;refine⟨h.own (.slot s) e T ab aG,λl a1 T' b cY dn _ hb bw=>?_,λb r cs hb ai=>h.unbox (.slot s) e T b r cs ab aG hb ai⟩
 have d9:∃e2,st.at l=some e2∧e2.own=some T'∧l ≠ .slot s:=by
  cases l with
  |slot sU=>
   simp only [az.at,lQ]at cY ⊢;by_cases CX:sU=s
   ·subst CX;simp at cY;obtain⟨_,_,rfl⟩:=cY;simp at dn
   ·simp [CX]at cY;exact⟨a1,cY,dn,by simp [CX]⟩
  |cell r i=>exact⟨a1,cY,dn,by simp⟩
 obtain⟨e2,ad,Ta,dt⟩:=d9;exact dt (h.uniq l (.slot s) e2 e T' T b ad Ta ab aG bw hb)
def bo.JV(h:bo P K M β st tmps w){r i:Nat}{cs cs':List aM}{e:aM}{T:TypeId}(ai:look st.H r=some cs)(hi:cs[i]? = some e)(aG:e.own=some T)
 (dy:cs'.length=cs.length) (kE:∀(j:Nat) a1,cs'[j]? = some a1→∃bW,cs[j]? = some bW∧bW.d=a1.d∧(∀T,a1.own=some T→bW.own=some T∧j≠i)) (l0:Loc):
 bo P K M β {st with H:=(r,cs')::st.H} tmps w∧k5 P K M β {st with H:=(r,cs')::st.H} tmps w l0 (b0 tmps w β (.cell r i)) T:=by
 have ab:st.at (.cell r i)=some e:=by simp [az.at,ai,hi]
 have fk:∀l a1,({st with H:=(r,cs')::st.H}:az).at l=some a1→∃bW,st.at l=some bW∧bW.d=a1.d∧∀T,a1.own=some T→bW.own=some T∧l ≠ .cell r i:=by
  intro l a1 cY;cases l with
  |slot s=>exact⟨a1,cY,rfl,λT h=>⟨h,by simp⟩⟩
  |cell cS j=>
   by_cases jn:r=cS
   ·subst jn;simp [az.at,de]at cY;obtain⟨bW,Z,ad,al⟩:=kE j a1 cY;exact⟨bW,by simp [az.at,ai,Z],ad,λT aG=>⟨(al T aG).1,by simp [(al T aG).2]⟩⟩
   ·refine⟨a1,by simpa [az.at,de,jn]using cY,rfl,λT h=>⟨h,by simp [Ne.symm jn]⟩⟩
 have ey:∀cS c,look ((r,cs')::st.H) cS=some c→∃kd,look st.H cS=some kd∧kd.length=c.length:=by
  intro cS c hc;by_cases jn:r=cS
  ·subst jn;simp [de]at hc;subst hc;exact⟨cs,ai,dy.symm⟩
  ·exact⟨c,by simpa [de,jn]using hc,rfl⟩
 refine⟨h.sub rfl (λl a1 cY=>?_) ey,h.own _ e T ab aG,λl a1 T' b cY dn _ hb bw=>?_,λb cS c hb e_=>?_⟩
 ·obtain⟨bW,Z,ad,al⟩:=fk l a1 cY;exact⟨bW,Z,ad,λT aG=>(al T aG).1⟩
 ·obtain⟨bW,Z,_,al⟩:=fk l a1 cY;exact(al T' dn).2 (h.uniq l _ bW e T' T b Z (al T' dn).1 ab aG bw hb)
 ·obtain⟨kd,Z,_⟩:=ey cS c e_;exact h.unbox _ e T b cS kd ab aG hb Z
def CY(l0:Loc)(T:TypeId):k5 P K M β st tmps w l0 (.slice none 0 0) T:=
 ⟨.inl rfl,λ_ _ _ _ _ _ _ hb=>by simp [gp]at hb,λ_ _ _ hb=>by simp [gp]at hb⟩
def JW:∀{l:List Nat} {env lO:List (Nat×aM)},u_ env l=some lO→∀s e,look lO s=some e→look env s=some e
 |[],env,lO,h,s,e,he=>by simp [u_]at h;subst h;simp [look]at he
 |t::l,env,lO,h,s,e,he=>by
  simp only [u_]at h;split at h<;>simp at h
  rename_i e1 ga Z ad;subst h;rw [de]at he;by_cases jo:t=s
  ·simp [jo]at he;subst he;rw [←jo];exact Z
  ·simp [jo]at he;exact JW ad s e he
def CZ:∀{l:List Nat} {H bq:List (Nat×List aM)},va H l=some bq→∀s e,look bq s=some e→look H s=some e
 |[],env,lO,h,s,e,he=>by simp [va]at h;subst h;simp [look]at he
 |t::l,env,lO,h,s,e,he=>by
  simp only [va]at h;split at h<;>simp at h
  rename_i e1 ga Z ad;subst h;rw [de]at he;by_cases jo:t=s
  ·simp [jo]at he;subst he;rw [←jo];exact Z
  ·simp [jo]at he;exact CZ ad s e he
def oI{α:Type}:∀{l:List (Nat×α)} {i:Nat} {x:α},look l i=some x→(i,x)∈l
 |[],_,_,h=>by simp [look]at h
 |(j,y)::l,i,x,h=>by
  rw [de]at h;by_cases hj:j=i
  ·simp [hj]at h;subst h;simp [hj]
  ·simp [hj]at h;exact List.mem_cons_of_mem _ (oI h)
def C0{n:Nat}:∀{l:List aM} {i:Nat} {e:aM},pr n l=true→l[i]? = some e→below n e.d=true
 |[],_,_,_,h=>by simp at h
 |d::l,0,_,hb,h=>by simp [pr]at hb;simp at h;exact h ▸ hb.1
 |d::l,i+1,_,hb,h=>by simp [pr]at hb;simp at h;exact C0 hb.2 h
def bo.qF(h:bo P K M β st tmps w){live sV:List Nat}{n:Nat}(ai:Ab.qF live sV n st.env st.H st.aJ=some bD)(dT:∀r b,K.jl r=some b→r<n):
 ∃ β',bo P K M β' bD tmps w:=by
 unfold Ab.qF at ai;split at ai
 case h_2=>cases ai
 rename_i lO bq he ey;rw [Bool.cond_eq_ite]at ai;split at ai
 case isFalse=>cases ai
 rename_i hc;cases ai;simp only [Bool.and_eq_true,List.all_eq_true,Prod.forall,Nat.blt_eq,Nat.ble_eq]at hc;obtain⟨⟨hn,Tb⟩,JX⟩:=hc
 have Z:bo P K M β {env:=lO,H:=bq,aJ:=st.aJ} tmps w:=by
  refine h.sub rfl (λl a1 ab=>?_) (λr cs ai=>⟨cs,CZ ey _ _ ai,rfl⟩)
  refine⟨a1,?_,rfl,λ_ h=>h⟩
  cases l with
  |slot s=>exact JW he _ _ ab
  |cell r i=>
   simp only [az.at]at ab ⊢;cases ai:look bq r with
   |none=>simp [ai]at ab
   |some c=>simp [ai]at ab;simp [CZ ey _ _ ai,ab]
 have k6:∀l e,({env:=lO,H:=bq,aJ:=st.aJ}:az).at l=some e→below n e.d=true∧(∀r i,l = .cell r i→r<n):=by
  intro l e ab;cases l with
  |slot s=>exact⟨Tb s e (oI ab),by simp⟩
  |cell r i=>
   simp only [az.at]at ab;cases ai:look bq r with
   |none=>simp [ai]at ab
   |some c=>
    simp [ai]at ab;have:=JX r c (oI ai)
    exact⟨C0 this.2 ab,by rintro cS kF h;cases h;exact this.1⟩
 refine⟨λr=>if r<n then β r else none,?_⟩
 have bO:∀l e,({env:=lO,H:=bq,aJ:=st.aJ}:az).at l=some e→b0 tmps w (λr=>if r<n then β r else none) l=b0 tmps w β l:=by
  intro l e ab;cases l with
  |slot s=>rfl
  |cell r i=>simp [b0,(k6 _ _ ab).2 r i rfl]
 have h3:∀r c,look bq r=some c→r<n:=λr c ai=>(JX r c (oI ai)).1
 constructor
 ·intro l e ab;rw [bO l e ab];exact(Z.eE l e ab).JO (λr ai=>by simp [ai]) (k6 l e ab).1
 ·intro l e T ab aG;rw [bO l e ab];exact Z.own l e T ab aG
 ·intro l cd e a1 T T' b ab aG cY dn hb bw;rw [bO l e ab]at hb;rw [bO cd a1 cY]at bw;exact Z.uniq l cd e a1 T T' b ab aG cY dn hb bw
 ·intro l e T b r cs ab aG hb ai;rw [bO l e ab]at hb;have:=Z.unbox l e T b r cs ab aG hb ai
  simpa [h3 r cs ai]using this
 ·intro r cs ai;obtain⟨b,vs,T,ad,al⟩:=Z.box r cs ai;exact⟨b,vs,T,by simpa [h3 r cs ai]using ad,al⟩
 ·intro r cS b cs cs' ai e_ hb bw;exact Z.inj r cS b cs cs' ai e_ (by simpa [h3 r cs ai]using hb) (by simpa [h3 cS cs' e_]using bw)
 ·intro r b hb;by_cases cB:r<n
  ·exact cB
  ·simp [cB]at hb
 ·exact Z.mem
 ·exact Z.m0
 ·exact Z.frame
 ·intro r b hb;simp [dT r b hb,Z.gT r b hb]
 ·exact Z.hL
 ·exact Z.gn
end
def jp(P:Program):TypeDesc→Option j'
 |.int k=>some (.int k)
 |.bool=>some .bool
 |.string=>some .str
 |.struct b2=>some (.bF (b2.toList.map λf=>(f.offset,f.type,P.cellsOf f.type)))
 |.slice e=>some (.bm e)
 |.array n e=>some (.arr n e)
 |.pointer _=>some .ptr
 |.func _ _ _=>some .aQ
 |.interface _=>some .mf
 |_=>none
def qJ:Value→V→Bool
 |.int k n,.int k' n'=>decide (k=k')&&decide (n=n')
 |.bool a,.bool b=>a == b
 |.string s,.str l=>decide (s.data.toList=l)
 |.slice none 0 0,.bm _ n _=>Nat.beq n 0
 |.pointer none,.dD=>true
 |.nilIface,.gF=>true
 |.nilFunc,.aF=>true
 |_,_=>false
def qK:List Value→List V→Bool
 |[],[]=>true
 |v::vs,x::xs=>qJ v x&&qK vs xs
 |_,_=>false
def sW(P:Program)(inner:TypeId→List Field→Bool):Nat→List Field→Bool
 |_,[]=>true
 | i, f :: l => Nat.beq f.offset i && !decide (f.name = "_") && (match P.underlying f.type with
  |some (.int _) |some .bool |some .string=>sW P inner (i+1) l
  |some (.struct gs)=>inner f.type gs.toList&&sW P inner (i+P.cellsOf f.type) l
  |_=>false)
def oJ(P:Program):Nat→List Field→Nat
 | 0,b2=>b2.length
 |d+1,b2=>(b2.map λf=>match P.underlying f.type with
  |some (.struct gs)=>oJ P d gs.toList
  |_=>1).sum
def qL(P:Program):Nat→Nat→List Field→Bool
 | 0=>sW P λ_ _=>false
 |d+1=>sW P λt gs=>!P.stoodInHeld t&&Nat.beq (P.cellsOf t) (oJ P d gs)&&qL P d 0 gs
def C1(P:Program)(t:TypeId):Bool:=
 match P.underlying t with
 |some (.struct b2)=>!P.stoodInHeld t && !P.eqGuardType P.depth t&&qL P 4 0 b2.toList
 |_=>false
def JY(P:Program)(t:TypeId)(aB:dS):Bool:=
 match P.info? t,P.underlying t with
 |some i,some d=>decide (jp P d=some aB.k)&&Nat.beq i.size aB.size&&Nat.beq i.bytes aB.bytes&&Nat.beq aB.zero.length aB.size &&
  aB.hZ.all (λx=>liesAt P P.depth t (aB.size / P.cellsOf t) x.1 x.2 1) &&
  (match i.zero with|some z=>qK z.cells.toList aB.zero&&(match z with|.agg _=>aB.k.isAgg|.tuple _=>false|_=>!aB.k.isAgg)|none=>false)
 |_,_=>false
def eI(P:Program)(tt:c7):Bool:=tt.all λx=>JY P x.1 x.2
def C2{M:Mem}{v:Value}{x:V}(h:qJ v x=true):cw M v x∧v.oneCell'=true:=by
 unfold qJ at h;split at h<;>simp at h
 ·obtain⟨rfl,rfl⟩:=h;exact⟨.int _ _,rfl⟩
 ·subst h;exact⟨.bool _,rfl⟩
 ·rename_i s l;subst h;exact⟨by exact .str s.data.toList,rfl⟩
 ·subst h;exact⟨.j_ _ _,rfl⟩
 ·exact⟨.dD,rfl⟩
 ·exact⟨.gF,rfl⟩
 ·exact⟨.aF,rfl⟩
def sX{M:Mem}:∀{vs:List Value} {xs:List V},qK vs xs=true→vs.length=xs.length∧(∀v,v∈vs→v.oneCell'=true)∧∀(i:Nat) v x,vs[i]? = some v→xs[i]? = some x→cw M v x∧qJ v x=true
 |[],[],_=>by simp
 |[],_::_,h=>by simp [qK]at h
 |_::_,[],h=>by simp [qK]at h
 |v::vs,x::xs,h=>by
  simp [qK]at h;obtain⟨Z,ad,al⟩:=sX (M:=M) h.2;refine⟨by simp [Z],?_,?_⟩
  ·intro u hu;rcases List.mem_cons.1 hu with rfl|hu
   ·exact(C2 (M:=M) h.1).2
   ·exact ad u hu
  ·intro i u y hu bX;cases i with
   |zero=>simp at hu bX;subst hu;subst bX;exact⟨(C2 h.1).1,h.1⟩
   |succ i=>simp at hu bX;exact al i u y hu bX
structure Row(P:Program)(t:TypeId)(aB:dS) where
 info:TypeInfo
 desc:TypeDesc
 z:Value
 hi:P.info? t=some info
 hd:P.underlying t=some desc
 hk:jp P desc=some aB.k
 size:info.size=aB.size
 bytes:info.bytes=aB.bytes
 dM:info.zero=some z
 C3:aB.zero.length=aB.size
 vf:qK z.cells.toList aB.zero=true
 hZ:(aB.hZ.all λx=>liesAt P P.depth t (aB.size / P.cellsOf t) x.1 x.2 1)=true
 adn:match z with|.agg _=>aB.k.isAgg=true|.tuple _=>False|_=>aB.k.isAgg=false
theorem dN{P:Program}{tt:c7}(h:eI P tt=true){t:TypeId}{aB:dS}(bH:look tt t=some aB):Nonempty (Row P t aB):=by
 have hm:=oI bH;unfold eI at h;rw [List.all_eq_true]at h;have:=h _ hm
 unfold JY at this
 dsimp only at this
 split at this
 case h_2=>cases this
 rename_i i d hi hd;simp only [Bool.and_eq_true,decide_eq_true_eq,Nat.beq_eq]at this;obtain⟨⟨⟨⟨⟨Z,ad⟩,al⟩,aH⟩,k6⟩,a6⟩:=this;split at a6
 case h_2=>cases a6
 rename_i z dM;simp only [Bool.and_eq_true]at a6
 exact⟨⟨i,d,z,hi,hd,Z,ad,al,dM,aH,a6.1,k6,by
  have:=a6.2
  cases z<;>simp at this<;>simp [this]⟩⟩
def Row.cellsOf{P:Program}{t:TypeId}{aB:dS}(r:Row P t aB):P.cellsOf t=aB.size:=by
 simp [Program.cellsOf,r.hi,r.size]
section runs
variable {P:Program} {t:TypeId} {aB:dS} (w:World)
def Row.run_sizeOf(r:Row P t aB):(sizeOf t).run P w = .ok aB.size w:=by
 rw [Go.run_sizeOf w r.hi,r.cellsOf]
def Row.yz(r:Row P t aB):(zeroValue t).run P w = .ok r.z w:=by
 simp [zeroValue,typeInfo,r.hi,r.dM]
def Row.run_underlying(r:Row P t aB):(underlying t).run P w = .ok r.desc w:=Go.run_underlying r.hd w
def Row.sY(r:Row P t aB):(isAgg t).run P w = .ok aB.k.isAgg w:=by
 have hk:=r.hk;simp only [isAgg,Sem.run_bind,r.run_underlying,Result.andThen_ok];cases hd:r.desc<;>simp [hd,jp]at hk<;>simp [←hk,j'.isAgg]
end runs
def e7(tmps:Array Value)(p:Path):Prop:=∀x,x∈p→tmps.getD x.1 undef = .bool x.2
structure eW(P:Program)(K:Ctx)(N:Nat)(M:Mem)(β:Nat→Option Nat)(g:cG)(tmps:Array Value)(w:World):Prop where
 bd:bo P K M β {env:=g.env,H:=g.H,aJ:=g.aJ} tmps w
 size:tmps.size=N
 fresh:∀s id,look g.ids s=some id→look g.H id=none→∀b,β id≠some b
 cond:∀t q d,look g.bB t=some (q,d)→(e7 tmps q→b3 M β (tmps.getD t undef) d)∧(¬ e7 tmps q→tmps.getD t undef=undef)
def Path.Tc{q p:Path}(h:q.sub p=true){tmps:Array Value}(hp:e7 tmps p):e7 tmps q:=by
 intro x hx;unfold Path.sub at h;rw [List.all_eq_true]at h;have:=h x hx
 unfold Path.has at this;rw [List.any_eq_true]at this;obtain⟨y,bX,mX⟩:=this;simp at mX
 have Z:=hp y bX;rw [←mX.1,←mX.2];exact Z
def Td{M:Mem}{v:Value}{x:V}(h:CI v=some x):cw M v x:=by
 unfold CI at h;split at h<;>simp at h<;>subst h
 ·exact .int _ _
 ·exact .bool _
 ·rename_i s;exact .str s.data.toList
 ·exact .dD
 ·exact .gF
 ·exact .aF
def dp{P:Program}{K:Ctx}{N:Nat}{M:Mem}{β:Nat→Option Nat}{g:cG}{tmps:Array Value}{w:World}(h:eW P K N M β g tmps w){p:Path}(hp:e7 tmps p){tt:c7}{ty:TypeId}{x:Operand}{d:D}
 (hx:rd g.env g.bB p tt ty x=some d) {ds:List Deferred}:b3 M β ((⟨tmps,ds⟩:Act).eval x) d:=by
 cases x with
 |tmp t=>
  simp only [rd]at hx;split at hx
  ·rename_i q dm hc;rw [Bool.cond_eq_ite]at hx;split at hx<;>simp at hx
   subst hx;exact(h.cond t q dm hc).1 (Path.Tc (by assumption) hp)
  ·simp only [Option.map_eq_some_iff]at hx;obtain⟨e,he,rfl⟩:=hx;exact h.bd.eE (.slot t) e he
 |const v=>
  simp only [rd]at hx;split at hx
  ·rename_i heq;cases heq
  ·rename_i heq;cases heq;split at hx
   ·cases hx;exact .v _ _ (.j_ _ _)
   ·cases hx
  ·rename_i heq;cases heq;simp only [Option.map_eq_some_iff]at hx;obtain⟨y,bX,rfl⟩:=hx;exact .v _ _ (Td bX)
  ·rename_i heq;cases heq
  ·rename_i heq;cases heq
 |global n=>simp [rd]at hx
 |func f=>
  simp [rd]at hx;subst hx;exact .fn f [] [] rfl (by simp)
def Te{v:Value}(h:v.oneCell'=true):v.cells = #[v]:=by
 cases v<;>first|rfl|(simp [Value.oneCell']at h)
def b3.cells{M:Mem}{β:Nat→Option Nat}{v:Value}{d:D}(h:b3 M β v d)(bH:oB d=false):
 v.cells.toList.length=(cellsD d).length∧(∀u,u∈v.cells.toList→u.oneCell'=true)∧∀(i:Nat) u c,v.cells.toList[i]? = some u→(cellsD d)[i]? = some c→b3 M β u c:=by
 have single:∀{v:Value} {d:D},v.cells = #[v]→cellsD d=[d]→v.oneCell'=true→b3 M β v d→
  v.cells.toList.length=(cellsD d).length∧(∀u,u∈v.cells.toList→u.oneCell'=true)∧∀(i:Nat) u c,v.cells.toList[i]? = some u→(cellsD d)[i]? = some c→b3 M β u c:=by
  intro v d Z ad al aH;rw [Z,ad];refine⟨rfl,by simpa using al,λi u c hu hc=>?_⟩
  cases i with
  |zero=>simp at hu hc;subst hu;subst hc;exact aH
  |succ i=>simp at hu
 cases h with
 |v u x hx=>
  cases hx with
  |agg vs cs hn Z ai=>
   refine⟨by simp [Value.cells,cellsD,V.cells,hn],by simpa [Value.cells]using Z,λi u c hu hc=>?_⟩
   simp [Value.cells]at hu;simp [cellsD,V.cells]at hc;obtain⟨a,ha,rfl⟩:=hc;exact .v _ _ (ai i u a hu ha)
  |any v Z=>exact single (Te Z) rfl Z (.v _ _ (.any _ Z))
  |_=>exact single rfl rfl rfl (.v _ _ (by constructor<;>assumption))
 |ptr r off b hb=>exact single rfl rfl rfl (.ptr r off b hb)
 |jL r off u=>exact single rfl rfl rfl (.jL r off u)
 |bZ r off b u hb=>exact single rfl rfl rfl (.bZ r off b u hb)
 |eg b off x val cr Z ai=>exact single rfl rfl rfl (.eg b off x val cr Z ai)
 |full b k n get h=>exact single rfl rfl rfl (.full b k n get h)
 |fn f vs cs hn ai=>exact single rfl rfl rfl (.fn f vs cs hn ai)
 |agg vs cs hn Z ai=>exact⟨hn,Z,ai⟩
 |cc vs cs hn ai=>simp [oB]at bH
def Tf{cs:List D}:∀{xs:List V},u4 cs=some xs→cs=xs.map .v:=by
 induction cs with
 |nil=>intro xs h;simp [u4]at h;subst h;rfl
 |cons d l a'=>
  intro xs h;cases d<;>simp [u4]at h
  obtain⟨ys,bX,rfl⟩:=h;simp [a' bX]
def yA{M:Mem}{β:Nat→Option Nat}{vs:List Value}{cs:List D}(hn:vs.length=cs.length)(Z:∀v,v∈vs→v.oneCell'=true)
 (h:∀(i:Nat) v c,vs[i]? = some v→cs[i]? = some c→b3 M β v c):b3 M β (.agg ⟨vs⟩) (nA cs):=by
 unfold nA;split
 ·rename_i xs hx;have:=Tf hx
  subst this;refine .v _ _ (.agg vs xs (by simpa using hn) Z λi v c ar hc=>?_)
  have:=h i v (.v c) ar (by simp [hc])
  cases this;assumption
 ·exact .agg vs cs hn Z h
section
variable {P:Program} {K:Ctx} {N:Nat} {M:Mem} {β:Nat→Option Nat} {st:az} {g:cG} {tmps:Array Value} {w:World} {v:Value}
def ke{k:IntKind}{n:Int}(h:b3 M β v (.v (.int k n))):v = .int k n:=by
 cases h with|v u x h=>cases h;rfl
def lR{x:V}(h:b3 M β v (.v x)):cw M v x:=by
 cases h with|v u x h=>exact h
def qM{b:Bool}(h:b3 M β v (.v (.bool b))):v = .bool b:=by
 cases h with|v u x h=>cases h;rfl
def kG{l:ae7}(h:b3 M β v (.v (.str l))):v = .string ⟨⟨l⟩⟩:=by
 cases h with|v u x h=>cases h;rfl
def oK{r off:Nat}(h:b3 M β v (.ptr r off)):∃b,β r=some b∧v = .pointer (some ⟨b,off,none⟩):=by
 cases h with|ptr r off b h=>exact⟨b,h,rfl⟩
def C4{t:TypeId}{x:V}(h:b3 M β v (.v (.iface t x))):∃u,v = .iface t u∧cw M u x:=by
 cases h with|v u x h=>cases h with|iface t u x h=>exact⟨u,rfl,h⟩
def Tg{cs:List V}(h:b3 M β v (.v (.agg cs))):∃vs:List Value,v = .agg ⟨vs⟩∧vs.length=cs.length∧(∀u,u∈vs→u.oneCell'=true)∧∀(i:Nat) u c,vs[i]? = some u→cs[i]? = some c→cw M u c:=by
 cases h with|v u x h=>cases h with|agg vs cs hn Z h=>exact⟨vs,rfl,hn,Z,h⟩
def Th{cs:List D}(h:b3 M β v (.cc cs)):∃vs:List Value,v = .tuple ⟨vs⟩∧vs.length=cs.length∧∀(i:Nat) u c,vs[i]? = some u→cs[i]? = some c→b3 M β u c:=by
 cases h with|cc vs cs hn h=>exact⟨vs,rfl,hn,h⟩
def JZ{f:FuncId}{cs:List D}(h:b3 M β v (.fn f cs)):∃vs:List Value,v = .func (.func f) #[] ⟨vs⟩∧vs.length=cs.length∧∀(i:Nat) u c,vs[i]? = some u→cs[i]? = some c→b3 M β u c:=by
 cases h with|fn f vs cs hn h=>exact⟨vs,rfl,hn,h⟩
def pu{k n:Nat}{get:Nat→V}(h:b3 M β v (.v (.bm k n get))):((v = .slice none 0 0∨∃a,v = .slice (some a) 0 0)∧n=0)∨
 ∃(b off cap:Nat) (val:Nat→Nat→Value),v = .slice (some ⟨b,off,none⟩) n cap∧n≤cap∧(∀i,i<n→(get i).cells.length=k)∧(∀i j,i<n→j<k→M b (off+i*k+j)=some (val i j))∧
  (∀i j,i<n→j<k→(val i j).oneCell'=true)∧(∀(i j:Nat) c,i<n→(get i).cells[j]? = some c→cw M (val i j) c):=by
 cases h with
 |v u x h=>
  cases h with
  |j_=>exact .inl ⟨.inl rfl,rfl⟩
  |mO a=>exact .inl ⟨.inr ⟨a,rfl⟩,rfl⟩
  |bm b off k n cap get val hc hk cr Z h=>exact .inr ⟨b,off,cap,val,rfl,hc,hk,cr,Z,h⟩
def yB{x:V}(h:b3 M β v (.eg x)):∃(b off:Nat) (val:Nat→Value),v = .pointer (some ⟨b,off,none⟩)∧(∀j,j<x.cells.length→M b (off+j)=some (val j))∧(∀j,j<x.cells.length→(val j).oneCell'=true)∧
 (∀(j:Nat) c,x.cells[j]? = some c→cw M (val j) c):=by
 cases h with|eg b off x val cr Z h=>exact⟨b,off,val,rfl,cr,Z,h⟩
def qN{k n:Nat}{get:Nat→V}(h:b3 M β v (.v (.bm k n get))):∃a cap,v = .slice a n cap∧n≤cap:=by
 rcases pu h with⟨rfl|⟨a,rfl⟩,rfl⟩|⟨b,off,cap,val,rfl,hc,_⟩
 ·exact⟨_,_,rfl,Nat.le_refl _⟩
 ·exact⟨_,_,rfl,Nat.le_refl _⟩
 ·exact⟨_,_,rfl,hc⟩
def addr_add(b off n:Nat):(⟨b,off,none⟩:Addr).add n=⟨b,off+n,none⟩:=by
 unfold Addr.add;split<;>simp_all
def sZ{x:V}(hx:x.isAgg=false):x.cells=[x]:=by
 cases x<;>first|rfl|simp [V.isAgg]at hx
def J0{x:V}{val:Nat→Value}(Z:∀j,j<x.cells.length→(val j).oneCell'=true)(h:∀(j:Nat) c,x.cells[j]? = some c→cw M (val j) c):
 cw M (bif x.isAgg then .agg ⟨(List.range x.cells.length).map val⟩else val 0) x:=by
 cases hx:x.isAgg with
 |false=>
  have:=sZ hx
  simpa using h 0 x (by simp [this])
 |true=>
  cases x<;>simp [V.isAgg]at hx
  rename_i cs;refine .agg _ cs (by simp [V.cells]) ?_ ?_
  ·intro u hu;obtain⟨j,hj,rfl⟩:=List.mem_map.1 hu;exact Z j (by simpa using hj)
  ·intro i u c hu hc;simp only [List.getElem?_map,Option.map_eq_some_iff]at hu;obtain⟨j,hj,rfl⟩:=hu
   have:j=i:=by
    rw [List.getElem?_eq_some_iff]at hj;obtain⟨_,h⟩:=hj;simpa using h.symm
   subst this;exact h j c hc
def Ti{t:TypeId}{aB:dS}(r:Row P t aB)(yv:∀b o v,M b o=some v→w.cell? ⟨b,o,none⟩=some v){x:V}(ar:b3 M β v (.eg x))(hx:x.isAgg=aB.k.isAgg)(hs:x.cells.length=aB.size):
 ∃u,(Instr.loadAt t v).run P w = .ok u w∧cw M u x:=by
 obtain⟨b,off,val,rfl,cr,Z,h⟩:=yB ar;refine⟨_,?_,J0 Z h⟩
 have ab:∀j,j<aB.size→w.cell? ((⟨b,off,none⟩:Addr).add j)=some (val j):=λj hj=>by rw [addr_add];exact yv _ _ _ (cr j (by omega))
 cases ha:x.isAgg with
 |true=>
  rw [ha]at hx;simp [Instr.loadAt,Instr.sureAddr,loadVar,r.sY,←hx,r.run_sizeOf,run_loadCells w ⟨b,off,none⟩ aB.size val ab,hs]
 |false=>
  rw [ha]at hx;have h0:=cr 0 (by rw [sZ ha];simp)
  have:=yv _ _ _ h0
  simp [Instr.loadAt,Instr.sureAddr,loadVar,r.sY,←hx,run_load];simp at this
  rw [this]
def J1{t:TypeId}{aB:dS}(r:Row P t aB){b off:Nat}{vs:List Value}{T:TypeId}{f:Nat×Nat}(bf:w.heap[b]? = some (.cells ⟨vs⟩ T f))(hle:off+aB.size≤vs.length)(ha:aB.k.isAgg=true):
 (Instr.loadAt t (.pointer (some ⟨b,off,none⟩))).run P w = .ok (.agg ⟨(vs.drop off).take aB.size⟩) w:=by
 have hlen:((vs.drop off).take aB.size).length=aB.size:=by simp;omega
 have:=run_loadCells_list (P:=P) w ⟨b,off,none⟩ ((vs.drop off).take aB.size) (λj u hj=>by
  rw [addr_add,cell_of_heap bf];rw [List.getElem?_take]at hj;split at hj
  ·simpa using hj
  ·cases hj)
 rw [hlen]at this;simp [Instr.loadAt,Instr.sureAddr,loadVar,r.sY,ha,r.run_sizeOf,this]
def C5{t:TypeId}{aB:dS}(r:Row P t aB){b off:Nat}{u:Value}(hc:w.cell? ⟨b,off,none⟩=some u)(ha:aB.k.isAgg=false):
 (Instr.loadAt t (.pointer (some ⟨b,off,none⟩))).run P w = .ok u w:=by
 simp [Instr.loadAt,Instr.sureAddr,loadVar,r.sY,ha,run_load,hc]
def C6{t:TypeId}{aB:dS}(r:Row P t aB){b2:List (Nat×TypeId×Nat)}(hk:aB.k = .bF b2):∃gs:Array Field,r.desc = .struct gs∧b2=gs.toList.map λf=>(f.offset,f.type,P.cellsOf f.type):=by
 have:=r.hk
 rw [hk]at this;cases hd:r.desc<;>simp [hd,jp]at this
 exact⟨_,rfl,this.symm⟩
def mY{t:TypeId}{aB:dS}(r:Row P t aB){e:TypeId}(hk:aB.k = .bm e):r.desc = .slice e:=by
 have:=r.hk
 rw [hk]at this;cases hd:r.desc<;>simp [hd,jp]at this
 rw [this]
def nG{t:TypeId}{aB:dS}(r:Row P t aB)(hk:aB.k = .str):r.desc = .string:=by
 have:=r.hk
 rw [hk]at this;cases hd:r.desc<;>simp [hd,jp]at this;rfl
def vg{t:TypeId}{aB:dS}(r:Row P t aB){k:IntKind}(hk:aB.k = .int k):r.desc = .int k:=by
 have:=r.hk
 rw [hk]at this;cases hd:r.desc<;>simp [hd,jp]at this
 rw [this]
def Tj{t:TypeId}{aB:dS}(r:Row P t aB){n:Nat}{e:TypeId}(hk:aB.k = .arr n e):r.desc = .array n e:=by
 have:=r.hk
 rw [hk]at this;cases hd:r.desc<;>simp [hd,jp]at this
 rw [this.1,this.2]
def J2{s:TypeId}{aB:dS}(r:Row P s aB){b2:List (Nat×TypeId×Nat)}(hk:aB.k = .bF b2){f c_ gm eU:Nat}(a7:b2[f]? = some (c_,gm,eU))(dz:1≤eU)(b off:Nat):
 (Instr.fieldAt s (.pointer (some ⟨b,off,none⟩)) f).run P w = .ok (.pointer (some ⟨b,off+c_,none⟩)) w:=by
 obtain⟨gs,hd,rfl⟩:=C6 r hk;simp only [List.getElem?_map,Option.map_eq_some_iff]at a7;obtain⟨fd,kH,he⟩:=a7;simp only [Prod.mk.injEq]at he;obtain⟨rfl,rfl,rfl⟩:=he;have yC:gs[f]? = some fd:=by simpa using kH
 have hs:(sizeOf fd.type).run P w = .ok (P.cellsOf fd.type) w:=by
  cases hi:P.info? fd.type with
  |none=>simp [Program.cellsOf,hi]at dz
  |some i=>exact Go.run_sizeOf w hi
 have dt:P.cellsOf fd.type≠0:=by omega
 simp [Instr.fieldAt,r.run_underlying,hd,yC,Instr.sureAddr,fieldPlace,hs,dt,addr_add]
def J3{s:TypeId}{aB:dS}(r:Row P s aB){b2:List (Nat×TypeId×Nat)}(hk:aB.k = .bF b2){f c_ gm eU:Nat}(a7:b2[f]? = some (c_,gm,eU)){s0:dS}(ak:Row P gm s0)(vs:List Value)(hle:c_+eU≤vs.length):
 (s0.k.isAgg=true→(Instr.field s (.agg ⟨vs⟩) f).run P w = .ok (.agg ⟨(vs.drop c_).take eU⟩) w)∧
 (s0.k.isAgg=false→∀u,vs[c_]? = some u→(Instr.field s (.agg ⟨vs⟩) f).run P w = .ok u w):=by
 obtain⟨gs,hd,rfl⟩:=C6 r hk;simp only [List.getElem?_map,Option.map_eq_some_iff]at a7;obtain⟨fd,kH,he⟩:=a7;simp only [Prod.mk.injEq]at he;obtain⟨rfl,rfl,rfl⟩:=he;have yC:gs[f]? = some fd:=by simpa using kH
 have dz:=ak.cellsOf;refine⟨λha=>?_,λha u hu=>?_⟩
 ·simp [Instr.field,r.run_underlying,hd,yC,asAgg,part,ak.sY,ha,ak.run_sizeOf,dz,List.extract_eq_take_drop]
 ·simp [Instr.field,r.run_underlying,hd,yC,asAgg,part,ak.sY,ha,hu]
def Tk{t:TypeId}{aB:dS}(r:Row P t aB){e:TypeId}(hk:aB.k = .bm e){bN:dS}(db:Row P e bN){k:IntKind}{j:Int}{b off n cap:Nat}(h0:0≤j)(Z:j<n):
 (Instr.indexAt t (.slice (some ⟨b,off,none⟩) n cap) (.int k j)).run P w = .ok (.pointer (some ⟨b,off+j.toNat*bN.size,none⟩)) w:=by
 simp [Instr.indexAt,asIntOf,r.run_underlying,mY r hk,h0,Z,db.run_sizeOf,addr_add]
def Tl{t:TypeId}{aB:dS}(r:Row P t aB)(hk:aB.k = .str){k:IntKind}{j:Int}{l:ae7}(h0:0≤j)(Z:j<l.length):
 (Instr.index t (.string ⟨⟨l⟩⟩) (.int k j)).run P w = .ok (.int .u8 (l.getD j.toNat 0).toNat) w:=by
 have cB:j.toNat<l.length:=by omega
 have Tm:j.toNat<(ByteArray.mk ⟨l⟩).size:=cB;have hs:(ByteArray.mk ⟨l⟩)[j.toNat]? = some l[j.toNat]:=by rw [getElem?_pos (ByteArray.mk ⟨l⟩) j.toNat Tm];rfl
 simp [Instr.index,asIntOf,r.run_underlying,nG r hk,h0,hs,List.getElem?_eq_getElem cB]
def yD(l:ae7):(⟨⟨l⟩⟩:ByteArray).toList=l:=by
 rw [ByteArray.toList_eq]
end
section
variable {P:Program} {K:Ctx} {N:Nat} {M:Mem} {β:Nat→Option Nat} {g:cG} {tmps:Array Value} {w:World} {o:Oper} {f:ji} {p:Path} {tt:c7} {bL:fw} {ops:List Oper}
def after(g:cG)(f:ji):az:={env:=fY f.f_ g.env,H:=f.hs++g.H,aJ:=g.aJ+f.e6}
def gV(P:Program)(K:Ctx)(M:Mem)(β:Nat→Option Nat)(g:cG)(f:ji)(tmps:Array Value)(v:Value)(w':World):Prop:=
 ∃M' β',M.le M'∧(∀r b,β r=some b→β' r=some b)∧(∀r b,β' r=some b→β r=some b∨(look f.hs r).isSome=true)∧bo P K M' β' (after g f) tmps w'∧
  ∀e,f.e=some e→b3 M' β' v e.d∧∀T l0,e.own=some T→k5 P K M' β' (after g f) tmps w' l0 v T
def Yields(P:Program)(K:Ctx)(M:Mem)(β:Nat→Option Nat)(g:cG)(f:ji)(o:Oper)(tmps:Array Value)(w:World):Prop:=
 (∃v w',(execOp (Act.eval ⟨tmps,[]⟩) o).run P w = .ok (.value v) w'∧gV P K M β g f tmps v w')∨
 (f.e=none∧∃w',(execOp (Act.eval ⟨tmps,[]⟩) o).run P w = .ok .skip w'∧gV P K M β g f tmps undef w')∨
 (∃fn vs,(execOp (Act.eval ⟨tmps,[]⟩) o).run P w = .ok (.enter fn vs) w∧Calls P fn vs w λe w'=>∃v,e = .returned v∧gV P K M β g f tmps v w')
def el(h:eW P K N M β g tmps w){v:Value}{d:D}(ai:(execOp (Act.eval ⟨tmps,[]⟩) o).run P w = .ok (.value v) w)(hd:b3 M β v d){rs:List eD}{aL:List Prop}:
 Yields P K M β g {e:=some {d},rs,aL} o tmps w:=
 .inl ⟨v,w,ai,M,β,Mem.le_refl _,λ_ _ h=>h,λ_ _ h=>.inl h,h.bd,λe he=>by cases he;exact⟨hd,by simp⟩⟩
def hN(x:Sem Value){v:Value}{w':World}(h:x.run P w = .ok v w'):(do pure (.value (←x)):Sem Next).run P w = .ok (.value v) w':=by
 simp [h]
def yE(h:eW P K N M β g tmps w)(hp:e7 tmps p){x:Operand}(am:o.op = .move x∨o.op = .assign x){d:D}(hx:rd g.env g.bB p tt o.type x=some d):
 Yields P K M β g {e:=some {d},rs:=g.rs} o tmps w:=
 el h (v:=(⟨tmps,[]⟩:Act).eval x) (by rcases am with am|am<;>simp [execOp,am]) (dp h hp hx)
def J4(h:eW P K N M β g tmps w)(hp:e7 tmps p){t:Nat}(am:o.op = .move (.tmp t)∨o.op = .assign (.tmp t)){d:D}(hx:rd g.env g.bB p tt o.type (.tmp t)=some d)
 {s:TypeId} (hs:mR g (.tmp t)=some s) {rs:List eD}:Yields P K M β g {e:=some {d,own:=some s},f_:=[t],rs} o tmps w:=by
 refine .inl ⟨(⟨tmps,[]⟩:Act).eval (.tmp t),w,by rcases am with am|am<;>simp [execOp,am],M,β,Mem.le_refl _,λ_ _ h=>h,λ_ _ h=>.inl h,?_,λe he=>?_⟩
 ·have:=h.bd.f_ [t];exact this
 ·cases he;refine⟨dp h hp hx,λT l0 aG=>?_⟩
  cases aG;simp only [mR,Option.bind_eq_some_iff]at hs;obtain⟨e,he,hs⟩:=hs;exact h.bd.hand he hs l0
def Tn(h:eW P K N M β g tmps w)(hp:e7 tmps p)(am:o.op = .assign (.const (.slice none 0 0))){d:D}(hx:rd g.env g.bB p tt o.type (.const (.slice none 0 0))=some d)(s:TypeId):
 Yields P K M β g {e:=some {d,own:=some s},rs:=g.rs} o tmps w:=by
 refine .inl ⟨.slice none 0 0,w,by simp [execOp,am,Act.eval],M,β,Mem.le_refl _,λ_ _ h=>h,λ_ _ h=>.inl h,h.bd,λe he=>?_⟩
 cases he;exact⟨dp (ds:=[]) h hp hx,λT l0 _=>CY l0 T⟩
def To(h:eW P K N M β g tmps w)(hp:e7 tmps p){c:Nat}{a b:Operand}(am:o.op = .pick (.tmp c) a b){pp u9 qD:Bool}(hc:rd g.env g.bB p tt o.type (.tmp c)=some (.v (.bool pp)))
 (ha:rd g.env g.bB ((c,true)::p) tt o.type a=some (.v (.bool u9))) (hb:rd g.env g.bB ((c,false)::p) tt o.type b=some (.v (.bool qD))):
 Yields P K M β g {e:=some {d:=.v (.bool (bif pp then u9 else qD))},rs:=g.rs} o tmps w:=by
 have ih:(⟨tmps,[]⟩:Act).eval (.tmp c) = .bool pp:=qM (dp h hp hc);have J5:tmps.getD c undef = .bool pp:=ih;cases pp with
 |true=>
  refine el h (v:=(⟨tmps,[]⟩:Act).eval a) (by simp [execOp,am,ih,asBool]) ?_
  exact dp h (p:=(c,true)::p) (λx hx=>by rcases List.mem_cons.1 hx with rfl|hx;exact J5;exact hp x hx) ha
 |false=>
  refine el h (v:=(⟨tmps,[]⟩:Act).eval b) (by simp [execOp,am,ih,asBool]) ?_
  exact dp h (p:=(c,false)::p) (λx hx=>by rcases List.mem_cons.1 hx with rfl|hx;exact J5;exact hp x hx) hb
def bo.C7{st:az}(h:bo P K M β st tmps w)(o:Nat):M w.heap.size o=none:=by
 cases hm:M w.heap.size o with
 |none=>rfl
 |some v=>have:=lt_of_cell (h.mem _ _ _ hm);omega
def J6(h:eW P K N M β g tmps w){vs:List Value}{T:TypeId}{cs:List aM}(hlen:vs.length=cs.length)(hz:∀v,v∈vs→v.oneCell'=true)(hlies:jm P T vs.length cs)
 (ar:∀(i:Nat) v e,vs[i]? = some v→cs[i]? = some e→b3 M β v e.d∧∀T,e.own=some T→v = .slice none 0 0)
 (ai:(execOp (Act.eval ⟨tmps,[]⟩) o).run P w = .ok (.value (.pointer (some ⟨w.heap.size,0,none⟩))) {w with heap:=w.heap.push (.cells ⟨vs⟩ T (0,0))}) {id e6:Nat} (hid:lM g o=some (id,e6)):
 Yields P K M β g {e:=some {d:=.ptr id 0},hs:=[(id,cs)],e6,rs:=g.rs} o tmps w:=by
 have a7:(∀b,β id≠some b)∧id<g.aJ+e6:=by
  unfold lM at hid;split at hid
  ·rename_i ado ab;rw [Bool.cond_eq_ite]at hid;split at hid<;>cases hid
   rename_i hc;simp only [Bool.and_eq_true,Option.isNone_iff_eq_none,Nat.blt_eq]at hc;rw [Option.bind_eq_some_iff]at ab;obtain⟨s,_,ab⟩:=ab;exact⟨h.fresh s _ ab hc.1,by omega⟩
  ·cases hid;exact⟨λb hb=>by have:=h.bd.lt _ b hb;simp at this,by omega⟩
 refine .inl ⟨_,_,ai,M,_,Mem.le_refl _,?_,?_,h.bd.S6 (n':=g.aJ+e6) a7.1 a7.2 (by simp) (T:=T) hlen hz hlies ar,λe he=>?_⟩
 ·intro r b hb;have dt:r≠id:=λe=>a7.1 b (e ▸ hb)
  simp [dt,hb]
 ·intro r b hb;by_cases dt:r=id
  ·exact .inr (by simp [de,dt])
  ·simp [dt]at hb;exact .inl hb
 ·cases he;exact⟨.ptr _ _ _ (by simp),by simp⟩
def J7{α:Type}:∀(l:List α) (n i:Nat),(cl n l)[i]? = (l[i]?).map (n+i,·)
 |[],n,i=>by simp [cl]
 |x::l,n,0=>by simp [cl]
 |x::l,n,i+1=>by simp [cl,J7 l (n+1) i];congr 1;funext;congr 1;omega
def J8{α:Type}:∀(l:List α) (n:Nat),(cl n l).length=l.length
 |[],n=>rfl
 |x::l,n=>by simp [cl,J8 l (n+1)]
def J9{x:V}{t:Option TypeId}{T:TypeId}(h:yp x t=some T):∃k n get,x = .bm k n get:=by
 cases x<;>simp [yp]at h;exact⟨_,_,_,rfl⟩
def J'(hZ:List (Nat×TypeId))(id i:Nat)(x:V):u6 hZ id i x = .v x∨(x = .dD∧∃u,u6 hZ id i x = .bZ id i u∧(i,u)∈hZ):=by
 unfold u6;split
 ·split
  ·rename_i y bX;right
   have Z:=List.find?_some bX;have ad:=List.mem_of_find?_eq_some bX;obtain⟨j,u⟩:=y;obtain rfl:j=i:=by simpa using Z
   exact⟨rfl,u,rfl,ad⟩
  ·exact .inl rfl
 ·exact .inl rfl
def Tp{t:TypeId}{id:Nat}{z:List aM}(h:yq tt t id=some z):∃aB,look tt t=some aB∧z.length=aB.zero.length∧
 ∀(i:Nat) e,z[i]? = some e→∃x,aB.zero[i]? = some x∧(e.d = .v x∨(x = .dD∧∃u,e.d = .bZ id i u∧(i,u)∈aB.hZ))∧∀T,e.own=some T→∃k n get,x = .bm k n get:=by
 unfold yq at h;split at h<;>simp at h
 ·rename_i e eU iA zero mZ ab;subst h;refine⟨_,ab,by simp,λi a1 he=>?_⟩
  simp only [List.getElem?_map,Option.map_eq_some_iff]at he;obtain⟨x,hx,rfl⟩:=he;exact⟨x,hx,.inl rfl,λT aG=>J9 aG⟩
 ·rename_i b2 eU iA zero mZ ab;subst h;refine⟨_,ab,by simp [J8],λi a1 he=>?_⟩
  simp only [List.getElem?_map,Option.map_eq_some_iff,J7]at he;obtain⟨_,⟨x,hx,rfl⟩,rfl⟩:=he;simp only [Nat.zero_add];exact⟨x,hx,J' mZ id i x,λT aG=>J9 aG⟩
 ·rename_i k eU iA zero mZ _ _ ab;subst h;refine⟨_,ab,by simp,λi a1 he=>?_⟩
  simp only [List.getElem?_map,Option.map_eq_some_iff]at he;obtain⟨x,hx,rfl⟩:=he;exact⟨x,hx,.inl rfl,by simp⟩
def Tq(h:eW P K N M β g tmps w)(b4:eI P tt=true){t:TypeId}(am:o.op = .alloc t){z:List aM}{id e6:Nat}(dM:yq tt t id=some z)(hid:lM g o=some (id,e6)):
 Yields P K M β g {e:=some {d:=.ptr id 0},hs:=[(id,z)],e6,rs:=g.rs} o tmps w:=by
 obtain⟨aB,ab,hlen,J_⟩:=Tp dM;obtain⟨r⟩:=dN b4 ab;obtain⟨Z,ad,al⟩:=sX (M:=M) r.vf;refine J6 h (vs:=r.z.cells.toList) (T:=t) (by omega) ad (λe he q off u hd=>?_) (λi v e ar he=>?_) ?_ hid
 ·obtain⟨i,hi,rfl⟩:=List.getElem_of_mem he;obtain⟨x,hx,iB,_⟩:=J_ i z[i] (List.getElem?_eq_getElem hi);rcases iB with iB|⟨_,adp,iB,hm⟩
  ·rw [iB]at hd;cases hd
  ·rw [iB]at hd;cases hd;have:=List.all_eq_true.1 r.hZ _ hm
   have dz:=r.C3;rw [show r.z.cells.toList.length=aB.size by omega]
   exact this
 ·obtain⟨x,hx,hd,fj⟩:=J_ i e he;obtain⟨aH,a6⟩:=al i v x ar hx
  refine⟨by
   rcases hd with hd|⟨rfl,u,hd,_⟩
   ·rw [hd];exact .v _ _ aH
   ·rw [hd];cases aH;exact .jL _ _ _,λT aG=>?_⟩
  obtain⟨k,n,get,rfl⟩:=fj T aG;unfold qJ at a6;split at a6<;>simp_all
 ·simp [execOp,am,Instr.alloc,r.yz,newVar,newRow]
def C8(tt:c7)(aB:dS)(id:Nat):∀(l:List D) (i j:Nat),(nD tt aB id i l)[j]? = (l[j]?).map (sO tt aB id (i+j))
 |[],i,j=>by simp [nD]
 |d::l,i,0=>by simp [nD]
 |d::l,i,j+1=>by
  simp only [nD,List.getElem?_cons_succ];rw [C8 tt aB id l (i+1) j,show i+1+j=i+(j+1)by omega]
def C9(tt:c7)(aB:dS)(id:Nat):∀(l:List D) (i:Nat),(nD tt aB id i l).length=l.length
 |[],i=>rfl
 |d::l,i=>by simp only [nD,List.length_cons,C9 tt aB id l (i+1)]
def Ka{M:Mem}{β:Nat→Option Nat}(tt:c7)(aB:dS)(id i:Nat)(d:D)(pw:∀r o u,d ≠ .bZ r o u){v:Value}(h:b3 M β v d):
 b3 M β v (sO tt aB id i d).d∧(∀T,(sO tt aB id i d).own=some T→v = .slice none 0 0)∧∀r o u,(sO tt aB id i d).d = .bZ r o u→(o,u)∈aB.hZ:=by
 unfold sO;split
 ·rcases J' aB.hZ id i .dD with Z|⟨_,u,Z,ad⟩
  ·simp only [Z];exact⟨h,(λT aG=>by cases aG),(λr o u e=>by cases e)⟩
  ·simp only [Z]
   cases h with|v u x hx=>cases hx with
    |dD=>exact⟨.jL _ _ _,(λT aG=>by cases aG),(λr o u e=>by cases e;exact ad)⟩
 ·split
  ·cases h with|v u x hx=>cases hx with
    |me=>exact⟨.v _ _ (.j_ _ _),λ_ _=>rfl,λr o u e=>by cases e⟩
  ·exact⟨h,(λT aG=>by cases aG),(λr o u e=>by cases e)⟩
 ·exact⟨h,(λT aG=>by cases aG),λr o u e=>absurd e (pw r o u)⟩
def Tr(h:eW P K N M β g tmps w)(hp:e7 tmps p){t:TypeId}{x:Operand}(am:o.op = .box t x){d:D}(hx:rd g.env g.bB p tt o.type x=some d)(bH:oB d=false)(pw:po (cellsD d)=true)(b4:eI P tt=true){aB:dS}(ab:look tt t=some aB)(dz:(cellsD d).length=aB.size){id e6:Nat}(hid:lM g o=some (id,e6)):
 Yields P K M β g {e:=some {d:=.ptr id 0},hs:=[(id,nD tt aB id 0 (cellsD d))],e6,rs:=g.rs} o tmps w:=by
 obtain⟨r⟩:=dN b4 ab;obtain⟨Z,ad,al⟩:=(dp (ds:=[]) h hp hx).cells bH;refine J6 h (vs:=((⟨tmps,[]⟩:Act).eval x).cells.toList) (T:=t) (by rw [C9];simpa using Z) ad (λe he q off u hd=>?_) (λi v e ar he=>?_) ?_ hid
 ·obtain⟨i,hi,rfl⟩:=List.getElem_of_mem he;have hg:(nD tt aB id 0 (cellsD d))[i]? = some _:=List.getElem?_eq_getElem hi;rw [C8,Option.map_eq_some_iff]at hg;obtain⟨c,hc,C'⟩:=hg;rw [←C']at hd;have C_:i<((⟨tmps,[]⟩:Act).eval x).cells.toList.length:=by rw [C9]at hi;omega
  have:=(Ka tt aB id (0+i) c (yt pw c (List.mem_of_getElem? hc)) (al i _ c (List.getElem?_eq_getElem C_) hc)).2.2 q off u hd
  have hb:=List.all_eq_true.1 r.hZ _ this;rw [Z,dz];exact hb
 ·rw [C8,Option.map_eq_some_iff]at he;obtain⟨c,hc,rfl⟩:=he;obtain⟨g1,g2,_⟩:=Ka tt aB id (0+i) c (yt pw c (List.mem_of_getElem? hc)) (al i v c ar hc);exact⟨g1,g2⟩
 ·simp [execOp,am,Instr.box,newVar,newRow]
end
def oL{α:Type}:∀(cs:List α) (off:Nat) (xs:List α),off+xs.length≤cs.length→(setAt cs off xs).length=cs.length∧∀(i:Nat),(setAt cs off xs)[i]? = if off≤i∧i<off+xs.length then xs[i-off]? else cs[i]?
 |[],0,[],_=>by simp [setAt]
 |[],0,x::xs,h=>by simp at h
 |[],n+1,xs,h=>by simp at h
 |c::cs,0,[],_=>by
  refine⟨by simp [setAt],λi=>?_⟩
  simp only [setAt,List.length_nil];rw [if_neg (by omega)]
 |c::cs,0,x::xs,h=>by
  obtain⟨Z,ad⟩:=oL cs 0 xs (by simp at h ⊢;omega)
  refine⟨by simp [setAt,Z],λi=>?_⟩
  cases i with
  |zero=>simp [setAt]
  |succ i=>
   simp only [setAt,List.getElem?_cons_succ,ad i,Nat.zero_add,List.length_cons];by_cases hi:i<xs.length<;>simp [hi]
 |c::cs,n+1,xs,h=>by
  obtain⟨Z,ad⟩:=oL cs n xs (by simp at h ⊢;omega)
  refine⟨by simp [setAt,Z],λi=>?_⟩
  cases i with
  |zero=>simp [setAt]
  |succ i=>
   simp only [setAt,List.getElem?_cons_succ,ad i];by_cases hi:n≤i∧i<n+xs.length
   ·rw [if_pos hi,if_pos (by omega)];congr 1;omega
   ·rw [if_neg hi,if_neg (by omega)]
def Da(off:Nat):∀(l:List Value) (k:Nat) (cs:Array Value),off+k+l.length≤cs.size→
 ((l.zipIdx k).foldl (λcs (x:Value×Nat)=>cs.setIfInBounds (off+x.2) x.1) cs).size=cs.size∧
 ∀(i:Nat),((l.zipIdx k).foldl (λcs (x:Value×Nat)=>cs.setIfInBounds (off+x.2) x.1) cs)[i]? = if off+k≤i∧i<off+k+l.length then l[i-(off+k)]? else cs[i]?
 |[],k,cs,h=>by
  refine⟨rfl,λi=>?_⟩
  simp only [List.zipIdx_nil,List.foldl_nil,List.length_nil];rw [if_neg (by omega)]
 |x::l,k,cs,h=>by
  obtain⟨Z,ad⟩:=Da off l (k+1) (cs.setIfInBounds (off+k) x) (by simp at h ⊢;omega)
  simp only [List.zipIdx_cons,List.foldl_cons];refine⟨by simpa using Z,λi=>?_⟩
  rw [ad i];simp only [List.length_cons]at h ⊢;by_cases al:off+(k+1)≤i∧i<off+(k+1)+l.length
  ·rw [if_pos al,if_pos (by omega)]
   obtain⟨j,rfl⟩:∃j,i=off+k+1+j:=⟨i-(off+k+1),by omega⟩
   rw [show off+k+1+j-(off+(k+1))=j by omega,show off+k+1+j-(off+k)=j+1 by omega]
   simp
  ·rw [if_neg al];by_cases aH:i=off+k
   ·subst aH;rw [if_pos (by omega)]
    have:off+k<cs.size:=by omega
    simp [this]
   ·rw [if_neg (by omega)]
    rw [Array.getElem?_setIfInBounds_ne (Ne.symm aH)]
section
variable {P:Program} {K:Ctx} {N:Nat} {M:Mem} {β:Nat→Option Nat} {g:cG} {tmps:Array Value} {w:World} {o:Oper} {f:ji} {p:Path} {tt:c7} {bL:fw} {ops:List Oper}
structure Cells(M:Mem)(β:Nat→Option Nat)(vs:List Value)(cs:List D):Prop where
 len:vs.length=cs.length
 one:∀v,v∈vs→v.oneCell'=true
 rep:∀(i:Nat) v c,vs[i]? = some v→cs[i]? = some c→b3 M β v c
def yF{vs:List Value}(h:∀v,v∈vs→v.oneCell'=true){i:Nat}{v:Value}(hi:vs[i]? = some v):v.oneCell'=true:=h v (List.mem_of_getElem? hi)
def Kb{vs:List Value}(h:∀(i:Nat) v,vs[i]? = some v→v.oneCell'=true):∀v,v∈vs→v.oneCell'=true:=λv ar=>by
 obtain⟨i,hi⟩:=List.getElem?_of_mem ar;exact h i v hi
def Cells.set{vs:List Value}{cs:List D}(h:Cells M β vs cs){ws:List Value}{ds:List D}(cL:Cells M β ws ds){off:Nat}(hle:off+ds.length≤cs.length){vs':List Value}(hlen:vs'.length=vs.length)
 (gW:∀(i:Nat),vs'[i]? = if off≤i∧i<off+ws.length then ws[i-off]? else vs[i]?):Cells M β vs' (setAt cs off ds):=by
 obtain⟨Z,ad⟩:=oL cs off ds hle;refine⟨by rw [hlen,Z,h.len],Kb λi v ar=>?_,λi v c ar hc=>?_⟩
 ·rw [gW i]at ar;split at ar
  ·exact yF cL.one ar
  ·exact yF h.one ar
 ·rw [gW i]at ar;rw [ad i]at hc;by_cases hi:off≤i∧i<off+ds.length
  ·rw [if_pos hi]at hc;rw [if_pos (by rw [cL.len];exact hi)]at ar
   exact cL.rep _ v c ar hc
  ·rw [if_neg hi]at hc;rw [if_neg (by rw [cL.len];exact hi)]at ar
   exact h.rep _ v c ar hc
def Db{place:Nat→Option (Nat×Nat)}:∀{b9:List (Nat×D)} {vs:List (Nat×Value)} {cs cs':List D} {cells:Array Value},vs.length=b9.length→
 (∀(i:Nat) a b,b9[i]? = some a→vs[i]? = some b→a.1=b.1∧b3 M β b.2 a.2)→Cells M β cells.toList cs→oC place cs b9=some cs'→
 ∃h4,Instr.fill place cells vs=some h4∧Cells M β h4.toList cs'
 |[],[],cs,cs',cells,_,_,hc,h=>by simp [oC]at h;subst h;exact⟨cells,rfl,hc⟩
 |[],_::_,_,_,_,h,_,_,_=>by simp at h
 |_::_,[],_,_,_,h,_,_,_=>by simp at h
 |(i,d)::b9,(j,v)::vs,cs,cs',cells,hn,ai,hc,h=>by
  obtain⟨Kc,hd⟩:=ai 0 (i,d) (j,v) (by simp) (by simp)
  simp only at Kc hd
  subst Kc;simp only [oC]at h;split at h
  ·cases h
  ·rename_i off size m1;rw [Bool.cond_eq_ite]at h;split at h
   case isFalse=>cases h
   rename_i hb;simp only [Bool.and_eq_true,Nat.beq_eq,Nat.ble_eq,Bool.not_eq_true']at hb;obtain⟨⟨cK,fl⟩,Dc⟩:=hb;obtain⟨Z,ad,al⟩:=hd.cells Dc;have dz:cells.size=cs.length:=by simpa using hc.len
   have dy:v.cells.size=size:=by simpa [cK]using Z
   have a7:=Da off v.cells.toList 0 cells (by simp [dy];omega)
   have Dd:v.cells.zipIdx.foldl (λcs (x:Value×Nat)=>cs.setIfInBounds (off+x.2) x.1) cells=(v.cells.toList.zipIdx 0).foldl (λcs (x:Value×Nat)=>cs.setIfInBounds (off+x.2) x.1) cells:=by
    rw [←Array.foldl_toList,Array.toList_zipIdx]
   have ih:Cells M β (v.cells.zipIdx.foldl (λcs (x:Value×Nat)=>cs.setIfInBounds (off+x.2) x.1) cells).toList (setAt cs off (cellsD d)):=by
    rw [Dd];refine hc.set ⟨Z,ad,al⟩ (by omega) (by simpa using a7.1) (λk=>?_)
    have:=a7.2 k
    simp only [Nat.add_zero]at this;rw [Array.getElem?_toList,this];simp only [Array.getElem?_toList]
   obtain⟨h4,vh,m4⟩:=Db (place:=place) (by simpa using hn) (λk a b ha hb=>ai (k+1) a b (by simpa using ha) (by simpa using hb)) ih h
   refine⟨h4,?_,m4⟩
   simp only [Instr.fill,m1];rw [if_neg (by simp;omega)]
   exact vh
def px{α c6:Type}{f:α→Option c6}:∀{l:List α} {cd:List c6},mapM' f l=some cd→cd.length=l.length∧∀(i:Nat) a b,l[i]? = some a→cd[i]? = some b→f a=some b
 |[],cd,h=>by simp [mapM']at h;subst h;simp
 |x::l,cd,h=>by
  simp only [mapM']at h;split at h<;>simp at h
  rename_i y ys bX Ts;subst h;obtain⟨Z,ad⟩:=px Ts;refine⟨by simp [Z],λi a b ha hb=>?_⟩
  cases i with
  |zero=>simp at ha hb;subst ha;subst hb;exact bX
  |succ i=>simp at ha hb;exact ad i a b ha hb
def Row.Kd{t:TypeId}{aB:dS}(r:Row P t aB):Cells M β r.z.cells.toList (aB.zero.map .v):=by
 obtain⟨Z,ad,al⟩:=sX (M:=M) r.vf;refine⟨by simpa using Z,ad,λi v c ar hc=>?_⟩
 simp only [List.getElem?_map,Option.map_eq_some_iff]at hc;obtain⟨x,hx,rfl⟩:=hc;exact .v _ _ (al i v x ar hx).1
def Tt{M:Mem}{v:Value}{x:V}(h:qJ v x=true):cw M v (CO x):=by
 have h0:=(C2 (M:=M) h).1;unfold qJ at h;split at h<;>first|exact h0|skip
 ·rename_i k n g;have:n=0:=by simpa using h
  subst this;exact .me _ _
 ·cases h
def Row.Tu{t:TypeId}{aB:dS}(r:Row P t aB):Cells M β r.z.cells.toList (aB.zero.map λx=>.v (CO x)):=by
 obtain⟨Z,ad,al⟩:=sX (M:=M) r.vf;refine⟨by simpa using Z,ad,λi v c ar hc=>?_⟩
 simp only [List.getElem?_map,Option.map_eq_some_iff]at hc;obtain⟨x,hx,rfl⟩:=hc;exact .v _ _ (Tt (al i v x ar hx).2)
def De(h:eW P K N M β g tmps w)(hp:e7 tmps p){ty:Nat→TypeId}{parts:Array (Nat×Operand)}{b9:List (Nat×D)}(kf:mapM' (fun(x:Nat×Operand)=>(rd g.env g.bB p tt (ty x.1) x.2).map λd=>(x.1,d)) parts.toList=some b9):
 ((parts.map fun(x:Nat×Operand)=>(x.1,(⟨tmps,[]⟩:Act).eval x.2)).toList).length=b9.length∧
 ∀(i:Nat) a b,b9[i]? = some a→(parts.map fun(x:Nat×Operand)=>(x.1,(⟨tmps,[]⟩:Act).eval x.2)).toList[i]? = some b→a.1=b.1∧b3 M β b.2 a.2:=by
 obtain⟨Z,ad⟩:=px kf;refine⟨by simpa using Z.symm,λi a b ha hb=>?_⟩
 simp only [Array.toList_map,List.getElem?_map,Option.map_eq_some_iff]at hb;obtain⟨x,hx,rfl⟩:=hb;have:=ad i x a hx ha
 simp only [Option.map_eq_some_iff]at this;obtain⟨d,hd,rfl⟩:=this;exact⟨rfl,dp h hp hd⟩
def run_places{b2:Array Field}{l:List (Nat×TypeId×Nat)}(ab:l=b2.toList.map λf=>(f.offset,f.type,P.cellsOf f.type))(hs:∀f,f∈b2.toList→1≤P.cellsOf f.type):
 (b2.mapM λf=>(do pure (f.offset,←sizeOf f.type):Sem (Nat×Nat))).run P w = .ok (b2.map λf=>(f.offset,P.cellsOf f.type)) w:=by
 obtain⟨s3⟩:=b2;rw [List.mapM_toArray]
 have key:∀(l:List Field),(∀f,f∈l→1≤P.cellsOf f.type)→(l.mapM λf=>(do pure (f.offset,←sizeOf f.type):Sem (Nat×Nat))).run P w = .ok (l.map λf=>(f.offset,P.cellsOf f.type)) w:=by
  intro l;induction l with
  |nil=>intro _;rfl
  |cons f l a'=>
   intro a7;have h0:=a7 f (by simp)
   have Z:(sizeOf f.type).run P w = .ok (P.cellsOf f.type) w:=by
    cases hi:P.info? f.type with
    |none=>simp [Program.cellsOf,hi]at h0
    |some i=>exact Go.run_sizeOf w hi
   simp only [List.mapM_cons,Sem.run_bind,Z,Result.andThen_ok,Sem.run_pure,a' (λf h=>a7 f (by simp [h])),List.map_cons]
 simp only [Sem.run_map,key s3 (by simpa using hs),Result.andThen_ok]
 simp
def Ke(h:eW P K N M β g tmps w)(hp:e7 tmps p)(b4:eI P tt=true){t:TypeId}{aB:dS}(ab:look tt t=some aB){b2:List (Nat×TypeId×Nat)}(hk:aB.k = .bF b2)(nH:b2.all (λf=>Nat.ble 1 f.2.2)=true)
 {parts:Array (Nat×Operand)} (am:o.op = .build t parts) {b9:List (Nat×D)} (kf:mapM' (fun(x:Nat×Operand)=>(rd g.env g.bB p tt (oE tt t x.1) x.2).map λd=>(x.1,d)) parts.toList=some b9)
 {zs:List D} (qO:∀(r:Row P t aB),Cells M β r.z.cells.toList zs) {cs:List D} (a7:oC (fun(i:Nat)=>(b2[i]?).map fun(f:Nat×TypeId×Nat)=>(f.1,f.2.2)) zs b9=some cs) {rs:List eD}:
 Yields P K M β g {e:=some {d:=nA cs},rs} o tmps w:=by
 obtain⟨r⟩:=dN b4 ab;obtain⟨gs,hd,Df⟩:=C6 r hk;obtain⟨Z,ad⟩:=De h hp kf;obtain⟨cells,vh,hc⟩:=Db Z ad (qO r) a7
 have yG:∀f,f∈gs.toList→1≤P.cellsOf f.type:=by
  intro fd kH;rw [List.all_eq_true]at nH;have:=nH (fd.offset,fd.type,P.cellsOf fd.type) (by rw [Df];exact List.mem_map.2 ⟨fd,kH,rfl⟩)
  simpa using this
 have m1:(fun(i:Nat)=>(gs.map λf=>(f.offset,P.cellsOf f.type))[i]?)=fun(i:Nat)=>(b2[i]?).map fun(f:Nat×TypeId×Nat)=>(f.1,f.2.2):=by
  funext i
  rw [Df];cases hi:gs[i]? <;> simp [hi]
 refine el h (v:=.agg cells) ?_ ?_
 ·simp only [execOp,am];refine hN _ ?_;have Tv:=run_places (P:=P) (w:=w) Df yG;simp only [Instr.build,Sem.run_bind,r.yz,Result.andThen_ok,r.run_underlying,hd,Tv,m1];have:Instr.fill (fun(i:Nat)=>(b2[i]?).map fun(f:Nat×TypeId×Nat)=>(f.1,f.2.2)) r.z.cells (parts.map fun(x:Nat×Operand)=>(x.1,(⟨tmps,[]⟩:Act).eval x.2)).toList=some cells:=vh
  rw [this];rfl
 ·have:=yA hc.len hc.one hc.rep
  simpa using this
def Tw(h:eW P K N M β g tmps w)(hp:e7 tmps p)(b4:eI P tt=true){t:TypeId}{aB:dS}(ab:look tt t=some aB){n:Nat}{e:TypeId}(hk:aB.k = .arr n e){bN:dS}(d9:look tt e=some bN)
 {parts:Array (Nat×Operand)} (am:o.op = .build t parts) {b9:List (Nat×D)} (kf:mapM' (fun(x:Nat×Operand)=>(rd g.env g.bB p tt (oE tt t x.1) x.2).map λd=>(x.1,d)) parts.toList=some b9)
 {cs:List D} (a7:oC (λi=>some (i*bN.size,bN.size)) (aB.zero.map .v) b9=some cs):
 Yields P K M β g {e:=some {d:=nA cs},rs:=g.rs} o tmps w:=by
 obtain⟨r⟩:=dN b4 ab;obtain⟨ak⟩:=dN b4 d9;obtain⟨Z,ad⟩:=De h hp kf;obtain⟨cells,vh,hc⟩:=Db Z ad (r.Kd (β:=β)) a7;refine el h (v:=.agg cells) ?_ ?_
 ·simp only [execOp,am];refine hN _ ?_;simp only [Instr.build,Sem.run_bind,r.yz,Result.andThen_ok,r.run_underlying,Tj r hk,ak.run_sizeOf];have:Instr.fill (λi=>some (i*bN.size,bN.size)) r.z.cells (parts.map fun(x:Nat×Operand)=>(x.1,(⟨tmps,[]⟩:Act).eval x.2)).toList=some cells:=vh
  rw [this];rfl
 ·have:=yA hc.len hc.one hc.rep
  simpa using this
end
section
variable {P:Program} {K:Ctx} {N:Nat} {M:Mem} {β:Nat→Option Nat} {g:cG} {tmps:Array Value} {w:World} {o:Oper} {f:ji} {p:Path} {tt:c7} {bL:fw} {ops:List Oper}
def hA(M:Mem)(b:Nat)(lo:Nat)(vs:List Value):Mem:=λbl o=>if bl=b∧lo≤o∧o<lo+vs.length then vs[o-lo]? else M bl o
def Dg{b lo:Nat}{vs:List Value}(h:∀o,lo≤o→M b o=none):M.le (hA M b lo vs):=by
 intro bl o v ar;unfold hA;split
 ·rename_i hc;obtain⟨rfl,Z,ad⟩:=hc;rw [h o Z]at ar;cases ar
 ·exact ar
def yH{b lo:Nat}{vs:List Value}{i:Nat}{v:Value}(h:vs[i]? = some v):hA M b lo vs b (lo+i)=some v:=by
 have hi:i<vs.length:=(List.getElem?_eq_some_iff.1 h).1;unfold hA;rw [if_pos ⟨rfl,by omega,by omega⟩,show lo+i-lo=i by omega,h]
def Tx{k:Nat}{n:Nat}{cells:List Value}(ab:cells.length=n*k){i j:Nat}(hi:i<n)(hj:j<k):cells[i*k+j]? = some (cells.getD (i*k+j) undef):=by
 have:i*k+j<cells.length:=by
  have Z:(i+1)*k≤n*k:=Nat.mul_le_mul_right k hi;rw [Nat.add_mul]at Z;omega
 simp [List.getD,List.getElem?_eq_getElem this]
def bo.newRow{st:az}(h:bo P K M β st tmps w){vs:List Value}{T:TypeId}{n:Nat}{w':World}(hw:w'.heap=w.heap.push (.cells ⟨vs⟩ T (0,0)))(mi:(w'.os,w'.output)=(w.os,w.output):=by rfl):
 bo P K (hA M w.heap.size 0 (vs.take n)) β st tmps w'∧M.le (hA M w.heap.size 0 (vs.take n)):=by
 have cr:M.le (hA M w.heap.size 0 (vs.take n)):=Dg λo _=>h.C7 o
 refine⟨h.free w.heap.size ?_ ?_ ?_ ?_ cr ?_ ?_ mi,cr⟩
 ·cases da:K.F w.heap.size with
  |none=>rfl
  |some aL=>have:=lt_of_heap (h.frame _ aL da).1;omega
 ·intro r cs ai hb;have:=h.vc ai hb;omega
 ·intro l e T ab aG hb;have:=(h.own l e T ab aG).lt hb;omega
 ·intro bl _ bw;rw [hw];simp [Array.getElem?_push,Nat.ne_of_lt bw]
 ·intro bl o bw;simp [hA,bw]
 ·intro o v ar;unfold hA at ar;split at ar
  ·rename_i hc;simp only [Nat.sub_zero]at ar;rw [List.getElem?_take]at ar;split at ar
   ·have:w'.heap[w.heap.size]? = some (.cells ⟨vs⟩ T (0,0)):=by rw [hw];simp
    rw [cell_of_heap this,ar]
   ·cases ar
  ·rw [h.C7 o]at ar;cases ar
def Dh{st:az}(h:bo P K M β st tmps w){l0:Loc}{T:TypeId}{vs:List Value}{T':TypeId}(oM:T'=T){n cap:Nat}{w':World}(hw:w'.heap=w.heap.push (.cells ⟨vs⟩ T' (0,0)))(hn:n≤cap)
 (hcap:cap*P.cellsOf T≤vs.length):k5 P K (hA M w.heap.size 0 (vs.take (n*P.cellsOf T))) β st tmps w' l0 (.slice (some ⟨w.heap.size,0,none⟩) n cap) T:=by
 have qP:w'.heap[w.heap.size]? = some (.cells ⟨vs⟩ T' (0,0)):=by rw [hw];simp
 refine⟨.inr ⟨w.heap.size,n,cap,vs,T',rfl,hn,qP,hcap,λo am=>?_,?_,oM⟩,?_,?_⟩
 ·have hle:n*P.cellsOf T≤vs.length:=Nat.le_trans (Nat.mul_le_mul_right _ hn) hcap;unfold hA;rw [if_neg,h.C7 o]
  rintro ⟨_,_,al⟩
  simp only [List.length_take]at al;omega
 ·cases da:K.F w.heap.size with
  |none=>rfl
  |some aL=>have:=lt_of_heap (h.frame _ aL da).1;omega
 ·intro l e mW b ab aG _ hb bw;simp [gp]at hb;subst hb
  have hold:b0 tmps w' β l=b0 tmps w β l:=by
   cases l with
   |slot s=>rfl
   |cell r i=>
    simp only [az.at]at ab;cases ai:look st.H r with
    |none=>simp [ai]at ab
    |some cs=>
     obtain⟨cH,iz,f0,cK,bf,_⟩:=h.box r cs ai;simp only [b0,cK];rw [oH (w:=w) (by rw [hw];simp [Array.getElem?_push,Nat.ne_of_lt (lt_of_heap bf)])]
  rw [hold]at bw;have:=(h.own l e mW ab aG).lt bw
  omega
 ·intro b r cs hb ai bw;simp [gp]at hb;subst hb;have:=h.vc ai bw
  omega
def Kf{size:Nat}:∀(l:List (Nat×Value)) (m:Nat) (cells:Array Value),(∀(i:Nat) x,l[i]? = some x→x.1=m+i∧x.2.cells.size=size)→(m+l.length)*size≤cells.size→
 ∃h4,Instr.fill (λi=>some (i*size,size)) cells l=some h4∧h4.size=cells.size∧(∀i,i<m*size→h4[i]? = cells[i]?)∧
  ∀(i:Nat) x (j:Nat) u,l[i]? = some x→x.2.cells[j]? = some u→h4[(m+i)*size+j]? = some u
 |[],m,cells,_,_=>⟨cells,rfl,rfl,λ_ _=>rfl,by simp⟩
 |(a,v)::l,m,cells,ab,hle=>by
  obtain⟨ha,dz⟩:=ab 0 (a,v) (by simp)
  simp only [Nat.add_zero]at ha;simp only at dz
  subst ha
  have adq:a*size+size≤cells.size:=by
   have Z:(a+1)*size≤(a+((a,v)::l).length)*size:=Nat.mul_le_mul_right _ (by simp)
   rw [Nat.add_mul,Nat.one_mul]at Z;omega
  have a7:=Da (a*size) v.cells.toList 0 cells (by simp [dz];omega)
  have Dd:v.cells.zipIdx.foldl (λcs (x:Value×Nat)=>cs.setIfInBounds (a*size+x.2) x.1) cells=(v.cells.toList.zipIdx 0).foldl (λcs (x:Value×Nat)=>cs.setIfInBounds (a*size+x.2) x.1) cells:=by
   rw [←Array.foldl_toList,Array.toList_zipIdx]
  rw [←Dd]at a7;generalize iX:v.cells.zipIdx.foldl (λcs (x:Value×Nat)=>cs.setIfInBounds (a*size+x.2) x.1) cells=c1 at a7
  obtain⟨h4,Z,ad,al,aH⟩:=Kf l (a+1) c1 (λi x hx=>by
   obtain⟨Z,ad⟩:=ab (i+1) x (by simpa using hx)
   exact⟨by omega,ad⟩) (by rw [a7.1];simpa [Nat.add_assoc,Nat.add_comm 1]using hle)
  refine⟨h4,?_,by rw [ad,a7.1],λi hi=>?_,λi x j u hx hu=>?_⟩
  ·simp only [Instr.fill];rw [if_neg (by simp [dz];omega)]
   have:v.cells.zipIdx.foldl (λcs (c,j)=>cs.setIfInBounds (a*size+j) c) cells=c1:=iX
   rw [this];exact Z
  ·rw [al i (by rw [Nat.add_mul];omega),a7.2 i,if_neg (by omega)]
  ·cases i with
   |zero=>
    simp at hx;subst hx
    simp only at hu
    have hj:j<size:=by rw [←dz];exact(Array.getElem?_eq_some_iff.1 hu).1
    rw [Nat.add_zero,al _ (by rw [Nat.add_mul,Nat.one_mul];omega),a7.2,if_pos (by simp [dz];omega)]
    simpa using hu
   |succ i=>
    have:=aH i x j u (by simpa using hx) hu
    rw [show a+(i+1)=a+1+i by omega];exact this
def Kg{oN:Bool}{size:Nat}:∀{b9:List (Nat×D)} {n:Nat} {xs:List V},elems oN size n b9=some xs→xs.length=b9.length∧
 ∀(i:Nat) y x,b9[i]? = some y→xs[i]? = some x→y=(n+i,.v x)∧x.cells.length=size∧x.isAgg=oN
 |[],n,xs,h=>by simp [elems]at h;subst h;simp
 |(j,d)::b9,n,xs,h=>by
  cases d<;>simp only [elems]at h<;>try cases h
  rename_i fm;rw [Bool.cond_eq_ite]at h;split at h
  case isFalse=>cases h
  rename_i hb;simp only [Bool.and_eq_true,Nat.beq_eq,beq_iff_eq]at hb;obtain⟨⟨cK,fl⟩,Dc⟩:=hb;simp only [Option.map_eq_some_iff]at h;obtain⟨ys,bX,rfl⟩:=h;obtain⟨Z,ad⟩:=Kg bX;refine⟨by simp [Z],λi y x hi hx=>?_⟩
  cases i with
  |zero=>simp at hi hx;subst hi;subst hx;exact⟨by simp [cK],fl,Dc⟩
  |succ i=>
   simp at hi hx
   obtain⟨al,aH⟩:=ad i y x hi hx;exact⟨by rw [al];simp;omega,aH⟩
def Ty(h:eW P K N M β g tmps w)(hp:e7 tmps p)(b4:eI P tt=true){t e:TypeId}{aB bN:dS}(ab:look tt t=some aB)(hk:aB.k = .bm e)(d9:look tt e=some bN){len:Nat}
 {parts:Array (Nat×Operand)} (am:o.op = .buildSlice t len parts) {b9:List (Nat×D)} (kf:mapM' (fun(x:Nat×Operand)=>(rd g.env g.bB p tt (oE tt t x.1) x.2).map λd=>(x.1,d)) parts.toList=some b9)
 {xs:List V} (hx:elems bN.k.isAgg bN.size 0 b9=some xs) (hlen:xs.length=len) (_hs:1≤bN.size) (hb:len*bN.size≤16777216) {x:V} (ar:fX (.bm bN.size len λi=>xs.getD i .dD) x) {rs:List eD} {aL:List Prop}:
 Yields P K M β g {e:=some {d:=.v x,own:=some e},rs,aL} o tmps w:=by
 obtain⟨r⟩:=dN b4 ab;obtain⟨db⟩:=dN b4 d9;obtain⟨Z,ad⟩:=De h hp kf;obtain⟨adr,Di⟩:=Kg hx;generalize vi:(parts.map fun(x:Nat×Operand)=>(x.1,(⟨tmps,[]⟩:Act).eval x.2))=pa at Z ad
 generalize k7:pa.toList=vs at Z ad
 have m1:vs.length=len:=by omega
 have gz:∀(i:Nat) b,vs[i]? = some b→∃x,xs[i]? = some x∧b.1=i∧cw M b.2 x∧x.cells.length=bN.size:=by
  intro i b hi;have CU:i<vs.length:=(List.getElem?_eq_some_iff.1 hi).1;have ha:b9[i]? = some b9[i]:=List.getElem?_eq_getElem (by omega)
  have k8:xs[i]? = some xs[i]:=List.getElem?_eq_getElem (by omega)
  obtain⟨al,aH,_⟩:=Di i _ _ ha k8;obtain⟨a6,bT⟩:=ad i _ b ha hi;rw [al]at a6 bT;exact⟨_,k8,by simpa using a6.symm,lR bT,aH⟩
 have m4:∀(i:Nat) b,vs[i]? = some b→∃x,xs[i]? = some x∧b.1=i∧b.2.cells.size=bN.size∧(∀u,u∈b.2.cells.toList→u.oneCell'=true)∧∀(j:Nat) u c,b.2.cells.toList[j]? = some u→x.cells[j]? = some c→cw M u c:=by
  intro i b hi;obtain⟨x,al,aH,a6,bT⟩:=gz i b hi;obtain⟨cI,dO,gX⟩:=(b3.v (β:=β) _ _ a6).cells rfl;refine⟨x,al,aH,by simp [cellsD]at cI;omega,dO,λj u c hu hc=>?_⟩
  exact lR (gX j u (.v c) hu (by simp [cellsD,hc]))
 obtain⟨h4,py,vj,ads,Tz⟩:=Kf (size:=bN.size) vs 0 ((Array.range (len*bN.size)).map λi=>db.z.cells[i % db.z.cells.size]!) (λi x hi=>by
  obtain⟨y,al,aH,a6,_⟩:=m4 i x hi;exact⟨by omega,a6⟩) (by simp [m1])
 have dz:h4.size=len*bN.size:=by rw [vj];simp
 have gW:∀i j,i<len→j<bN.size→∃b u,vs[i]? = some b∧b.2.cells.toList[j]? = some u∧h4.toList[i*bN.size+j]? = some u:=by
  intro i j hi hj;have ek:vs[i]? = some vs[i]:=List.getElem?_eq_getElem (by omega)
  obtain⟨y,al,aH,a6,_⟩:=m4 i _ ek;have hu:vs[i].2.cells[j]? = some vs[i].2.cells[j]:=Array.getElem?_eq_getElem (by omega)
  refine⟨vs[i],vs[i].2.cells[j],ek,(Array.getElem?_toList ..).trans hu,?_⟩
  have:=Tz i _ j _ ek hu
  simpa using this
 have et:(execOp (Act.eval ⟨tmps,[]⟩) o).run P w = .ok (.value (.slice (some ⟨w.heap.size,0,none⟩) len len)) {w with heap:=w.heap.push (.cells ⟨h4.toList⟩ e (0,0))}:=by
  simp only [execOp,am];refine hN _ ?_;have bw:¬ (16777216<len*bN.size):=by omega
  have TA:(parts.map fun(x:Nat×Operand)=>match x with|(i,x)=>(i,(⟨tmps,[]⟩:Act).eval x))=pa:=vi
  rw [TA];simp only [Instr.buildSlice,Sem.run_bind,r.run_underlying,mY r hk,Result.andThen_ok,db.run_sizeOf];by_cases h0:len*bN.size=0
  ·have bW:∀f:Nat→Value,(Array.range (len*bN.size)).map f = #[]:=by intro f;rw [h0];simp
   rw [bW]at py;have e1:∀f:Nat→Value,(Array.range 0).map f = #[]:=by intro f;simp
   simp [h0,k7,e1,py,newRow]
  ·simp [h0,bw,db.yz,k7,py,newRow]
 obtain⟨ci,hle⟩:=h.bd.newRow (w':={w with heap:=w.heap.push (.cells ⟨h4.toList⟩ e (0,0))}) (T:=e) (vs:=h4.toList) (n:=len*bN.size) rfl;have vk:h4.toList.take (len*bN.size)=h4.toList:=List.take_of_length_le (by simp [dz])
 refine .inl ⟨_,_,et,_,β,hle,λ_ _ h=>h,λ_ _ h=>.inl h,ci,λe1 he=>?_⟩
 cases he;refine⟨.v _ _ (ar _ _ (.bm _ 0 bN.size len len _ (λi j=>h4.toList.getD (i*bN.size+j) undef) (Nat.le_refl _) ?_ ?_ ?_ ?_)),λT l0 aG=>?_⟩
 ·intro i hi;have k8:xs[i]? = some xs[i]:=List.getElem?_eq_getElem (by omega)
  have ha:b9[i]? = some b9[i]:=List.getElem?_eq_getElem (by omega)
  simp only [List.getD,k8,Option.getD_some];exact(Di i _ _ ha k8).2.1
 ·intro i j hi hj;obtain⟨b,u,_,_,hu⟩:=gW i j hi hj;rw [vk,Nat.zero_add];have:=yH (M:=M) (b:=w.heap.size) (lo:=0) hu
  simpa [List.getD,hu]using this
 ·intro i j hi hj;obtain⟨b,u,cK,Dj,hu⟩:=gW i j hi hj;obtain⟨y,_,_,_,bT,_⟩:=m4 i b cK;simp only [List.getD,hu,Option.getD_some];exact yF bT Dj
 ·intro i j c hi hc;have k8:xs[i]? = some xs[i]:=List.getElem?_eq_getElem (by omega)
  simp only [List.getD,k8,Option.getD_some]at hc
  have hj:j<bN.size:=by
   have ha:b9[i]? = some b9[i]:=List.getElem?_eq_getElem (by omega)
   rw [←(Di i _ _ ha k8).2.1];exact(List.getElem?_eq_some_iff.1 hc).1
  obtain⟨b,u,cK,Dj,hu⟩:=gW i j hi hj;obtain⟨y,bX,_,_,_,cI⟩:=m4 i b cK;rw [k8]at bX;cases bX;simp only [List.getD,hu,Option.getD_some];exact(cI j u c Dj hc).mono hle
 ·cases aG;have:=Dh (l0:=l0) (T:=e) h.bd (vs:=h4.toList) (T':=e) (n:=len) (cap:=len) (w':={w with heap:=w.heap.push (.cells ⟨h4.toList⟩ e (0,0))}) rfl rfl (Nat.le_refl _) (by rw [db.cellsOf];simp [dz])
  rw [db.cellsOf]at this;exact this
end
section
variable {P:Program} {K:Ctx} {N:Nat} {M:Mem} {β:Nat→Option Nat} {g:cG} {tmps:Array Value} {w:World} {o:Oper} {f:ji} {p:Path} {tt:c7} {bL:fw} {ops:List Oper}
def TB(h:eW P K N M β g tmps w)(hp:e7 tmps p)(b4:eI P tt=true){t:TypeId}{aB:dS}(ab:look tt t=some aB){a:Operand}(am:o.op = .load t a){q off:Nat}(ha:rd g.env g.bB p tt o.type a=some (.ptr q off))
 {cs:List aM} (ax:look g.H q=some cs) (h5:aB.k.isAgg=true) (hle:off+aB.size≤cs.length):
 Yields P K M β g {e:=some {d:=nA (((cs.drop off).take aB.size).map (·.d))},rs:=g.rs} o tmps w:=by
 obtain⟨r⟩:=dN b4 ab;obtain⟨b,hb,ar⟩:=oK (dp (ds:=[]) h hp ha);obtain⟨bl,vs,T,bw,bf,hlen,_,_,hz,kD⟩:=h.bd.box q cs ax;rw [hb]at bw;cases bw;have et:=J1 (P:=P) (w:=w) r (off:=off) bf (by omega) h5
 refine el h (v:=.agg ⟨(vs.drop off).take aB.size⟩) ?_ ?_
 ·simp only [execOp,am];rw [ar];exact hN _ et
 ·refine yA (by simp;omega) (λv ar=>hz v (List.mem_of_mem_drop (List.mem_of_mem_take ar))) (λi v c ar hc=>?_)
  rw [List.getElem?_map,Option.map_eq_some_iff]at hc;obtain⟨e,he,rfl⟩:=hc;rw [List.getElem?_take]at ar he;split at ar
  ·rename_i hi;rw [if_pos hi,List.getElem?_drop]at he;rw [List.getElem?_drop]at ar;have:=h.bd.eE (.cell q (off+i)) e (by simp [az.at,ax,he])
   simpa [b0,hb,cell_of_heap bf,ar]using this
  ·cases ar
def TC(h:eW P K N M β g tmps w)(hp:e7 tmps p)(b4:eI P tt=true){t:TypeId}{aB:dS}(ab:look tt t=some aB){a:Operand}(am:o.op = .load t a){q off:Nat}(ha:rd g.env g.bB p tt o.type a=some (.ptr q off))
 {cs:List aM} (ax:look g.H q=some cs) (h5:aB.k.isAgg=false) {e:aM} (he:cs[off]? = some e):
 Yields P K M β g {e:=some {d:=e.d},rs:=g.rs} o tmps w:=by
 obtain⟨r⟩:=dN b4 ab;obtain⟨b,hb,ar⟩:=oK (dp (ds:=[]) h hp ha);obtain⟨bl,vs,T,v,bw,bf,ek,bO⟩:=CT h.bd ax he;rw [hb]at bw;cases bw;have hc:w.cell? ⟨b,off,none⟩=some v:=by rw [cell_of_heap bf,ek]
 refine el h (v:=v) ?_ ?_
 ·simp only [execOp,am];rw [ar];exact hN _ (C5 (P:=P) r hc h5)
 ·have:=h.bd.eE (.cell q off) e (by simp [az.at,ax,he])
  rwa [bO]at this
def Kh{cs:List aM}{off:Nat}{e:aM}(cB:off<cs.length)(i:Nat):(setAt cs off [e])[i]? = if i=off then some e else cs[i]? := by
 rw [(oL cs off [e] (by simp;omega)).2 i]
 by_cases hi:i=off
 ·subst hi;simp
 ·rw [if_neg (by simp;omega),if_neg hi]
def TD(h:eW P K N M β g tmps w)(hp:e7 tmps p)(b4:eI P tt=true){t:TypeId}{aB:dS}(ab:look tt t=some aB){a:Operand}(am:o.op = .load t a){q off:Nat}(ha:rd g.env g.bB p tt o.type a=some (.ptr q off))
 {cs:List aM} (ax:look g.H q=some cs) (h5:aB.k.isAgg=false) {e:aM} (he:cs[off]? = some e) {s:TypeId} (hs:e.own=some s) {rs:List eD}:
 Yields P K M β g {e:=some e,hs:=[(q,setAt cs off [{d:=e.d}])],rs} o tmps w:=by
 obtain⟨r⟩:=dN b4 ab;obtain⟨b,hb,ar⟩:=oK (dp (ds:=[]) h hp ha);obtain⟨bl,vs,T,v,bw,bf,ek,bO⟩:=CT h.bd ax he;rw [hb]at bw;cases bw;have hc:w.cell? ⟨b,off,none⟩=some v:=by rw [cell_of_heap bf,ek]
 have cB:off<cs.length:=(List.getElem?_eq_some_iff.1 he).1
 have kE:=λl0=>h.bd.JV ax he hs (cs':=setAt cs off [{d:=e.d}]) (oL cs off _ (by simp;omega)).1 (λj a1 hj=>by
  rw [Kh cB]at hj;by_cases Dk:j=off
  ·subst Dk;simp at hj;subst hj;exact⟨e,he,rfl,by simp⟩
  ·rw [if_neg Dk]at hj;exact⟨a1,hj,rfl,λT aG=>⟨aG,Dk⟩⟩) l0
 refine .inl ⟨v,w,?_,M,β,Mem.le_refl _,λ_ _ h=>h,λ_ _ h=>.inl h,(kE (.slot 0)).1,λe1 oO=>?_⟩
 ·simp only [execOp,am];rw [ar];exact hN _ (C5 (P:=P) r hc h5)
 ·cases oO;refine⟨?_,λT l0 aG=>?_⟩
  ·have:=h.bd.eE (.cell q off) e (by simp [az.at,ax,he])
   rwa [bO]at this
  ·rw [hs]at aG;cases aG;have:=(kE l0).2
   rwa [bO]at this
def TE(h:eW P K N M β g tmps w)(hp:e7 tmps p)(b4:eI P tt=true){t:TypeId}{aB:dS}(ab:look tt t=some aB){a:Operand}(am:o.op = .load t a){x:V}(ha:rd g.env g.bB p tt o.type a=some (.eg x))
 (h5:x.isAgg=aB.k.isAgg) (hs:x.cells.length=aB.size):Yields P K M β g {e:=some {d:=.v x},rs:=g.rs} o tmps w:=by
 obtain⟨r⟩:=dN b4 ab;obtain⟨u,Z,ad⟩:=Ti (w:=w) r h.bd.mem (dp (ds:=[]) h hp ha) h5 hs;exact el h (v:=u) (by simp only [execOp,am];exact hN _ Z) (.v _ _ ad)
def Ki{t:TypeId}{aB:dS}(r:Row P t aB){b off:Nat}{vs:List Value}{T:TypeId}(bf:w.heap[b]? = some (.cells ⟨vs⟩ T (0,0))){v:Value}(hs:v.cells.size=aB.size)(hz:∀u,u∈v.cells.toList→u.oneCell'=true)
 (hle:off+aB.size≤vs.length):(Instr.storeAt t (.pointer (some ⟨b,off,none⟩)) v).run P w = .ok () (w.setRow b (vs.take off++v.cells.toList++vs.drop (off+aB.size)).toArray):=by
 have:=run_storeCells_at P b off T v.cells.toList 0 ⟨vs⟩ w bf (by simpa [hs]using hle) hz
 simp only [Nat.add_zero,Array.length_toList,hs]at this;simp [Instr.storeAt,Instr.sureAddr,storeVar,r.run_sizeOf,hs,this]
def Dl{vs us:List Value}{off:Nat}(hle:off+us.length≤vs.length)(i:Nat):(vs.take off++us++vs.drop (off+us.length))[i]? = if off≤i∧i<off+us.length then us[i-off]? else vs[i]? := by
 have bH:(vs.take off).length=off:=by simp;omega
 by_cases Z:i<off
 ·rw [if_neg (by omega),List.append_assoc,List.getElem?_append_left (by omega),List.getElem?_take,if_pos Z]
 ·by_cases ad:i<off+us.length
  ·rw [if_pos (by omega),List.append_assoc,List.getElem?_append_right (by omega),bH,List.getElem?_append_left (by omega)]
  ·rw [if_neg (by omega),List.getElem?_append_right (by simp;omega),List.getElem?_drop]
   congr 1
   simp;omega
def vl{vs us:List Value}{off:Nat}(hle:off+us.length≤vs.length):(vs.take off++us++vs.drop (off+us.length)).length=vs.length:=by
 simp;omega
def Kj{vs us:List Value}{off:Nat}(Z:∀v,v∈vs→v.oneCell'=true)(ad:∀v,v∈us→v.oneCell'=true):∀v,v∈vs.take off++us++vs.drop (off+us.length)→v.oneCell'=true:=by
 intro v ar;rcases List.mem_append.1 ar with ar|ar
 ·rcases List.mem_append.1 ar with ar|ar
  ·exact Z v (List.mem_of_mem_take ar)
  ·exact ad v ar
 ·exact Z v (List.mem_of_mem_drop ar)
def Kk{v:Value}{t:TypeId}{a x:Operand}(am:o.op = .store t a x)(hx:(⟨tmps,[]⟩:Act).eval x=v){gi:Value}(ha:(⟨tmps,[]⟩:Act).eval a=gi){w':World}(h:(Instr.storeAt t gi v).run P w = .ok () w'):
 (execOp (Act.eval ⟨tmps,[]⟩) o).run P w = .ok .skip w':=by
 simp only [execOp,am,hx,ha];simp [h]
def jm.set{T:TypeId}{n:Nat}{cs ds:List aM}{off:Nat}(h:jm P T n cs)(hn:∀e,e∈ds→∀r o u,e.d ≠ .bZ r o u)(hle:off+ds.length≤cs.length):jm P T n (setAt cs off ds):=λe he r o u hd=>by
 obtain⟨i,hi,rfl⟩:=List.getElem_of_mem he;have hg:(setAt cs off ds)[i]? = some (setAt cs off ds)[i]:=List.getElem?_eq_getElem hi;rw [(oL cs off ds hle).2 i]at hg;split at hg
 ·exact absurd hd (hn _ (List.mem_of_getElem? hg) r o u)
 ·exact h _ (List.mem_of_getElem? hg) r o u hd
def TF(h:eW P K N M β g tmps w)(hp:e7 tmps p)(b4:eI P tt=true){t:TypeId}{aB:dS}(ab:look tt t=some aB){a x:Operand}(am:o.op = .store t a x){q off:Nat}(ha:rd g.env g.bB p tt o.type a=some (.ptr q off))
 {cs:List aM} (ax:look g.H q=some cs) {d:D} (hx:rd g.env g.bB p tt t x=some d) (bH:oB d=false) (pw:po (cellsD d)=true) (hs:(cellsD d).length=aB.size) (hle:off+aB.size≤cs.length):
 Yields P K M β g {e:=none,hs:=[(q,setAt cs off ((cellsD d).map λd=>{d}))],rs:=g.rs} o tmps w:=by
 obtain⟨r⟩:=dN b4 ab;obtain⟨b,hb,ar⟩:=oK (dp (ds:=[]) h hp ha);obtain⟨bl,vs,T,bw,bf,hlen,_,_,hz,kD⟩:=h.bd.box q cs ax;rw [hb]at bw;cases bw;obtain⟨Z,ad,al⟩:=(dp (ds:=[]) h hp hx).cells bH;generalize hu:(⟨tmps,[]⟩:Act).eval x=u at Z ad al
 have Kl:u.cells.size=aB.size:=by simp at Z;omega
 have qQ:u.cells.toList.length=aB.size:=by simpa using Kl
 have et:=Ki (P:=P) r (off:=off) bf Kl ad (by omega)
 rw [←qQ]at et;refine .inr (.inl ⟨rfl,_,Kk am hu ar et,M,β,Mem.le_refl _,λ_ _ h=>h,λ_ _ h=>.inl h,?_,λe he=>by cases he⟩)
 have s4:=oL cs off ((cellsD d).map λd=>({d}:aM)) (by simp;omega)
 refine h.bd.CV ax hb bf (vs':=vs.take off++u.cells.toList++vs.drop (off+u.cells.toList.length)) (by rw [vl (by omega),s4.1,hlen]) (Kj hz ad) (λ_=>by
  rw [vl (by omega)]
  refine kD.set (λe he=>?_) (by simp;omega)
  obtain⟨c,hc,rfl⟩:=List.mem_map.1 he;exact yt pw c hc) s4.1
  (setRow_heap w b _ _ T (0,0) bf) (λbl dt=>setRow_other w b bl _ dt) cs.length (λi v e ek kI=>?_)
 rw [Dl (by omega)]at ek
 rw [s4.2]at kI;simp only [List.length_map]at kI;by_cases hi:off≤i∧i<off+aB.size
 ·rw [if_pos (by omega)]at ek
  rw [if_pos (by omega),List.getElem?_map,Option.map_eq_some_iff]at kI
  obtain⟨c,hc,rfl⟩:=kI;exact⟨al _ v c ek hc,by simp⟩
 ·rw [if_neg (by omega)]at ek
  rw [if_neg (by omega)]at kI
  have pz:i<cs.length:=(List.getElem?_eq_some_iff.1 kI).1;refine⟨?_,λT aG=>.inl ⟨by omega,⟨e,kI,aG⟩,ek⟩⟩
  have:=h.bd.eE (.cell q i) e (by simp [az.at,ax,kI])
  simpa [b0,hb,cell_of_heap bf,ek]using this
def Km(ty:Nat→Option TypeId):∀(l:List aM) (n:Nat),(nC ty n l).length=l.length∧∀(i:Nat) a1,(nC ty n l)[i]? = some a1→∃e,l[i]? = some e∧((e.d=a1.d∧∀T,a1.own=some T→e.own=some T)∨∃k g,e.d = .v (.me k g)∧a1.d = .v (.bm k 0 g))
 |[],n=>by simp [nC]
 |e::l,n=>by
  obtain⟨Z,ad⟩:=Km ty l (n+1);refine⟨by simp [nC,Z],λi a1 he=>?_⟩
  cases i with
  |zero=>
   simp only [nC,List.getElem?_cons_zero,Option.some.injEq]at he;refine⟨e,rfl,?_⟩
   split at he
   ·rename_i k g hd;subst he;exact .inr ⟨k,g,hd,rfl⟩
   ·subst he;exact .inl ⟨rfl,λ_ h=>h⟩
  |succ i=>simp only [nC,List.getElem?_cons_succ]at he ⊢;exact ad i a1 he
def TG(h:eW P K N M β g tmps w)(hp:e7 tmps p)(b4:eI P tt=true){t:TypeId}{aB:dS}(ab:look tt t=some aB){a x:Operand}(am:o.op = .store t a x){q off:Nat}(ha:rd g.env g.bB p tt o.type a=some (.ptr q off))
 {cs:List aM} (ax:look g.H q=some cs) {d:D} (hx:rd g.env g.bB p tt t x=some d) (bH:oB d=false) (pw:po (cellsD d)=true) (hs:(cellsD d).length=aB.size) (hle:off+aB.size≤cs.length) (ty:Nat→Option TypeId):
 Yields P K M β g {e:=none,hs:=[(q,nC ty 0 (setAt cs off ((cellsD d).map λd=>{d})))],rs:=g.rs} o tmps w:=by
 have up:∀{M':Mem} {β':Nat→Option Nat} {v:Value} {w':World},gV P K M β g {e:=none,hs:=[(q,setAt cs off ((cellsD d).map λd=>{d}))],rs:=g.rs} tmps v w'→
  gV P K M β g {e:=none,hs:=[(q,nC ty 0 (setAt cs off ((cellsD d).map λd=>{d})))],rs:=g.rs} tmps v w':=by
  rintro M' β' v w' ⟨vm,vn,Z,ad,al,aH,_⟩
  refine⟨vm,vn,Z,ad,λr b hb=>?_,?_,λe he=>by cases he⟩
  ·rcases al r b hb with a6|a6
   ·exact .inl a6
   ·right
    simp only [de]at a6 ⊢;split at a6
    ·rename_i qR;simp [qR]
    ·cases a6
  ·obtain⟨g1,g2⟩:=Km ty (setAt cs off ((cellsD d).map λd=>({d}:aM))) 0
   refine aH.S4 rfl (λl a1 cY=>?_) (λr cs' ai=>?_)
   ·cases l with
    |slot s=>exact⟨a1,cY,.inl ⟨rfl,λ_ h=>h⟩⟩
    |cell r i=>
     simp only [az.at,after,List.cons_append,List.nil_append,de]at cY ⊢;by_cases qR:q=r
     ·simp only [qR,if_true,Option.bind_some]at cY ⊢;exact g2 i a1 cY
     ·simp only [qR,if_false]at cY ⊢;exact⟨a1,cY,.inl ⟨rfl,λ_ h=>h⟩⟩
   ·simp only [after,List.cons_append,List.nil_append,de]at ai ⊢;by_cases qR:q=r
    ·simp only [qR,if_true,Option.some.injEq]at ai ⊢;subst ai;exact⟨_,rfl,g1.symm⟩
    ·simp only [qR,if_false]at ai ⊢;exact⟨cs',ai,rfl⟩
 rcases TF h hp b4 ab am ha ax hx bH pw hs hle with⟨v,w',Z,ad⟩|⟨h0,w',Z,ad⟩|⟨fn,vs,Z,ad⟩
 ·exact .inl ⟨v,w',Z,up (M':=M) (β':=β) ad⟩
 ·exact .inr (.inl ⟨h0,w',Z,up (M':=M) (β':=β) ad⟩)
 ·exact .inr (.inr ⟨fn,vs,Z,ad.mono λe w' ⟨v,al,aH⟩=>⟨v,al,up (M':=M) (β':=β) aH⟩⟩)
def Kn(h:eW P K N M β g tmps w)(hp:e7 tmps p)(b4:eI P tt=true){t:TypeId}{aB:dS}(ab:look tt t=some aB){a x:Operand}(am:o.op = .store t a x){q off:Nat}(ha:rd g.env g.bB p tt o.type a=some (.ptr q off))
 {cs:List aM} (ax:look g.H q=some cs) {k n:Nat} {get:Nat→V} (hx:rd g.env g.bB p tt t x=some (.v (.bm k n get))) (hs:aB.size=1) (hle:off+aB.size≤cs.length) {s:TypeId} {l:List Nat}
 (fj:k5 P K M β {env:=fY l g.env,H:=g.H,aJ:=g.aJ} tmps w (.cell q off) ((⟨tmps,[]⟩:Act).eval x) s):
 Yields P K M β g {e:=none,f_:=l,hs:=[(q,setAt cs off [{d:=.v (.bm k n get),own:=some s}])],rs:=g.rs} o tmps w:=by
 obtain⟨r⟩:=dN b4 ab;obtain⟨b,hb,ar⟩:=oK (dp (ds:=[]) h hp ha);have mj:=h.bd.f_ l;obtain⟨bl,vs,T,bw,bf,hlen,_,_,hz,kD⟩:=h.bd.box q cs ax;rw [hb]at bw;cases bw;have jq:=dp (ds:=[]) h hp hx;generalize hu:(⟨tmps,[]⟩:Act).eval x=u at jq fj
 have vo:u.cells = #[u]∧u.oneCell'=true:=by
  obtain⟨a,cap,rfl,_⟩:=qN jq;exact⟨rfl,rfl⟩
 have et:=Ki (P:=P) r (off:=off) bf (v:=u) (by rw [vo.1,hs];rfl) (by rw [vo.1];simpa using vo.2) (by omega)
 rw [vo.1,hs]at et;have cB:off<cs.length:=by omega
 refine .inr (.inl ⟨rfl,_,Kk am hu ar et,M,β,Mem.le_refl _,λ_ _ h=>h,λ_ _ h=>.inl h,?_,λe he=>by cases he⟩)
 refine mj.CV (st:={env:=fY l g.env,H:=g.H,aJ:=g.aJ}) ax hb bf (vs':=vs.take off++[u]++vs.drop (off+1)) (by rw [show off+1=off+[u].length by rfl,vl (by simp;omega),(oL cs off _ (by simp;omega)).1,hlen])
  (Kj (us:=[u]) hz (by simpa using vo.2)) (λ_=>by
   rw [show off+1=off+[u].length by rfl,vl (by simp;omega)]
   refine kD.set (λe he=>?_) (by simp;omega)
   obtain rfl:=List.mem_singleton.1 he;exact λ_ _ _ e=>by cases e) (oL cs off _ (by simp;omega)).1 (setRow_heap w b _ _ T (0,0) bf) (λbl dt=>setRow_other w b bl _ dt) off (λi v e ek kI=>?_)
 rw [show off+1=off+[u].length by rfl,Dl (by simp;omega)]at ek
 rw [Kh cB]at kI;by_cases hi:i=off
 ·subst hi;simp at ek kI
  subst ek;subst kI;refine⟨jq,λT aG=>.inr ⟨rfl,?_⟩⟩
  cases aG;exact fj
 ·rw [if_neg hi]at kI;rw [if_neg (by simp;omega)]at ek
  refine⟨?_,λT aG=>.inl ⟨hi,⟨e,kI,aG⟩,ek⟩⟩
  have:=h.bd.eE (.cell q i) e (by simp [az.at,ax,kI])
  simpa [b0,hb,cell_of_heap bf,ek]using this
end
section
variable {P:Program} {K:Ctx} {N:Nat} {M:Mem} {β:Nat→Option Nat} {g:cG} {tmps:Array Value} {w:World} {o:Oper} {f:ji} {p:Path} {tt:c7} {bL:fw} {ops:List Oper}
structure jr(M:Mem)(k m:Nat)(get:Nat→V)(news:List Value):Prop where
 len:news.length=m*k
 hk:∀i,i<m→(get i).cells.length=k
 one:∀u,u∈news→u.oneCell'=true
 rep:∀(i j:Nat) c u,i<m→(get i).cells[j]? = some c→news[i*k+j]? = some u→cw M u c
def flat(k m:Nat)(val:Nat→Nat→Value):List Value:=(List.range (m*k)).map λq=>val (q / k) (q % k)
def qS(k m:Nat)(val:Nat→Nat→Value):(flat k m val).length=m*k:=by simp [flat]
def TH{k m:Nat}{val:Nat→Nat→Value}{i j:Nat}(hi:i<m)(hj:j<k):(flat k m val)[i*k+j]? = some (val i j):=by
 have cB:i*k+j<m*k:=by
  have Z:(i+1)*k≤m*k:=Nat.mul_le_mul_right k hi;rw [Nat.add_mul]at Z;omega
 have Z:(i*k+j) / k=i:=by rw [Nat.mul_comm,Nat.mul_add_div (by omega),Nat.div_eq_of_lt hj];omega
 have ad:(i*k+j) % k=j:=by rw [Nat.mul_comm,Nat.mul_add_mod,Nat.mod_eq_of_lt hj]
 simp [flat,cB,Z,ad]
def Ko{k m:Nat}{val:Nat→Nat→Value}{q:Nat}{u:Value}(h:(flat k m val)[q]? = some u):q / k<m∧q % k<k∧q=q / k*k+q % k∧u=val (q / k) (q % k):=by
 have ax:q<m*k:=by have:=(List.getElem?_eq_some_iff.1 h).1;rwa [qS]at this
 have hk:0<k:=by
  rcases Nat.eq_zero_or_pos k with rfl|h;· simp at ax
  ·exact h
 refine⟨(Nat.div_lt_iff_lt_mul hk).2 ax,Nat.mod_lt _ hk,(Nat.div_add_mod' q k).symm,?_⟩
 simp [flat,ax]at h;exact h.symm
def Dm{v:Value}{k n:Nat}{get:Nat→V}(h:b3 M β v (.v (.bm k n get))):((v = .slice none 0 0∨∃a,v = .slice (some a) 0 0)∧n=0)∨
 ∃(b off cap:Nat) (dP:List Value),v = .slice (some ⟨b,off,none⟩) n cap∧n≤cap∧jr M k n get dP∧∀(q:Nat) u,dP[q]? = some u→M b (off+q)=some u:=by
 rcases pu h with h|⟨b,off,cap,val,rfl,hc,hk,cr,Z,ai⟩
 ·exact .inl h
 ·refine .inr ⟨b,off,cap,flat k n val,rfl,hc,⟨qS k n val,hk,?_,?_⟩,?_⟩
  ·refine Kb λq u hu=>?_
   obtain⟨ad,al,_,rfl⟩:=Ko hu;exact Z _ _ ad al
  ·intro i j c u hi hc hu;have hj:j<k:=by rw [←hk i hi];exact(List.getElem?_eq_some_iff.1 hc).1
   rw [TH hi hj]at hu;cases hu;exact ai i j c hi hc
  ·intro q u hu;obtain⟨ad,al,aH,rfl⟩:=Ko hu;have:=cr _ _ ad al
   rwa [Nat.add_assoc,←aH]at this
def s5(k:Nat)(get:Nat→V):jr M k 0 get []:=⟨by simp,by simp,by simp,by simp⟩
def jr.app{k n m:Nat}{get kb:Nat→V}{dP news:List Value}(h:jr M k n get dP)(ad:jr M k m kb news):jr M k (n+m) (λi=>bif Nat.blt i n then get i else kb (i-n)) (dP++news):=by
 have hb:∀i,(bif Nat.blt i n then get i else kb (i-n))=if i<n then get i else kb (i-n):=by
  intro i;by_cases hi:i<n
  ·have:Nat.blt i n=true:=by simpa using hi
   simp [this,hi]
  ·have:Nat.blt i n=false:=by rw [Bool.eq_false_iff];simpa using hi
   simp [this,hi]
 refine⟨by simp [h.len,ad.len,Nat.add_mul],λi hi=>?_,λu hu=>?_,λi j c u hi hc hu=>?_⟩
 ·rw [hb];split
  ·exact h.hk i (by assumption)
  ·exact ad.hk _ (by omega)
 ·rcases List.mem_append.1 hu with hu|hu
  ·exact h.one u hu
  ·exact ad.one u hu
 ·rw [hb]at hc;by_cases hin:i<n
  ·rw [if_pos hin]at hc;have hj:j<k:=by rw [←h.hk i hin];exact(List.getElem?_eq_some_iff.1 hc).1
   have cB:i*k+j<dP.length:=by
    rw [h.len];have Z:(i+1)*k≤n*k:=Nat.mul_le_mul_right k hin;rw [Nat.add_mul]at Z;omega
   rw [List.getElem?_append_left cB]at hu;exact h.rep i j c u hin hc hu
  ·rw [if_neg hin]at hc;have adt:n*k≤i*k:=Nat.mul_le_mul_right k (by omega)
   rw [List.getElem?_append_right (by rw [h.len];omega),h.len]at hu
   have:i*k+j-n*k=(i-n)*k+j:=by rw [Nat.sub_mul];omega
   rw [this]at hu;exact ad.rep (i-n) j c u (by omega) hc hu
def jr.mono{M':Mem}(cr:M.le M'){k n:Nat}{get:Nat→V}{dP:List Value}(h:jr M k n get dP):jr M' k n get dP:=
 ⟨h.len,h.hk,h.one,λi j c u hi hc hu=>(h.rep i j c u hi hc hu).mono cr⟩
def jr.bm{k n cap b off:Nat}{get:Nat→V}{dP:List Value}(h:jr M k n get dP)(hc:n≤cap)(cr:∀(q:Nat) u,dP[q]? = some u→M b (off+q)=some u):
 cw M (.slice (some ⟨b,off,none⟩) n cap) (.bm k n get):=by
 have hin:∀i j,i<n→j<k→dP[i*k+j]? = some (dP.getD (i*k+j) undef):=λi j hi hj=>Tx h.len hi hj
 refine .bm b off k n cap get (λi j=>dP.getD (i*k+j) undef) hc h.hk (λi j hi hj=>?_) (λi j hi hj=>yF h.one (hin i j hi hj)) (λi j c hi kg=>?_)
 ·rw [Nat.add_assoc];exact cr _ _ (hin i j hi hj)
 ·have hj:j<k:=by rw [←h.hk i hi];exact(List.getElem?_eq_some_iff.1 kg).1
  exact h.rep i j c _ hi kg (hin i j hi hj)
def TI(t gb ty e:TypeId)(i:TypeInfo)(bH:P.underlying t=some (.slice e))(hi:P.info? e=some i)(b qT jM:Nat)(x:Value)(n:Nat)(news:List Value)(hs:Src P i.size gb x n news w)
 (qU:qT+n≤jM) {vs:List Value} {T:TypeId} (bf:w.heap[b]? = some (.cells ⟨vs⟩ T (0,0))) (hle:qT*i.size+news.length≤vs.length):
 (Builtin.append_ #[t,gb] ty #[.slice (some ⟨b,0,none⟩) qT jM,x]).run P w = .ok (.slice (some ⟨b,0,none⟩) (qT+n) jM) (w.setRow b (vs.take (qT*i.size)++news++vs.drop (qT*i.size+news.length)).toArray):=by
 have eh:=run_storeCells_at P b (qT*i.size) T news 0 ⟨vs⟩ w bf (by simpa using hle) hs.one
 simp only [Nat.add_zero]at eh;rcases hs.kind with⟨a1,hk⟩|hk<;>simp [Builtin.append_,run_underlying bH,run_underlying hk,sizeOf,typeInfo,hi,hs.len,qU,hs.cells,addr_add,eh]
def TJ(t gb ty e:TypeId)(i:TypeInfo)(bH:P.underlying t=some (.slice e))(hi:P.info? e=some i)(x:Value)(news:List Value)(hs:Src P i.size gb x 0 news w):
 (Builtin.append_ #[t,gb] ty #[.slice none 0 0,x]).run P w = .ok (.slice none 0 0) w:=by
 rcases hs.kind with⟨a1,hk⟩|hk<;>simp [Builtin.append_,run_underlying bH,run_underlying hk,sizeOf,typeInfo,hi,hs.len,hs.cells]
def yI{t gb:TypeId}{a x:Operand}{c:Call}(am:o.op = .call c)(hc:c.callee = .builtin .append)(eJ:c.args.toList=[a,x])(fJ:c.argTypes.toList[0]? = some t)(ml:c.argTypes.toList[1]? = some gb)
 {gi Dn:Value} (ha:(⟨tmps,[]⟩:Act).eval a=gi) (hx:(⟨tmps,[]⟩:Act).eval x=Dn) {v:Value} {w':World}
 (h:∀ty,(Builtin.append_ #[t,gb] ty #[gi,Dn]).run P w = .ok v w'):
 (execOp (Act.eval ⟨tmps,[]⟩) o).run P w = .ok (.value v) w':=by
 have qV:c.args = #[a,x]:=by apply Array.ext';simpa using eJ
 have Do:∀ty,(Builtin.append_ c.argTypes ty #[gi,Dn]).run P w = .ok v w':=by
  intro ty;have h0:c.argTypes[0]? = some t:=by simpa using fJ
  have Z:c.argTypes[1]? = some gb:=by simpa using ml
  have:=h ty
  simp only [Builtin.append_,h0,Z]at this ⊢;exact this
 simp only [execOp,am,resolve,hc,qV,Sem.run_bind,Sem.run_pure,Result.andThen_ok,invoke,builtin,List.map_toArray,List.map_cons,List.map_nil,ha,hx];simp [Do]
def TK(h:eW P K N M β g tmps w)(hp:e7 tmps p)(b4:eI P tt=true){t gb e:TypeId}{aB bN:dS}(ab:look tt t=some aB)(hk:aB.k = .bm e)(d9:look tt e=some bN){s:Nat}{x:Operand}{c:Call}
 (am:o.op = .call c) (hc:c.callee = .builtin .append) (eJ:c.args.toList=[.tmp s,x]) (fJ:c.argTypes.toList[0]? = some t) (ml:c.argTypes.toList[1]? = some gb)
 {n m:Nat} {get kb:Nat→V} (hs:rd g.env g.bB p tt o.type (.tmp s)=some (.full bN.size n get)) (vp:1≤bN.bytes) (hm:1≤m)
 {news:List Value} (kJ:Src P bN.size gb ((⟨tmps,[]⟩:Act).eval x) m news w) (js:jr M bN.size m kb news) (qU:(n+m)*bN.bytes≤140737488355328)
 {y:V} (bX:fX (.bm bN.size (n+m) λi=>bif Nat.blt i n then get i else kb (i-n)) y) {rs:List eD} {aL:List Prop}:
 Yields P K M β g {e:=some {d:=.v y,own:=some e},f_:=[s],rs,aL} o tmps w:=by
 obtain⟨r⟩:=dN b4 ab;obtain⟨db⟩:=dN b4 d9;have mj:=h.bd.f_ [s];have d':=dp (ds:=[]) h hp hs;have vq:P.underlying t=some (.slice e):=by rw [r.hd,mY r hk]
 have qW:(⟨tmps,[]⟩:Act).eval (.tmp s)=tmps.getD s undef:=rfl;rw [qW]at d'
 have oP:∃base,tmps.getD s undef = .slice base n n∧cw M (.slice base n n) (.bm bN.size n get):=by
  generalize tmps.getD s undef=gi at d'
  cases d' with
  |full base k n get h=>exact⟨base,rfl,h⟩
 obtain⟨base,ar,fA⟩:=oP;have cB:n<n+m:=by omega
 have qX:∃dP:List Value,jr M bN.size n get dP∧∀w':World,w'.heap=w.heap→(Builtin.firstCells bN.size n (.slice base n n)).run P w' = .ok dP.toArray w':=by
  rcases Dm (b3.v _ _ fA:b3 M β _ _) with⟨nI|⟨a,nI⟩,lS⟩|⟨b,off,cap,dP,nI,hcap,holds,hold⟩
  ·simp only [Value.slice.injEq]at nI;obtain⟨rfl,rfl,_⟩:=nI;exact⟨[],s5 _ _,λw' _=>run_firstCells_none w' bN.size 0 0 0⟩
  ·simp only [Value.slice.injEq]at nI;obtain⟨rfl,rfl,_⟩:=nI;refine⟨[],s5 _ _,λw' lP=>?_⟩
   exact run_firstCells_some (P:=P) w' bN.size 0 a 0 0 [] (by simp) (λj u hj=>by simp at hj)
  ·simp only [Value.slice.injEq]at nI;obtain⟨rfl,_,rfl⟩:=nI;refine⟨dP,holds,λw' lP=>?_⟩
   refine run_firstCells_some (P:=P) w' bN.size n ⟨b,off,none⟩ n n dP (by rw [holds.len]) (λj u hj=>?_)
   rw [addr_add,oH (w:=w) (by rw [lP])]
   exact h.bd.mem _ _ _ (hold j u hj)
 obtain⟨dP,holds,qX⟩:=qX
 have Dp:((n+m:Nat):Int)≤9223372036854775807:=by
  have:n+m≤(n+m)*bN.bytes:=Nat.le_mul_of_pos_right _ vp
  omega
 have Dq:=growslice_fits (need:=n+m) (old:=n) (bytes:=bN.bytes) cB qU;have hcap:=grownCap_ge w (n+m) n e;have oQ:=holds.app js
 have qY:db.z.cells.size=bN.size:=by
  obtain⟨k4,_⟩:=sX (M:=M) db.vf;have:=db.C3
  simp at k4;omega
 generalize qO:(Builtin.zeroCells db.z.cells (grownCap w (n+m) n e-(n+m))).toList=zs
 have Dr:Builtin.zeroCells db.z.cells (grownCap w (n+m) n e-(n+m))=zs.toArray:=by rw [←qO]
 have Ds:zs.length=(grownCap w (n+m) n e-(n+m))*bN.size:=by
  rw [←qO];simp [Builtin.zeroCells,qY]
 have et:∀ty,(Builtin.append_ #[t,gb] ty #[tmps.getD s undef,(⟨tmps,[]⟩:Act).eval x]).run P w =
  .ok (.slice (some ⟨w.heap.size,0,none⟩) (n+m) (grownCap w (n+m) n e)) (w.drew.alloc (.cells ⟨dP++news++zs⟩ e (0,0))):=by
  intro ty;have:=run_append_grow_src (P:=P) w t gb ty e db.info db.z vq db.hi db.dM base n n dP (by rw [db.size];exact qX w.drew rfl) _ m news (by rw [db.size];exact kJ) cB Dp (by rw [db.bytes];exact Dq)
  rw [ar,this,Dr];simp
 have lP:(w.drew.alloc (.cells ⟨dP++news++zs⟩ e (0,0))).heap=w.heap.push (.cells ⟨dP++news++zs⟩ e (0,0)):=rfl
 have Dt:(dP++news++zs).length=grownCap w (n+m) n e*bN.size:=by
  rw [List.length_append,oQ.len,Ds,←Nat.add_mul];congr 1;omega
 obtain⟨ci,hle⟩:=mj.newRow (vs:=dP++news++zs) (T:=e) (n:=(n+m)*bN.size) lP
 have vk:(dP++news++zs).take ((n+m)*bN.size)=dP++news:=by
  rw [List.take_append_of_le_length (by rw [oQ.len];exact Nat.le_refl _),List.take_of_length_le (by rw [oQ.len];exact Nat.le_refl _)]
 refine .inl ⟨_,_,yI am hc eJ fJ ml qW rfl et,_,β,hle,λ_ _ h=>h,λ_ _ h=>.inl h,ci,λe1 he=>?_⟩
 cases he;refine⟨.v _ _ (bX _ _ ((oQ.mono hle).bm hcap λq u hu=>?_)),λT l0 aG=>?_⟩
 ·rw [vk];exact yH hu
 ·cases aG;have:=Dh (l0:=l0) (T:=e) mj (vs:=dP++news++zs) (T':=e) (n:=n+m) (cap:=grownCap w (n+m) n e) rfl lP hcap (by rw [db.cellsOf,Dt];exact Nat.le_refl _)
  rw [db.cellsOf]at this;exact this
def Kp(h:eW P K N M β g tmps w)(hp:e7 tmps p)(b4:eI P tt=true){t gb e:TypeId}{aB bN:dS}(ab:look tt t=some aB)(hk:aB.k = .bm e)(d9:look tt e=some bN){s:Nat}{x:Operand}{c:Call}
 (am:o.op = .call c) (hc:c.callee = .builtin .append) (eJ:c.args.toList=[.tmp s,x]) (fJ:c.argTypes.toList[0]? = some t) (ml:c.argTypes.toList[1]? = some gb)
 {n m:Nat} {get kb:Nat→V} (hs:rd g.env g.bB p tt o.type (.tmp s)=some (.v (.bm bN.size n get))) {Du:aM} (vr:look g.env s=some Du) (fj:Du.own=some e) (vp:1≤bN.bytes)
 {news:List Value} (kJ:Src P bN.size gb ((⟨tmps,[]⟩:Act).eval x) m news w) (js:jr M bN.size m kb news) (qU:(n+m)*bN.bytes≤140737488355328)
 {y:V} (bX:fX (.bm bN.size (n+m) λi=>bif Nat.blt i n then get i else kb (i-n)) y) {rs:List eD} {aL:List Prop}:
 Yields P K M β g {e:=some {d:=.v y,own:=some e},f_:=[s],rs,aL} o tmps w:=by
 obtain⟨r⟩:=dN b4 ab;obtain⟨db⟩:=dN b4 d9;have mj:=h.bd.f_ [s];have d':=dp (ds:=[]) h hp hs;have vq:P.underlying t=some (.slice e):=by rw [r.hd,mY r hk]
 have qW:(⟨tmps,[]⟩:Act).eval (.tmp s)=tmps.getD s undef:=rfl;rw [qW]at d';have Dv:=h.bd.own (.slot s) Du e vr fj;simp only [b0]at Dv;have vt:=h.bd.hand vr fj
 -- kh row TL is grown
 have Kq:∀(base:Option Addr) (jM:Nat) (dP:List Value),tmps.getD s undef = .slice base n jM→jr M bN.size n get dP→
  (∀w':World,w'.heap=w.heap→(Builtin.firstCells bN.size n (.slice base n jM)).run P w' = .ok dP.toArray w')→jM<n+m→
  Yields P K M β g {e:=some {d:=.v y,own:=some e},f_:=[s],rs,aL} o tmps w:=by
  intro base jM dP ar holds qX cB
  have Dp:((n+m:Nat):Int)≤9223372036854775807:=by
   have:n+m≤(n+m)*bN.bytes:=Nat.le_mul_of_pos_right _ vp
   omega
  have Dq:=growslice_fits (need:=n+m) (old:=jM) (bytes:=bN.bytes) cB qU;have hcap:=grownCap_ge w (n+m) jM e;have oQ:=holds.app js
  have qY:db.z.cells.size=bN.size:=by
   obtain⟨k4,_⟩:=sX (M:=M) db.vf;have:=db.C3
   simp at k4;omega
  generalize qO:(Builtin.zeroCells db.z.cells (grownCap w (n+m) jM e-(n+m))).toList=zs
  have Dr:Builtin.zeroCells db.z.cells (grownCap w (n+m) jM e-(n+m))=zs.toArray:=by rw [←qO]
  have Ds:zs.length=(grownCap w (n+m) jM e-(n+m))*bN.size:=by
   rw [←qO];simp [Builtin.zeroCells,qY]
  have et:∀ty,(Builtin.append_ #[t,gb] ty #[tmps.getD s undef,(⟨tmps,[]⟩:Act).eval x]).run P w =
   .ok (.slice (some ⟨w.heap.size,0,none⟩) (n+m) (grownCap w (n+m) jM e)) (w.drew.alloc (.cells ⟨dP++news++zs⟩ e (0,0))):=by
   intro ty;have:=run_append_grow_src (P:=P) w t gb ty e db.info db.z vq db.hi db.dM base n jM dP (by rw [db.size];exact qX w.drew rfl) _ m news (by rw [db.size];exact kJ) cB Dp (by rw [db.bytes];exact Dq)
   rw [ar,this,Dr];simp
  have lP:(w.drew.alloc (.cells ⟨dP++news++zs⟩ e (0,0))).heap=w.heap.push (.cells ⟨dP++news++zs⟩ e (0,0)):=rfl
  have Dt:(dP++news++zs).length=grownCap w (n+m) jM e*bN.size:=by
   rw [List.length_append,oQ.len,Ds,←Nat.add_mul];congr 1;omega
  obtain⟨ci,hle⟩:=mj.newRow (vs:=dP++news++zs) (T:=e) (n:=(n+m)*bN.size) lP
  have vk:(dP++news++zs).take ((n+m)*bN.size)=dP++news:=by
   rw [List.take_append_of_le_length (by rw [oQ.len];exact Nat.le_refl _),List.take_of_length_le (by rw [oQ.len];exact Nat.le_refl _)]
  refine .inl ⟨_,_,yI am hc eJ fJ ml qW rfl et,_,β,hle,λ_ _ h=>h,λ_ _ h=>.inl h,ci,λe1 he=>?_⟩
  cases he;refine⟨.v _ _ (bX _ _ ((oQ.mono hle).bm hcap λq u hu=>?_)),λT l0 aG=>?_⟩
  ·rw [vk];exact yH hu
  ·cases aG;have:=Dh (l0:=l0) (T:=e) mj (vs:=dP++news++zs) (T':=e) (n:=n+m) (cap:=grownCap w (n+m) jM e) rfl lP hcap (by rw [db.cellsOf,Dt];exact Nat.le_refl _)
   rw [db.cellsOf]at this;exact this
 have b7:(tmps.getD s undef = .slice none 0 0∧n=0)∨∃(b off cap:Nat) (dP:List Value),tmps.getD s undef = .slice (some ⟨b,off,none⟩) n cap∧n≤cap∧jr M bN.size n get dP∧∀(q:Nat) u,dP[q]? = some u→M b (off+q)=some u:=by
  rcases Dm d' with⟨ar|⟨a,ar⟩,lS⟩|hx
  ·exact .inl ⟨ar,lS⟩
  ·subst lS;rcases Dv with h0|⟨bl,n',Kr,vs,T',Z,_⟩
   ·exact .inl ⟨h0,rfl⟩
   ·rw [ar]at Z;simp only [Value.slice.injEq,Option.some.injEq]at Z;obtain⟨rfl,rfl,rfl⟩:=Z;exact .inr ⟨bl,0,0,[],ar,Nat.le_refl _,s5 _ _,λq u hu=>by simp at hu⟩
  ·exact .inr hx
 rcases b7 with⟨ar,lS⟩|⟨b,off,cap,dP,ar,hcap,holds,hold⟩
 ·subst lS;by_cases hm:m=0
  ·subst hm;refine .inl ⟨_,_,yI am hc eJ fJ ml (qW.trans ar) rfl (λty=>TJ (w:=w) t gb ty e db.info vq db.hi _ news (by rw [db.size];exact kJ)),M,β,Mem.le_refl _,λ_ _ h=>h,λ_ _ h=>.inl h,mj,λe1 he=>?_⟩
   cases he;exact⟨.v _ _ (bX _ _ (.j_ _ _)),λT l0 _=>CY l0 T⟩
  ·refine Kq none 0 [] ar (s5 _ _) (λw' _=>run_firstCells_none w' bN.size 0 0 0) (by omega)
 ·by_cases cB:cap<n+m
  ·refine Kq (some ⟨b,off,none⟩) cap dP ar holds (λw' lP=>?_) cB
   refine run_firstCells_some (P:=P) w' bN.size n ⟨b,off,none⟩ n cap dP (by rw [holds.len]) (λj u hj=>?_)
   rw [addr_add,oH (w:=w) (by rw [lP])]
   exact h.bd.mem _ _ _ (hold j u hj)
  · -- there is room
   rcases Dv with h0|⟨bl,n',Kr,vs,T',Z,adu,bf,k7,iC,da,oM⟩
   ·rw [ar]at h0;simp at h0
   ·rw [ar]at Z;simp only [Value.slice.injEq,Option.some.injEq,Addr.mk.injEq,and_true]at Z;obtain⟨⟨rfl,rfl⟩,rfl,rfl⟩:=Z;rw [db.cellsOf]at k7 iC
    have hlen:n*bN.size+news.length≤vs.length:=by
     rw [js.len,←Nat.add_mul];exact Nat.le_trans (Nat.mul_le_mul_right _ (by omega)) k7
    have et:∀ty,(Builtin.append_ #[t,gb] ty #[tmps.getD s undef,(⟨tmps,[]⟩:Act).eval x]).run P w =
     .ok (.slice (some ⟨b,0,none⟩) (n+m) cap) (w.setRow b (vs.take (n*bN.size)++news++vs.drop (n*bN.size+news.length)).toArray):=by
     intro ty;have:=TI (P:=P) (w:=w) t gb ty e db.info vq db.hi b n cap _ m news (by rw [db.size];exact kJ) (by omega) bf (by rw [db.size];exact hlen)
     rw [db.size]at this;rw [ar,this]
    generalize Ks:vs.take (n*bN.size)++news++vs.drop (n*bN.size+news.length)=vs' at et
    have TM:vs'.length=vs.length:=by rw [←Ks,vl hlen]
    have qP:(w.setRow b vs'.toArray).heap[b]? = some (.cells ⟨vs'⟩ T' (0,0)):=setRow_heap w b _ _ T' (0,0) bf;have hle:M.le (hA M b (n*bN.size) news):=Dg iC;have iy:gp (tmps.getD s undef)=some b:=by rw [ar];rfl
    have ci:bo P K (hA M b (n*bN.size) news) β {env:=fY [s] g.env,H:=g.H,aJ:=g.aJ} tmps (w.setRow b vs'.toArray):=by
     refine mj.free b da (λr cs ai hb=>(vt (.slot s)).unbox b r cs iy ai hb) (λl e1 f0 eM pA=>?_) (λbl dt _=>setRow_other w b bl _ dt) hle (λbl o' dt=>?_) (λo' k9 mm=>?_)
     ·by_cases yJ:l = .slot s
      ·subst yJ;simp only [az.at,lQ,List.mem_singleton,if_true,Option.map_eq_some_iff]at eM;obtain⟨_,_,rfl⟩:=eM;simp at pA
      ·exact(vt (.slot s)).apart l e1 f0 b eM pA yJ iy
     ·simp [hA,dt]
     ·rw [cell_of_heap qP,←Ks,Dl hlen];unfold hA at mm;split at mm
      ·rename_i ih;rw [if_pos ⟨ih.2.1,ih.2.2⟩];exact mm
      ·rename_i ih;rw [if_neg (λvu=>ih ⟨rfl,vu.1,vu.2⟩)]
       have:=h.bd.mem _ _ _ mm
       rwa [cell_of_heap bf]at this
    refine .inl ⟨_,_,yI am hc eJ fJ ml qW rfl et,_,β,hle,λ_ _ h=>h,λ_ _ h=>.inl h,ci,λe1 he=>?_⟩
    cases he;refine⟨.v _ _ (bX _ _ (((holds.app js).mono hle).bm (by omega) λq u hu=>?_)),λT l0 aG=>?_⟩
    ·by_cases ax:q<dP.length
     ·rw [List.getElem?_append_left ax]at hu;exact hle _ _ _ (hold q u hu)
     ·rw [List.getElem?_append_right (by omega)]at hu
      have:=yH (M:=M) (b:=b) (lo:=n*bN.size) hu
      rw [holds.len]at this;rw [Nat.zero_add];have m5:n*bN.size+(q-n*bN.size)=q:=by rw [holds.len]at ax;omega
      rwa [m5]at this
    ·cases aG;refine⟨.inr ⟨b,n+m,cap,vs',T',rfl,by omega,qP,by rw [db.cellsOf,TM];exact k7,λo' iV=>?_,da,oM⟩,λl e1 f0 cH eM pA _ cK=>?_,λcH r cs cK ai=>?_⟩
     ·rw [db.cellsOf,Nat.add_mul]at iV;unfold hA;rw [if_neg (λvu=>by rw [js.len]at vu;omega)]
      exact iC o' (by omega)
     ·simp [gp]at cK;subst cK
      have yJ:l ≠ .slot s:=by
       rintro rfl
       simp only [after,az.at,lQ,List.mem_singleton,if_true,Option.map_eq_some_iff]at eM;obtain⟨_,_,rfl⟩:=eM;simp at pA
      have TN:b0 tmps (w.setRow b vs'.toArray) β l=b0 tmps w β l:=by
       cases l with
       |slot sU=>rfl
       |cell r i=>
        have d9:=eM;simp only [after,az.at]at d9;cases ai:look g.H r with
        |none=>simp [ai]at d9
        |some cs=>
         obtain⟨iD,TO,mW,fl,yK,_⟩:=h.bd.box r cs ai;have dt:iD≠b:=by rintro rfl;exact(vt (.slot s)).unbox iD r cs iy ai fl
         simp only [b0,fl];rw [oH (w:=w) (setRow_other w b iD _ dt)]
      rw [TN];exact(vt (.slot s)).apart l e1 f0 b eM pA yJ iy
     ·simp [gp]at cK;subst cK;exact(vt (.slot s)).unbox b r cs iy ai
def Kt(h:bo P K M β {env:=g.env,H:=g.H,aJ:=g.aJ} tmps w)(b4:eI P tt=true){gb e2:TypeId}{aB:dS}(ab:look tt gb=some aB)(hk:aB.k = .bm e2){v:Value}{k m:Nat}{get:Nat→V}
 (ar:b3 M β v (.v (.bm k m get))):∃news,Src P k gb v m news w∧jr M k m get news:=by
 obtain⟨r⟩:=dN b4 ab;have hu:P.underlying gb=some (.slice e2):=by rw [r.hd,mY r hk]
 rcases Dm ar with⟨rfl|⟨a,rfl⟩,rfl⟩|⟨b,off,cap,dP,rfl,_,js,hold⟩
 ·exact⟨[],Src.ofNil w hu 0,s5 _ _⟩
 ·exact⟨[],Src.ofSlice w hu a 0 0 [] (by simp) (λj u hj=>by simp at hj) (by simp),s5 _ _⟩
 ·have hc:∀(j:Nat) u,dP[j]? = some u→w.cell? ((⟨b,off,none⟩:Addr).add j)=some u:=λj u hj=>by rw [addr_add];exact h.mem _ _ _ (hold j u hj)
  exact⟨dP,Src.ofSlice w hu _ m cap dP js.len hc js.one,js⟩
def TP(b4:eI P tt=true){gb:TypeId}{aB:dS}(ab:look tt gb=some aB)(hk:aB.k = .str)(l:ae7)(M:Mem):
 ∃news,Src P 1 gb (.string ⟨⟨l⟩⟩) l.length news w∧jr M 1 l.length (λi=>.int .u8 (l.getD i 0).toNat) news:=by
 obtain⟨r⟩:=dN b4 ab;have hu:P.underlying gb=some .string:=by rw [r.hd,nG r hk]
 refine⟨byteCells ⟨⟨l⟩⟩,Src.ofString w hu ⟨⟨l⟩⟩,⟨by simp [byteCells],λi _=>rfl,λu hu=>?_,λi j c u hi hc hu=>?_⟩⟩
 ·obtain⟨_,_,rfl⟩:=List.mem_map.1 hu;rfl
 ·cases j with
  |succ j=>simp [V.cells]at hc
  |zero=>
   simp [V.cells]at hc;subst hc;simp only [byteCells,Nat.mul_one,Nat.add_zero,List.getElem?_map,Option.map_eq_some_iff]at hu;obtain⟨a,ha,rfl⟩:=hu;have:l[i]? = some a:=ha
   simp [this];exact .int _ _
end
end Go.Ab

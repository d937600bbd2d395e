/- The abstract machine: a step of code over plain data, proved against the model. -/
import Derived.Orders
import Derived.KernelRfl
import Derived.Laws.Sem
import Derived.Laws.Entries
import Derived.ChangeKeysEq
import Derived.Laws.Cells
import Derived.Laws.CopyRow
import Derived.Laws.Slices
import Derived.Laws.Strings2
import Derived.Deep.AppendSrc
set_option linter.all false
namespace Go.Ab
abbrev au':=List UInt8
inductive V where
 |int (k:IntKind) (n:Int)
 |bool (b:Bool)
 |str (s:au')
 |agg (cs:List V)
 |bJ (k n:Nat) (get:Nat→V)
 |iface (t:TypeId) (x:V)
 |fC |jL |fD
 |any
 |pe (k:Nat) (get:Nat→V)
def V.cells:V→List V
 |.agg cs=>cs
 |x=>[x]
inductive D where
 |v (x:V)
 |ptr (r off:Nat)
 |cu (r off:Nat) (u:TypeId)
 |e' (x:V)
 |full (k n:Nat) (get:Nat→V)
 |fn (f:FuncId) (fm:List D)
 |agg (cs:List D)
 |cn (cs:List D)
structure aW where
 d:D
 own:Option TypeId:=none
structure aH where
 env:List (Nat×aW)
 H:List (Nat×List aW)
 aX:Nat
inductive mt where
 |int (k:IntKind) |bool |str
 |dE (cD:List (Nat×TypeId×Nat))
 |bJ (e:TypeId) |arr (n:Nat) (e:TypeId) |ptr |iK |pY
deriving DecidableEq
structure eI where
 k:mt
 size:Nat
 bytes:Nat
 zero:List V
 jY:List (Nat×TypeId):=[]
abbrev dH:=List (TypeId×eI)
def look{α:Type}:List (Nat×α)→Nat→Option α
 |[],_=>none
 |(j,x)::l,i=>bif Nat.beq j i then some x else look l i
def del{α:Type}:List (Nat×α)→Nat→List (Nat×α)
 |[],_=>[]
 |(j,x)::l,i=>bif Nat.beq j i then del l i else(j,x)::del l i
def mt.isAgg:mt→Bool
 |.dE _ |.arr _ _=>true
 |_=>false
abbrev Path:=List (Nat×Bool)
def Path.has(p:Path)(x:Nat×Bool):Bool:=p.any λy=>Nat.beq y.1 x.1&&(y.2 == x.2)
def Path.sub(q p:Path):Bool:=q.all p.has
inductive Out where
 |ret (d:D) (own:Option TypeId)
 |aJ (x:V)
inductive fu where
 |val (x:V)
 |raw
 |own
 |marks (c:Nat)
 |call (o:Out) (H:Option (List (List aW))) (os:List Nat)
def aI(i:Int)(n:Nat):Bool:=decide (0≤i)&&decide (i<n)
def gT(i:Int)(n:Nat):Bool:=decide (0≤i)&&decide (i≤n)
def l4(a b:Int)(n:Nat):Bool:=decide (0≤a)&&(decide (a≤b)&&decide (b≤n))
def yj(a:Int):Bool:=!decide (a=0)
def room(n b:Nat):Bool:=decide (n*b≤140737488355328)
def b5(n:Nat):Bool:=decide (n≤9223372036854775807)
structure dk where
 env:List (Nat×aW)
 b6:List (Nat×Path×D)
 H:List (Nat×List aW)
 aX:Nat
 rs:List fu
 a8:List Prop
 ids:List (Nat×Nat):=[]
def Mi:Value→Option V
 |.int k n=>some (.int k n)
 |.bool b=>some (.bool b)
 |.string s=>some (.str s.data.toList)
 |.pointer none=>some .fC
 |.nilIface=>some .jL
 |.nilFunc=>some .fD
 |_=>none
def rd(env:List (Nat×aW))(b6:List (Nat×Path×D))(p:Path)(tt:dH)(ty:TypeId):Operand→Option D
 |.tmp t=>match look b6 t with
  |some (q,d)=>bif q.sub p then some d else none
  |none=>(look env t).map (·.d)
 |.const (.slice none 0 0)=>match look tt ty with
  |some {k:=.bJ _,zero:=[.bJ k 0 get],..}=>some (.v (.bJ k 0 get))
  |_=>none
 |.const v=>(Mi v).map .v
 |.func f=>some (.fn f [])
 |.global _=>none
def l5(f:TypeId→Operand→Option D):List Operand→List TypeId→Option (List D)
 |[],_=>some []
 |x::xs,t::ts=>match f t x,l5 f xs ts with
  |some d,some ds=>some (d::ds)
  |_,_=>none
 |_::_,[]=>none
def By:List D→Option (List V)
 |[]=>some []
 |.v x::l=>(By l).map (x :: ·)
 |_::_=>none
def mX(cs:List D):D:=match By cs with|some vs=>.v (.agg vs)|none=>.agg cs
def cellsD:D→List D
 |.v x=>x.cells.map .v
 |.agg cs=>cs
 |d=>[d]
def sb:List D→Bool
 |[]=>true
 |.cu _ _ _::_=>false
 |_::l=>sb l
def qU:D→Bool
 |.cn _=>true
 |_=>false
def setAt{α:Type}:List α→Nat→List α→List α
 |cs,0,[]=>cs
 |_::cs,0,x::xs=>x::setAt cs 0 xs
 |c::cs,n+1,xs=>c::setAt cs n xs
 |[],_,_=>[]
def sc(place:Nat→Option (Nat×Nat))(cells:List D):List (Nat×D)→Option (List D)
 |[]=>some cells
 |(i,d)::rest=>match place i with
  |none=>none
  |some (off,size)=>
   bif Nat.beq (cellsD d).length size&&Nat.ble (off+size) cells.length && !qU d then sc place (setAt cells off (cellsD d)) rest else none
abbrev Mem:=Nat→Nat→Option Value
def Mem.le(M M':Mem):Prop:=∀b o v,M b o=some v→M' b o=some v
def Mem.le_refl(M:Mem):M.le M:=λ_ _ _ h=>h
def Mem.le_trans{A B C:Mem}(h:A.le B)(cG:B.le C):A.le C:=λb o v e=>cG b o v (h b o v e)
inductive dq(M:Mem):Value→V→Prop where
 |int (k:IntKind) (n:Int):dq M (.int k n) (.int k n)
 |bool (b:Bool):dq M (.bool b) (.bool b)
 |str (l:au'):dq M (.string ⟨⟨l⟩⟩) (.str l)
 |agg (vs:List Value) (cs:List V) (hn:vs.length=cs.length) (Z:∀v,v∈vs→v.oneCell'=true)
  (h:∀(i:Nat) v c,vs[i]? = some v→cs[i]? = some c→dq M v c):dq M (.agg ⟨vs⟩) (.agg cs)
 |mu (k:Nat) (get:Nat→V):dq M (.slice none 0 0) (.bJ k 0 get)
 |pZ (a:Addr) (k:Nat) (get:Nat→V):dq M (.slice (some a) 0 0) (.bJ k 0 get)
 |bJ (b off k n cap:Nat) (get:Nat→V) (val:Nat→Nat→Value) (hc:n≤cap)
  (hk:∀i,i<n→(get i).cells.length=k)
  (c7:∀i j,i<n→j<k→M b (off+i*k+j)=some (val i j)) (Z:∀i j,i<n→j<k→(val i j).oneCell'=true)
  (h:∀(i j:Nat) c,i<n→(get i).cells[j]? = some c→dq M (val i j) c):dq M (.slice (some ⟨b,off,none⟩) n cap) (.bJ k n get)
 |iface (t:TypeId) (v:Value) (x:V) (h:dq M v x):dq M (.iface t v) (.iface t x)
 |fC:dq M (.pointer none) .fC
 |jL:dq M .nilIface .jL
 |fD:dq M .nilFunc .fD
 |any (v:Value) (Z:v.oneCell'=true):dq M v .any
 |pe (k:Nat) (get:Nat→V):dq M (.slice none 0 0) (.pe k get)
def hv(raw x:V):Prop:=∀(M:Mem) (v:Value),dq M v raw→dq M v x
def p0(k:IntKind)(a b:Int):Int:=k.wrap (BitVec.ofInt k.bits a &&& BitVec.ofInt k.bits b).toNat
def qV(k:IntKind)(a b:Int):Int:=k.wrap (BitVec.ofInt k.bits a |||BitVec.ofInt k.bits b).toNat
def mY(k:IntKind)(a b:Int):Int:=k.wrap (BitVec.ofInt k.bits a ^^^ BitVec.ofInt k.bits b).toNat
def Mj(k:IntKind)(a b:Int):Int:=k.wrap (BitVec.ofInt k.bits a &&& ~~~BitVec.ofInt k.bits b).toNat
def pf(k:IntKind)(x y:Int):Int:=k.wrap (x*2 ^ min y.toNat k.bits)
def ns(k:IntKind)(x y:Int):Int:=x.fdiv (2 ^ min y.toNat k.bits)
def ol(y:Int):Bool:=decide (0≤y)
def Mk(op:BinOp)(k:IntKind)(x y:Int):Option (V×List Prop):=
 match op with
 |.shl=>some (.int k (pf k x y),[ol y=true])
 |.shr=>some (.int k (ns k x y),[ol y=true])
 |_=>none
def Ml(op:BinOp)(k:IntKind)(a b:Int):Option (V×List Prop):=
 match op with
 |.add=>some (.int k (k.wrap (a+b)),[])
 |.sub=>some (.int k (k.wrap (a-b)),[])
 |.mul=>some (.int k (k.wrap (a*b)),[])
 |.quo=>some (.int k (k.wrap (a.tdiv b)),[yj b=true])
 |.rem=>some (.int k (a.tmod b),[yj b=true])
 |.eql=>some (.bool (decide (a=b)),[])
 |.neq=>some (.bool (!decide (a=b)),[])
 |.lss=>some (.bool (decide (a<b)),[])
 |.leq=>some (.bool (decide (a≤b)),[])
 |.gtr=>some (.bool (decide (b<a)),[])
 |.geq=>some (.bool (decide (b≤a)),[])
 |.and=>some (.int k (p0 k a b),[])
 |.or=>some (.int k (qV k a b),[])
 |.xor=>some (.int k (mY k a b),[])
 |.andNot=>some (.int k (Mj k a b),[])
 |_=>none
def Mm(op:BinOp)(a b:au'):Option (V×List Prop):=
 match op with
 |.add=>some (.str (a++b),[b5 (a.length+b.length)=true])
 |.eql=>some (.bool (decide (a=b)),[])
 |.neq=>some (.bool (!decide (a=b)),[])
 |.lss=>some (.bool (Op.bytesLess a b),[])
 |.leq=>some (.bool (Op.bytesLess a b||decide (a=b)),[])
 |.gtr=>some (.bool (!(Op.bytesLess a b||decide (a=b))),[])
 |.geq=>some (.bool (!Op.bytesLess a b),[])
 |_=>none
def isNil:mt→D→Option Bool
 |.ptr,.v .fC=>some true
 |.ptr,.ptr _ _=>some false
 |.ptr,.e' _=>some false
 |.pY,.v .jL=>some true
 |.pY,.v (.iface _ _)=>some false
 |.iK,.v .fD=>some true
 |.iK,.fn _ _=>some false
 |_,_=>none
def F9:mt→D→Bool
 |.ptr,.v .fC=>true
 |.pY,.v .jL=>true
 |.iK,.v .fD=>true
 |_,_=>false
def jk:List (Option mt)→List V→List V→Option Bool
 |[],[],[]=>some true
 |some (.int _)::ks,.int k a::l,.int k' b::m=>bif decide (k=k') then(jk ks l m).map λr=>decide (a=b)&&r else none
 |some .str::ks,.str a::l,.str b::m=>(jk ks l m).map λr=>decide (a=b)&&r
 |some .bool::ks,.bool a::l,.bool b::m=>(jk ks l m).map λr=>(a == b)&&r
 |_,_,_=>none
def mZ(tt:dH):Nat→List (Nat×TypeId×Nat)→List (Option mt)
 | 0,cD=>cD.map λf=>(look tt f.2.1).map (·.k)
 |d+1,cD=>cD.flatMap λf=>match look tt f.2.1 with
  |some {k:=.dE gs,..}=>mZ tt d gs
  |o=>[o.map (·.k)]
def Vb(k:Option mt)(afe:Bool)(op:BinOp)(a b:D):Option (V×List Prop):=
 match a,b with
 |.v (.int k x),.v (.int k' y)=>match Mk op k x y with
  |some z=>some z
  |none=>bif decide (k=k')then Ml op k x y else none
 |.v (.str x),.v (.str y)=>Mm op x y
 |.v (.bool x),.v (.bool y)=>match k,op with
  |some .bool,.eql=>some (.bool (x == y),[])
  |some .bool,.neq=>some (.bool (!(x == y)),[])
  |_,_=>none
 |a,b=>match k with
  |some k=>bif F9 k b&&afe then match isNil k a,op with
   |some t,.eql=>some (.bool t,[])
   |some t,.neq=>some (.bool (!t),[])
   |_,_=>none
   else none
  |none=>none
def isConst:Operand→Bool
 |.const _=>true
 |_=>false
def Vc(op:UnOp)(a:V):Option V:=
 match op,a with
 |.not,.bool b=>some (.bool (!b))
 |.neg,.int k n=>some (.int k (k.wrap (0-n)))
 |_,_=>none
def Bz(env:List (Nat×aW))(b6:List (Nat×Path×D))(t:Nat):Option Bool:=
 match look b6 t with
 |some (_,.v (.bool b))=>some b
 |some _=>none
 |none=>match look env t with
  |some ⟨.v (.bool b),_⟩=>some b
  |_=>none
def under(g:dk):Path→Prop→Prop
 |[],q=>q
 |(t,w)::p,q=>match Bz g.env g.b6 t with
  |some b=>b=w→under g p q
  |none=>under g p q
structure lC where
 e:Option aW
 hy:List Nat:=[]
 hs:List (Nat×List aW):=[]
 fv:Nat:=0
 rs:List fu
 a8:List Prop:=[]
def pg(g:dk):Operand→Option TypeId
 |.tmp t=>(look g.env t).bind (·.own)
 |_=>none
def aff(t:Nat)(o:Oper):Bool:=
 match o.op with
 |.assign (.tmp u)=>Nat.beq u t
 |.store _ _ (.tmp u)=>Nat.beq u t
 |.call {callee:=.builtin .append,args,..}=>match args.toList with
  |.tmp u::_=>Nat.beq u t
  |_=>false
 |_=>false
def afg(ops:List Oper)(dst:Option Nat):Bool:=
 match dst with
 |some t=>ops.any (aff t)
 |none=>false
def refs:D→List Nat
 |.ptr r _=>[r]
 |.cu r _ _=>[r]
 |.fn _ fm=>fm.flatMap fun |.ptr r _=>[r] |_=>[]
 |.agg cs=>cs.flatMap fun |.ptr r _=>[r] |.cu r _ _=>[r] |.fn _ fm=>(fm.flatMap fun |.ptr r _=>[r] |_=>[]) |_=>[]
 |_=>[]
def idx(l:List Nat)(r:Nat):Option Nat:=
 match l with
 |[]=>none
 |x::l=>bif Nat.beq x r then some 0 else(idx l r).map (· + 1)
def dedup:List Nat→List Nat
 |[]=>[]
 |x::l=>bif (dedup l).any (Nat.beq x)then dedup l else x::dedup l
mutual
def eC(f:Nat→Option Nat):D→Option D
 |.v x=>some (.v x)
 |.ptr r off=>(f r).map (.ptr · off)
 |.cu r off u=>(f r).map (.cu · off u)
 |.e' x=>some (.e' x)
 |.full k n get=>some (.full k n get)
 |.fn g fm=>(lD f fm).map (.fn g)
 |.agg cs=>(lD f cs).map .agg
 |.cn cs=>(lD f cs).map .cn
def lD(f:Nat→Option Nat):List D→Option (List D)
 |[]=>some []
 |d::l=>match eC f d,lD f l with
  |some dV,some cH=>some (dV::cH)
  |_,_=>none
end
def F'(f:Nat→Option Nat)(e:aW):Option aW:=(eC f e.d).map λd=>{d,own:=e.own}
def nt(f:Nat→Option Nat):List aW→Option (List aW)
 |[]=>some []
 |e::l=>match F' f e,nt f l with
  |some aY,some cH=>some (aY::cH)
  |_,_=>none
def kp(f:Nat→Option Nat):List (List aW)→Option (List (List aW))
 |[]=>some []
 |b::l=>match nt f b,kp f l with
  |some bE,some cH=>some (bE::cH)
  |_,_=>none
def boxes(H:List (Nat×List aW)):List Nat→Option (List (List aW))
 |[]=>some []
 |r::l=>match look H r,boxes H l with
  |some b,some bs=>some (b::bs)
  |_,_=>none
def cX{α:Type}:Nat→List α→List (Nat×α)
 |_,[]=>[]
 |n,x::l=>(n,x)::cX (n+1) l
def lE:List Nat→List (List aW)→List (Nat×List aW)
 |r::l,b::bs=>(r,b)::lE l bs
 |_,_=>[]
def mapM'{α β:Type}(f:α→Option β):List α→Option (List β)
 |[]=>some []
 |x::l=>match f x,mapM' f l with
  |some y,some ys=>some (y::ys)
  |_,_=>none
structure gF where
 call:FuncId→List D→List (Nat×TypeId)→List (List aW)→Out→List (List aW)→Prop
 eq:TypeId→Bool
inductive om where
 |go (e:lC)
 |aJ (x:V) (hs:List (Nat×List aW)) (a8:List Prop)
def ph(H:List (Nat×List aW)):Nat→List Nat→List Nat
 | 0,l=>l
 |n+1,l=>ph H n (dedup (l++l.flatMap λr=>((look H r).getD []).flatMap λe=>refs e.d))
def nu:List Nat→Bool
 |[]=>true
 |x::l=>!l.any (Nat.beq x)&&nu l
def handed(tt:dH)(g:dk)(xs:List Operand)(ts:List TypeId):List Nat→Option (List (Nat×Option Nat×TypeId))
 |[]=>some []
 |i::os=>match xs[i]?,handed tt g xs ts os with
  |some (.tmp t),some l=>match look g.env t with
   |some ⟨_,some e⟩=>bif (look g.b6 t).isNone&&l.all (λx=>!(match x.2.1 with |some u=>Nat.beq u t |none=>false) && !Nat.beq x.1 i)then some ((i,some t,e)::l)else none
   |_=>none
  |some (.const (.slice none 0 0)),some l=>match(ts[i]?).bind (look tt) with
   |some {k:=.bJ e,..}=>bif l.all (λx=>!Nat.beq x.1 i)then some ((i,none,e)::l)else none
   |_=>none
  |_,_=>none
def yk(ck:gF)(tt:dH)(g:dk)(p:Path)(xs:List Operand)(ts:List TypeId)(f:FuncId)(args:List D):Option om:=
 let ρ:=ph g.H 2 (dedup (args.flatMap refs))
 match g.rs with
 |.call out cE os::rs=>
  match lD (idx ρ) args,(boxes g.H ρ).bind (kp (idx ρ)),handed tt g xs ts os with
  |some jZ,some H1,some hd=>bif !nu ρ || !(p.isEmpty||os.isEmpty)then none else
   let er:=hd.map λx=>(x.1,x.2.2)
   let hy:=hd.filterMap λx=>x.2.1
   match out,cE with
   |.ret d own,none=>(eC (λj=>ρ[j]?) d).map λdV=>.go {e:=some {d:=dV,own},hy,rs,a8:=[ck.call f jZ er H1 out H1]}
   |.ret d own,some cE=>match eC (λj=>ρ[j]?) d,kp (λj=>ρ[j]?) cE with
    |some dV,some i'=>bif Nat.beq cE.length ρ.length then some (.go {e:=some {d:=dV,own},hy,hs:=lE ρ i',rs,a8:=[ck.call f jZ er H1 out cE]})else none
    |_,_=>none
   |.aJ x,none=>some (.aJ x [] [ck.call f jZ er H1 out H1])
   |.aJ x,some cE=>match kp (λj=>ρ[j]?) cE with
    |some i'=>bif Nat.beq cE.length ρ.length then some (.aJ x (lE ρ i') [ck.call f jZ er H1 out cE])else none
    |none=>none
  |_,_,_=>none
 |_=>none
def F_:V→Option TypeId→Option TypeId
 |.bJ _ _ _,t=>t
 |_,_=>none
def Vd(tt:dH):Nat→List (Nat×TypeId×Nat)→Nat→Option TypeId
 | 0,_,_=>none
 |d+1,cD,j=>match cD.find? λf=>Nat.ble f.1 j&&Nat.blt j (f.1+f.2.2) with
  |some f=>match look tt f.2.1 with
   |some {k:=.bJ e,..}=>some e
   |some {k:=.dE gs,..}=>Vd tt d gs (j-f.1)
   |_=>none
  |none=>none
def Ga(tt:dH):mt→Nat→Option TypeId
 |.dE cD,j=>Vd tt 5 cD j
 |.bJ e,0=>some e
 |_,_=>none
def Ve(tt:dH)(jY:List (Nat×TypeId))(k:mt)(i:Nat):Option TypeId:=
 match Ga tt k i with
 |some e=>some e
 |none=>(jY.find? λy=>Nat.beq (y.1+1) i).bind λy=>match look tt y.2 with |some {k,..}=>Ga tt k 1 |none=>none
def BA(jY:List (Nat×TypeId))(id i:Nat)(x:V):D:=
 match x with
 |.fC=>match jY.find? λy=>Nat.beq y.1 i with
  |some y=>.cu id i y.2
  |none=>.v x
 |_=>.v x
def Gb(tt:dH)(t:TypeId)(id:Nat):Option (List aW):=
 match look tt t with
 |some {k:=.bJ e,zero,..}=>some (zero.map λx=>{d:=.v x,own:=F_ x (some e)})
 |some {k:=.dE cD,zero,jY,..}=>some ((cX 0 zero).map fun(i,x)=>
  {d:=BA jY id i x,own:=F_ x (Ve tt jY (.dE cD) i)})
 |some {zero,..}=>some (zero.map λx=>{d:=.v x})
 |none=>none
def V.isAgg:V→Bool
 |.agg _=>true
 |_=>false
def Mn:V→V
 |.bJ k 0 g=>.pe k g
 |x=>x
def p1(ty:Nat→Option TypeId):Nat→List aW→List aW
 |_,[]=>[]
 |i,e::l=>(match e.d with
  |.v (.pe k g)=>{d:=.v (.bJ k 0 g),own:=ty i}
  |_=>e)::p1 ty (i+1) l
def elems(isAgg:Bool)(size:Nat):Nat→List (Nat×D)→Option (List V)
 |_,[]=>some []
 |i,(j,.v x)::bu=>bif Nat.beq i j&&Nat.beq x.cells.length size&&(x.isAgg == isAgg) then(elems isAgg size (i+1) bu).map (x :: ·)else none
 |_,_=>none
def sd(tt:dH)(t:TypeId)(i:Nat):TypeId:=
 match look tt t with
 |some {k:=.dE cD,..}=>match cD[i]? with
  |some f=>f.2.1
  |none=>0
 |some {k:=.arr _ e,..}=>e
 |some {k:=.bJ e,..}=>e
 |_=>0
def yl(tt:dH)(aE:eI)(id i:Nat)(d:D):aW:=
 match d with
 |.v .fC=>{d:=BA aE.jY id i .fC}
 |.v (.pe k g)=>match Ve tt aE.jY aE.k i with
  |some T=>{d:=.v (.bJ k 0 g),own:=some T}
  |none=>{d}
 |d=>{d}
def qW(tt:dH)(aE:eI)(id:Nat):Nat→List D→List aW
 |_,[]=>[]
 |i,d::l=>yl tt aE id i d::qW tt aE id (i+1) l
def oo(g:dk)(o:Oper):Option (Nat×Nat):=
 match o.dst.bind (look g.ids) with
 |some id=>bif (look g.H id).isNone&&Nat.blt id g.aX then some (id,0)else none
 |none=>some (g.aX,1)
def Vf:Nat→Nat→List (Nat×TypeId)
 | 0,_=>[]
 |f+1,c=>bif Nat.beq c 0 then[] else((c % 1000000-1) / 1000,(c % 1000000-1) % 1000)::Vf f (c / 1000000)
def marks(T:Nat):List (Nat×TypeId):=Vf 8 (T / 1000000)
def marksOf:Nat→List aW→List (Nat×TypeId)
 |_,[]=>[]
 |i,e::l=>match e.own with
  |some T=>(i,T)::marksOf (i+1) l
  |none=>marksOf (i+1) l
def tQ:List (Nat×TypeId)→List (Nat×TypeId)→Bool
 |[],[]=>true
 |x::l,y::m=>Nat.beq x.1 y.1&&Nat.beq x.2 y.2&&tQ l m
 |_,_=>false
def ym:List (Nat×TypeId)→Nat→Option TypeId
 |[],_=>none
 |x::l,i=>bif Nat.beq x.1 i then some x.2 else ym l i
def Mo:D→Bool
 |.v (.agg _)=>true
 |.agg _=>true
 |_=>false
def p2(ms:List (Nat×TypeId)):Nat→List D→List aW
 |_,[]=>[]
 |i,d::l=>{d,own:=ym ms i}::p2 ms (i+1) l
def step1(ck:gF)(tt:dH)(ops:List Oper)(g:dk)(p:Path)(o:Oper):Option om:=
 let r:=rd g.env g.b6 p tt o.type
 let val (d:Option D):Option om:=d.map λd=>.go {e:=some {d},rs:=g.rs}
 let BB (x:Option (V×List Prop)):Option om:=x.map fun(x,a8)=>.go {e:=some {d:=.v x},rs:=g.rs,a8}
 let Gc (raw:V) (mk:V→D) (a8:List Prop):Option om:=match g.rs with
  |.val x::rs=>some (.go {e:=some {d:=mk x},rs,a8:=hv raw x::a8})
  |.raw::rs=>some (.go {e:=some {d:=mk raw},rs,a8:=a8})
  |_=>none
 match o.op with
 |.move x=>match r x with
  |some d=>match pg g x,x with
   |some e,.tmp t=>match g.rs with
    |.own::rs=>bif p.isEmpty then some (.go {e:=some {d,own:=some e},hy:=[t],rs})else none
    |_=>bif p.isEmpty&&afg ops o.dst then some (.go {e:=some {d,own:=some e},hy:=[t],rs:=g.rs})else some (.go {e:=some {d},rs:=g.rs})
   |_,_=>some (.go {e:=some {d},rs:=g.rs})
  |none=>none
 |.assign x=>match r x with
  |some d=>match pg g x,x with
   |some e,.tmp t=>bif p.isEmpty then some (.go {e:=some {d,own:=some e},hy:=[t],rs:=g.rs})else some (.go {e:=some {d},rs:=g.rs})
   |_,.const (.slice none 0 0)=>match look tt o.type with
    |some {k:=.bJ e,..}=>bif p.isEmpty then some (.go {e:=some {d,own:=some e},rs:=g.rs})else some (.go {e:=some {d},rs:=g.rs})
    |_=>none
   |_,_=>some (.go {e:=some {d},rs:=g.rs})
  |none=>none
 |.pick (.tmp c) a b=>match r (.tmp c),rd g.env g.b6 ((c,true)::p) tt o.type a,rd g.env g.b6 ((c,false)::p) tt o.type b with
  |some (.v (.bool tR)),some (.v (.bool BC)),some (.v (.bool qX))=>val (some (.v (.bool (bif tR then BC else qX))))
  |_,_,_=>none
 |.alloc t=>match oo g o with
  |some (id,fv)=>match Gb tt t id with
   |some z=>some (.go {e:=some {d:=.ptr id 0},hs:=[(id,z)],fv,rs:=g.rs})
   |none=>none
  |none=>none
 |.box t x=>match r x,oo g o,look tt t with
  |some d,some (id,fv),some aE=>bif qU d || !sb (cellsD d) || !Nat.beq (cellsD d).length aE.size then none else some (.go {e:=some {d:=.ptr id 0},hs:=[(id,qW tt aE id 0 (cellsD d))],fv,rs:=g.rs})
  |_,_,_=>none
 |.build t parts=>match look tt t,mapM' (fun(i,x)=>(rd g.env g.b6 p tt (sd tt t i) x).map λd=>(i,d)) parts.toList with
  |some {k:=.dE cD,zero,..},some bu=>bif cD.all (λf=>Nat.ble 1 f.2.2)then match g.rs with
   |.own::rs=>((sc (λi=>(cD[i]?).map λf=>(f.1,f.2.2)) (zero.map λx=>.v (Mn x)) bu).map mX).map λd=>.go {e:=some {d},rs}
   |_=>val ((sc (λi=>(cD[i]?).map λf=>(f.1,f.2.2)) (zero.map .v) bu).map mX)
   else none
  |some {k:=.arr _ e,zero,..},some bu=>match look tt e with
   |some {size,..}=>val ((sc (λi=>some (i*size,size)) (zero.map .v) bu).map mX)
   |none=>none
  |_,_=>none
 |.buildSlice t len parts=>match look tt t,mapM' (fun(i,x)=>(rd g.env g.b6 p tt (sd tt t i) x).map λd=>(i,d)) parts.toList with
  |some {k:=.bJ e,..},some bu=>match look tt e with
   |some {k,size,..}=>
    match elems k.isAgg size 0 bu,g.rs with
    |some xs,.val x::rs=>bif Nat.ble (len*size) 16777216&&Nat.ble 1 size&&Nat.beq xs.length len then some (.go {e:=some {d:=.v x,own:=some e},rs,a8:=[hv (.bJ size len λi=>xs.getD i .fC) x]})else none
    |_,_=>none
   |none=>none
  |_,_=>none
 |.load t a=>match r a,look tt t with
  |some (
   .ptr q off),some aE=>match look g.H q with
   |some cs=>bif aE.k.isAgg then
    bif Nat.ble (off+aE.size) cs.length then match g.rs with
     |.marks c::rs=>bif p.isEmpty&&tQ (marks c) (marksOf 0 ((cs.drop off).take aE.size)) then
      some (.go {e:=some {d:=mX (((cs.drop off).take aE.size).map (·.d)),own:=some c},hs:=[(q,setAt cs off (((cs.drop off).take aE.size).map λe=>{d:=e.d}))],rs})else none
     |_=>val (some (mX (((cs.drop off).take aE.size).map (·.d))))else none
    else match cs[off]? with
     |some e=>match e.own,g.rs with
      |some _,.own::rs=>bif p.isEmpty then some (.go {e:=some e,hs:=[(q,setAt cs off [{d:=e.d}])],rs})else none
      |_,_=>val (some e.d)
     |none=>none
   |none=>none
  |some (.e' x),some aE=>bif x.isAgg == aE.k.isAgg&&Nat.beq x.cells.length aE.size then val (some (.v x))else none
  |_,_=>none
 |.store t a x=>match r a,rd g.env g.b6 p tt t x,look tt t with
  |some (
   .ptr q off),some d,some aE=>match look g.H q with
   |some cs=>bif Nat.beq (cellsD d).length aE.size&&Nat.ble (off+aE.size) cs.length&&p.isEmpty && !qU d&&sb (cellsD d) then
    match x,pg g x,d with
    |.tmp u,some s,.v (.bJ ..)=>some (.go {e:=none,hy:=[u],hs:=[(q,setAt cs off [{d,own:=some s}])],rs:=g.rs})
    |.const (.slice none 0 0),_,_=>match aE.k with
     |.bJ s=>some (.go {e:=none,hs:=[(q,setAt cs off [{d,own:=some s}])],rs:=g.rs})
     |_=>none
    |.tmp u,some s,_=>match g.rs with
     |.marks _::rs=>bif Mo d&&((marks s).all λx=>Nat.blt x.1 aE.size)then some (.go {e:=none,hy:=[u],hs:=[(q,setAt cs off (p2 (marks s) 0 (cellsD d)))],rs})else none
     |_=>some (.go {e:=none,hs:=[(q,p1 (λi=>Ga tt aE.k (i-off)) 0 (setAt cs off ((cellsD d).map λd=>{d})))],rs:=g.rs})
    |_,_,_=>some (.go {e:=none,hs:=[(q,p1 (λi=>Ga tt aE.k (i-off)) 0 (setAt cs off ((cellsD d).map λd=>{d})))],rs:=g.rs})
    else none
   |none=>none
  |_,_,_=>none
 |.nilCheck x=>match r x with
  |some (.ptr q off)=>val (some (.ptr q off))
  |some (.e' x)=>val (some (.e' x))
  |_=>none
 |.binOp op t x y _=>match r x,r y with
  |some (.v (.agg xs)),some (.v (.agg ys))=>match look tt t with
   |some {k:=.dE cD,..}=>bif ck.eq t then match op,jk (mZ tt 4 cD) xs ys with
    |.eql,some r=>val (some (.v (.bool r)))
    |.neq,some r=>val (some (.v (.bool (!r))))
    |_,_=>none
    else none
   |_=>none
  |some a,some b=>BB (Vb ((look tt t).map (·.k)) (isConst y) op a b)
  |_,_=>none
 |.unOp op _ x=>match r x with
  |some (.v a)=>val ((Vc op a).map .v)
  |_=>none
 |.convert s t x=>match look tt s,look tt t,r x with
  |some {k:=.int _,..},some {k:=.int k,..},some (.v (.int _ n))=>val (some (.v (.int k (k.wrap n))))
  |some {k:=.str,..},some {k:=.str,..},some (.v (.str s))=>val (some (.v (.str s)))
  |some {k:=.bJ e,..},some {k:=.str,..},some (.v (.bJ 1 n get))=>match look tt e,g.rs with
   |some {k:=.int .u8,..},.val (.str l)::rs=>some (.go {e:=some {d:=.v (.str l)},rs,a8:=[l.length=n∧∀i,i<n→get i = .int .u8 ((l.getD i 0).toNat:Int)]})
   |_,_=>none
  |_,_,_=>none
 |.makeInterface t x=>match r x,look tt t with
  |some (.v x),some {k,..}=>match k with
   |.pY=>none
   |_=>val (some (.v (.iface t x)))
  |_,_=>none
 |.makeFunc (.func f) first fm=>bif first.isEmpty then(mapM' r fm.toList).map λds=>.go {e:=some {d:=.fn f ds},rs:=g.rs}else none
 |.slice t x lo hi kq=>match kq,look tt t with
  |none,some {k:=.str,..}=>match r x,lo.map r,hi.map r with
   |some (.v (.str s)),none,none=>val (some (.v (.str s)))
   |some (.v (.str s)),some (some (.v (.int _ a))),none=>BB (some (.str (s.drop a.toNat),[gT a s.length=true]))
   |some (.v (.str s)),none,some (some (.v (.int _ b)))=>BB (some (.str (s.take b.toNat),[gT b s.length=true]))
   |some (.v (.str s)),some (some (.v (.int _ a))),some (some (.v (.int _ b)))=>BB (some (.str ((s.take b.toNat).drop a.toNat),[l4 a b s.length=true]))
   |_,_,_=>none
  |none,some {k:=.bJ e,..}=>match look tt e,r x,lo.map r,hi.map r with
   |some {size,..},some (.v (.bJ k n get)),some (some (.v (.int _ a))),none=>bif Nat.beq k size then Gc (.bJ k (n-a.toNat) λi=>get (a.toNat+i)) .v [gT a n=true]else none
   |some {size,..},some (.v (.bJ k n get)),none,some (some (.v (.int _ b)))=>bif Nat.beq k size then Gc (.bJ k b.toNat get) .v [gT b n=true]else none
   |some {size,..},some (.v (.bJ k n get)),some (some (.v (.int _ a))),some (some (.v (.int _ b)))=>bif Nat.beq k size then Gc (.bJ k (b.toNat-a.toNat) λi=>get (a.toNat+i)) .v [l4 a b n=true]else none
   |some {size,..},some (.v (.bJ k n get)),none,none=>bif Nat.beq k size then val (some (.v (.bJ k n get)))else none
   |_,_,_,_=>none
  |some _,some {k:=.bJ e,..}=>match look tt e,r x,lo,hi.map r,kq.map r with
   |some {size,..},some (.v (.bJ k n get)),none,some (some (.v (.int _ b))),some (some (.v (.int _ c)))=>bif Nat.beq k size then some (.go {e:=some {d:=.full k b.toNat get},rs:=g.rs,a8:=[b=c,gT b n=true]})else none
   |_,_,_,_,_=>none
  |_,_=>none
 |.fieldAddr s x f=>match r x,look tt s with
  |some (.ptr q off),some {k:=.dE cD,..}=>match cD[f]? with
   |some (cR,_,fA)=>bif Nat.ble 1 fA then val (some (.ptr q (off+cR)))else none
   |none=>none
  |some (
   .e' (.agg cs)),some {k:=.dE cD,..}=>match cD[f]? with
   |some (
    cR,ic,fA)=>match look tt ic with
    |some aE=>bif Nat.ble 1 fA&&Nat.ble (cR+fA) cs.length then
     bif aE.k.isAgg then val (some (.e' (.agg ((cs.drop cR).take fA))))else bif Nat.beq fA 1 then match cs[cR]? with
      |some c=>bif c.isAgg then none else val (some (.e' c))
      |none=>none
     else none
     else none
    |none=>none
   |none=>none
  |_,_=>none
 |.field s x f=>match r x,look tt s with
  |some (
   .v (.agg cs)),some {k:=.dE cD,..}=>match cD[f]? with
   |some (cR,ic,fA)=>match look tt ic with
    |some aE=>bif Nat.ble (cR+fA) cs.length then bif aE.k.isAgg then val (some (.v (.agg ((cs.drop cR).take fA))))else match cs[cR]? with
     |some c=>val (some (.v c))
     |none=>none
     else none
    |none=>none
   |none=>none
  |some (.agg cs),some {k:=.dE cD,..}=>match cD[f]? with
   |some (cR,ic,fA)=>match look tt ic,cs[cR]? with
    |some aE,some c=>bif aE.k.isAgg || !Nat.beq fA 1||qU c then none else val (some c)
    |_,_=>none
   |none=>none
  |_,_=>none
 |.indexAddr t x i=>match r x,r i,look tt t with
  |some (.v (.bJ k n get)),some (.v (.int _ j)),some {k:=.bJ e,..}=>match look tt e with
   |some {size,..}=>bif Nat.beq k size&&Nat.ble 1 size then Gc (get j.toNat) .e' [aI j n=true]else none
   |none=>none
  |_,_,_=>none
 |.index t x i=>match r x,r i,look tt t with
  |some (.v (.str s)),some (.v (.int _ j)),some {k:=.str,..}=>BB (some (.int .u8 (s.getD j.toNat 0).toNat,[aI j s.length=true]))
  |_,_,_=>none
 |.typeAssert x _ t ok=>match r x,look tt t with
  |some (.v (.iface bX y)),some {k,..}=>match k with
   |.pY=>none
   |_=>bif Nat.beq bX t then val (some (bif ok then .cn [.v y,.v (.bool true)]else .v y))else none
  |_,_=>none
 |.extract x i=>match r x with
  |some (.cn ds)=>val ds[i]?
  |_=>none
 |.call c=>match c.callee with
  |.value x=>match r x,l5 (rd g.env g.b6 p tt) c.args.toList c.argTypes.toList with
   |some (.fn f fm),some ds=>yk ck tt g p c.args.toList c.argTypes.toList f (ds++fm)
   |_,_=>none
  |.builtin .len=>match mapM' (λy=>r y) c.args.toList,(c.argTypes.toList[0]?).bind (look tt) with
   |some [.v (.str s)],some {k:=.str,..}=>val (some (.v (.int .i64 s.length)))
   |some [.v (.bJ _ n _)],some {k:=.bJ _,..}=>val (some (.v (.int .i64 n)))
   |_,_=>none
  |.builtin .append=>match c.args.toList,(c.argTypes.toList[0]?).bind (look tt),(c.argTypes.toList[1]?).bind (look tt) with
   |[.tmp t,x],some {k:=.bJ e,..},some t2=>match look tt e,r (.tmp t),r x,look g.env t,g.rs with
    |some cm,some (.v (.bJ k n get)),some d2,some ⟨_,some aY⟩,.val y::rs=>
     bif Nat.beq e aY&&Nat.beq k cm.size&&Nat.ble 1 cm.size&&Nat.ble 1 cm.bytes&&p.isEmpty then
      match d2,t2.k with
      |.v (.bJ aj m mv),.bJ _=>bif Nat.beq aj k then
       some (.go {e:=some {d:=.v y,own:=some e},hy:=[t],rs,a8:=[hv (.bJ k (n+m) λi=>bif Nat.blt i n then get i else mv (i-n)) y,room (n+m) cm.bytes=true]})
       else none
      |.v (.str s),.str=>bif Nat.beq k 1 then
       some (.go {e:=some {d:=.v y,own:=some e},hy:=[t],rs,a8:=[hv (.bJ k (n+s.length) λi=>bif Nat.blt i n then get i else .int .u8 (s.getD (i-n) 0).toNat) y,room (n+s.length) cm.bytes=true]})
       else none
      |_,_=>none
     else none
    |some cm,some (.full k n get),some d2,_,.val y::rs=>
     bif Nat.beq k cm.size&&Nat.ble 1 cm.size&&Nat.ble 1 cm.bytes&&p.isEmpty then
      match d2,t2.k with
      |.v (.bJ aj m mv),.bJ _=>bif Nat.beq aj k&&Nat.ble 1 m then
       some (.go {e:=some {d:=.v y,own:=some e},hy:=[t],rs,a8:=[hv (.bJ k (n+m) λi=>bif Nat.blt i n then get i else mv (i-n)) y,room (n+m) cm.bytes=true]})
       else none
      |_,_=>none
     else none
    |_,_,_,_,_=>none
   |_,_,_=>none
  |.builtin .min=>match mapM' (λy=>r y) c.args.toList with
   |some [.v (.int k a),.v (.int aj b)]=>bif decide (k=aj)then val (some (.v (.int k (bif decide (b<a)then b else a))))else none
   |_=>none
  |.builtin .max=>match mapM' (λy=>r y) c.args.toList with
   |some [.v (.int k a),.v (.int aj b)]=>bif decide (k=aj)then val (some (.v (.int k (bif decide (a<b)then b else a))))else none
   |_=>none
  |_=>none
 |.panic x=>match r x with
  |some (.v (.iface t y))=>some (.aJ (.iface t y) [] [])
  |_=>none
 |_=>none
def gU:List Nat→List (Nat×aW)→List (Nat×aW)
 |[],env=>env
 |t::l,env=>match look env t with
  |some e=>(t,{e with own:=none})::gU l env
  |none=>gU l env
inductive tS where
 |go (g:dk)
 |aJ (x:V) (st:aH) (a8:List Prop)
def p3:List (Nat×aW)→List (Nat×aW)
 |[]=>[]
 |(t,e)::l=>(t,{d:=e.d})::p3 l
def p4(ops:List Oper)(g:dk)(o:Oper):Option Path:=
 match o.guard with
 |none=>some []
 |some (j,w)=>match(ops[j]?).bind (·.dst) with
  |some t=>match look g.b6 t with
   |some (q,.v (.bool _))=>some (q++[(t,w)])
   |some _=>none
   |none=>match look g.env t with
    |some ⟨.v (.bool _),_⟩=>some [(t,w)]
    |_=>none
  |none=>none
def yn(b6:List (Nat×Path×D))(t:Nat):Bool:=b6.all λx=>Nat.beq x.1 t||x.2.1.all λy=>!Nat.beq y.1 t
def kr(
 ck:gF) (tt:dH) (N:Nat) (ops:List Oper) (g:dk) (o:Oper):Option tS:=
 match p4 ops g o with
 |none=>none
 |some p=>
  match step1 ck tt ops g p o with
  |none=>none
  |some (.aJ x hs a8)=>bif p.isEmpty then some (.aJ x {env:=p3 g.env,H:=hs++g.H,aX:=g.aX} (a8++g.a8))else none
  |some (
   .go f)=>
   let e0:dk:={g with rs:=f.rs,a8:=f.a8.map (under g p)++g.a8}
   match o.dst with
   |none=>bif p.isEmpty then some (.go {e0 with env:=gU f.hy g.env,H:=f.hs++g.H,aX:=g.aX+f.fv})else none
   |some t=>bif Nat.blt t N&&yn g.b6 t then
    match p with
    |[]=>some (.go {e0 with
     env:=match f.e with|some e=>(t,e)::gU f.hy g.env|none=>del (gU f.hy g.env) t
     b6:=del g.b6 t,H:=f.hs++g.H,aX:=g.aX+f.fv})
    |_::_=>match f.e,f.hs,f.hy with
     |some e,[],[]=>bif p.all (λy=>!Nat.beq y.1 t)&&Nat.beq f.fv 0 then some (.go {e0 with env:=del g.env t,b6:=(t,p,e.d)::del g.b6 t})else none
     |_,_,_=>none
    else none
def tT(ck:gF)(tt:dH)(N:Nat)(ops:List Oper):List Oper→dk→Option tS
 |[],g=>some (.go g)
 |o::l,g=>match kr ck tt N ops g o with
  |some (.go e0)=>tT ck tt N ops l e0
  |x=>x
mutual
def below(n:Nat):D→Bool
 |.v _ |.e' _ |.full _ _ _=>true
 |.ptr r _=>Nat.blt r n
 |.cu r _ _=>Nat.blt r n
 |.fn _ fm=>vD n fm
 |.agg cs |.cn cs=>vD n cs
def vD(n:Nat):List D→Bool
 |[]=>true
 |d::l=>below n d&&vD n l
end
def se(n:Nat):List aW→Bool
 |[]=>true
 |e::l=>below n e.d&&se n l
def BD(env:List (Nat×aW)):List Nat→Option (List (Nat×aW))
 |[]=>some []
 |t::l=>match look env t,BD env l with
  |some e,some cH=>some ((t,e)::cH)
  |_,_=>none
def BE(H:List (Nat×List aW)):List Nat→Option (List (Nat×List aW))
 |[]=>some []
 |r::l=>match look H r,BE H l with
  |some e,some cH=>some ((r,e)::cH)
  |_,_=>none
def vE(live:List Nat)(boxes:List Nat)(n:Nat)(env:List (Nat×aW))(H:List (Nat×List aW))(aX:Nat):Option aH:=
 match BD env live,BE H boxes with
 |some oq,some H'=>bif Nat.ble n aX&&oq.all (λx=>below n x.2.d)&&H'.all (λx=>Nat.blt x.1 n&&se n x.2)then some {env:=oq,H:=H',aX:=n}else none
 |_,_=>none
inductive Fin where
 |go (st:aH) (a8:List Prop)
 |aJ (x:V) (st:aH) (a8:List Prop)
def dq.mono{M M':Mem}(c7:M.le M'){v:Value}{x:V}(h:dq M v x):dq M' v x:=by
 induction h with
 |int k n=>exact .int k n
 |bool b=>exact .bool b
 |str l=>exact .str l
 |agg vs cs hn Z _ aM=>exact .agg vs cs hn Z aM
 |mu k get=>exact .mu k get
 |pZ a k get=>exact .pZ a k get
 |bJ b off k n cap get val hc hk hm Z _ aM=>exact .bJ b off k n cap get val hc hk (λi j hi hj=>c7 _ _ _ (hm i j hi hj)) Z aM
 |iface t v x _ aM=>exact .iface t v x aM
 |fC=>exact .fC
 |jL=>exact .jL
 |fD=>exact .fD
 |any v Z=>exact .any v Z
 |pe k get=>exact .pe k get
inductive cv(M:Mem)(β:Nat→Option Nat):Value→D→Prop where
 |v (u:Value) (x:V) (h:dq M u x):cv M β u (.v x)
 |ptr (r off b:Nat) (h:β r=some b):cv M β (.pointer (some ⟨b,off,none⟩)) (.ptr r off)
 |l6 (r off:Nat) (u:TypeId):cv M β (.pointer none) (.cu r off u)
 |cu (r off b:Nat) (u:TypeId) (h:β r=some b):cv M β (.pointer (some ⟨b,off,none⟩)) (.cu r off u)
 |e' (b off:Nat) (x:V) (val:Nat→Value) (c7:∀j,j<x.cells.length→M b (off+j)=some (val j)) (Z:∀j,j<x.cells.length→(val j).oneCell'=true)
  (h:∀(j:Nat) c,x.cells[j]? = some c→dq M (val j) c):cv M β (.pointer (some ⟨b,off,none⟩)) (.e' x)
 |full (base:Option Addr) (k n:Nat) (get:Nat→V) (h:dq M (.slice base n n) (.bJ k n get)):cv M β (.slice base n n) (.full k n get)
 |fn (f:FuncId) (vs:List Value) (cs:List D) (hn:vs.length=cs.length)
  (h:∀(i:Nat) v c,vs[i]? = some v→cs[i]? = some c→cv M β v c):cv M β (.func (.func f) #[] ⟨vs⟩) (.fn f cs)
 |agg (vs:List Value) (cs:List D) (hn:vs.length=cs.length) (Z:∀v,v∈vs→v.oneCell'=true)
  (h:∀(i:Nat) v c,vs[i]? = some v→cs[i]? = some c→cv M β v c):cv M β (.agg ⟨vs⟩) (.agg cs)
 |cn (vs:List Value) (cs:List D) (hn:vs.length=cs.length)
  (h:∀(i:Nat) v c,vs[i]? = some v→cs[i]? = some c→cv M β v c):cv M β (.tuple ⟨vs⟩) (.cn cs)
def cv.mono{M M':Mem}{β:Nat→Option Nat}(c7:M.le M'){v:Value}{d:D}(h:cv M β v d):cv M' β v d:=by
 induction h with
 |v u x h=>exact .v u x (h.mono c7)
 |ptr r off b h=>exact .ptr r off b h
 |l6 r off u=>exact .l6 r off u
 |cu r off b u h=>exact .cu r off b u h
 |e' b off x val hm Z h=>exact .e' b off x val (λj hj=>c7 _ _ _ (hm j hj)) Z (λj c hc=>(h j c hc).mono c7)
 |full b k n get h=>exact .full b k n get (h.mono c7)
 |fn f vs cs hn _ aM=>exact .fn f vs cs hn aM
 |agg vs cs hn Z _ aM=>exact .agg vs cs hn Z aM
 |cn vs cs hn _ aM=>exact .cn vs cs hn aM
def tU{n:Nat}:∀{l:List D} {i:Nat} {d:D},vD n l=true→l[i]? = some d→below n d=true
 |[],_,_,_,h=>by simp at h
 |d::l,0,_,hb,h=>by simp [vD]at hb;simp at h;exact h ▸ hb.1
 |d::l,i+1,_,hb,h=>by simp [vD]at hb;simp at h;exact tU hb.2 h
def cv.Vg{M:Mem}{β β':Nat→Option Nat}{n:Nat}(hH:∀r,r<n→β' r=β r){v:Value}{d:D}(h:cv M β v d):Ab.below n d=true→cv M β' v d:=by
 induction h with
 |v u x h=>intro _;exact .v u x h
 |ptr r off b h=>intro hb;exact .ptr r off b (by rw [hH r (by simpa [Ab.below,Nat.blt_eq]using hb)];exact h)
 |l6 r off u=>intro hb;exact .l6 r off u
 |cu r off b u h=>intro hb;exact .cu r off b u (by rw [hH r (by simpa [Ab.below,Nat.blt_eq]using hb)];exact h)
 |e' b off x val hm Z h=>intro _;exact .e' b off x val hm Z h
 |full b k n get h=>intro _;exact .full b k n get h
 |fn f vs cs hn _ aM=>intro hb;exact .fn f vs cs hn λi v c au hc=>aM i v c au hc (tU (by simpa [Ab.below]using hb) hc)
 |agg vs cs hn Z _ aM=>intro hb;exact .agg vs cs hn Z λi v c au hc=>aM i v c au hc (tU (by simpa [Ab.below]using hb) hc)
 |cn vs cs hn _ aM=>intro hb;exact .cn vs cs hn λi v c au hc=>aM i v c au hc (tU (by simpa [Ab.below]using hb) hc)
def yo{f:Nat→Option Nat}:∀{l cH:List D},lD f l=some cH→l.length=cH.length∧∀(i:Nat) d,l[i]? = some d→∃dV,cH[i]? = some dV∧eC f d=some dV
 |[],cH,h=>by simp [lD]at h;subst h;simp
 |d::l,cH,h=>by
  simp only [lD]at h;split at h<;>simp at h
  rename_i dV hf hd ab;subst h;obtain⟨Z,aa⟩:=yo ab;refine⟨by simp [Z],λi x hx=>?_⟩
  cases i with
  |zero=>simp at hx;subst hx;exact⟨dV,by simp,hd⟩
  |succ i=>simp at hx;simpa using aa i x hx
def cv.eC{M:Mem}{β β':Nat→Option Nat}{f:Nat→Option Nat}(hH:∀r s b,f r=some s→β r=some b→β' s=some b){v:Value}{d:D}(h:cv M β v d):
 ∀{dV},eC f d=some dV→cv M β' v dV:=by
 induction h with
 |v u x h=>intro dV hd;simp [Ab.eC]at hd;subst hd;exact .v u x h
 |ptr r off b h=>
  intro dV hd;simp only [Ab.eC,Option.map_eq_some_iff]at hd;obtain⟨s,hs,rfl⟩:=hd;exact .ptr s off b (hH r s b hs h)
 |l6 r off u=>
  intro dV hd;simp only [Ab.eC,Option.map_eq_some_iff]at hd;obtain⟨s,hs,rfl⟩:=hd;exact .l6 s off u
 |cu r off b u h=>
  intro dV hd;simp only [Ab.eC,Option.map_eq_some_iff]at hd;obtain⟨s,hs,rfl⟩:=hd;exact .cu s off b u (hH r s b hs h)
 |e' b off x val hm Z h=>intro dV hd;simp [Ab.eC]at hd;subst hd;exact .e' b off x val hm Z h
 |full b k n get h=>intro dV hd;simp [Ab.eC]at hd;subst hd;exact .full b k n get h
 |fn f vs cs hn _ aM=>
  intro dV hd;simp only [Ab.eC,Option.map_eq_some_iff]at hd;obtain⟨cs',ej,rfl⟩:=hd;obtain⟨Z,aa⟩:=yo ej;refine .fn f vs cs' (by omega) λi v c au hc=>?_
  have hi:i<cs.length:=by have:=(List.getElem?_eq_some_iff.1 hc).1;omega
  obtain⟨d1,gG,ai⟩:=aa i cs[i] (List.getElem?_eq_getElem hi);rw [hc]at gG;cases gG;exact aM i v _ au (List.getElem?_eq_getElem hi) ai
 |agg vs cs hn Z _ aM=>
  intro dV hd;simp only [Ab.eC,Option.map_eq_some_iff]at hd;obtain⟨cs',ej,rfl⟩:=hd;obtain⟨h0,aa⟩:=yo ej;refine .agg vs cs' (by omega) Z λi v c au hc=>?_
  have hi:i<cs.length:=by have:=(List.getElem?_eq_some_iff.1 hc).1;omega
  obtain⟨d1,gG,ai⟩:=aa i cs[i] (List.getElem?_eq_getElem hi);rw [hc]at gG;cases gG;exact aM i v _ au (List.getElem?_eq_getElem hi) ai
 |cn vs cs hn _ aM=>
  intro dV hd;simp only [Ab.eC,Option.map_eq_some_iff]at hd;obtain⟨cs',ej,rfl⟩:=hd;obtain⟨Z,aa⟩:=yo ej;refine .cn vs cs' (by omega) λi v c au hc=>?_
  have hi:i<cs.length:=by have:=(List.getElem?_eq_some_iff.1 hc).1;omega
  obtain⟨d1,gG,ai⟩:=aa i cs[i] (List.getElem?_eq_getElem hi);rw [hc]at gG;cases gG;exact aM i v _ au (List.getElem?_eq_getElem hi) ai
def cv.Mp{M:Mem}{β β':Nat→Option Nat}(hH:∀r b,β r=some b→β' r=some b){v:Value}{d:D}(h:cv M β v d):cv M β' v d:=by
 induction h with
 |v u x h=>exact .v u x h
 |ptr r off b h=>exact .ptr r off b (hH r b h)
 |l6 r off u=>exact .l6 r off u
 |cu r off b u h=>exact .cu r off b u (hH r b h)
 |e' b off x val hm Z h=>exact .e' b off x val hm Z h
 |full b k n get h=>exact .full b k n get h
 |fn f vs cs hn _ aM=>exact .fn f vs cs hn aM
 |agg vs cs hn Z _ aM=>exact .agg vs cs hn Z aM
 |cn vs cs hn _ aM=>exact .cn vs cs hn aM
def cv.afh{M:Mem}{β β':Nat→Option Nat}{n:Nat}(hH:∀r,r<n→∀b,β r=some b→β' r=some b){v:Value}{d:D}(h:cv M β v d):Ab.below n d=true→cv M β' v d:=by
 induction h with
 |v u x h=>intro _;exact .v u x h
 |ptr r off b h=>intro hb;exact .ptr r off b (hH r (by simpa [Ab.below,Nat.blt_eq]using hb) b h)
 |l6 r off u=>intro hb;exact .l6 r off u
 |cu r off b u h=>intro hb;exact .cu r off b u (hH r (by simpa [Ab.below,Nat.blt_eq]using hb) b h)
 |e' b off x val hm Z h=>intro _;exact .e' b off x val hm Z h
 |full b k n get h=>intro _;exact .full b k n get h
 |fn f vs cs hn _ aM=>intro hb;exact .fn f vs cs hn λi v c au hc=>aM i v c au hc (tU (by simpa [Ab.below]using hb) hc)
 |agg vs cs hn Z _ aM=>intro hb;exact .agg vs cs hn Z λi v c au hc=>aM i v c au hc (tU (by simpa [Ab.below]using hb) hc)
 |cn vs cs hn _ aM=>intro hb;exact .cn vs cs hn λi v c au hc=>aM i v c au hc (tU (by simpa [Ab.below]using hb) hc)
structure Ctx where
 vF:Mem
 F:Nat→Option Obj
 j':Nat→Option Nat
 h3:Os×Array (Nat×ByteArray)
 ds:List Deferred:=[]
inductive Loc where
 |slot (s:Nat)
 |cell (r i:Nat)
deriving DecidableEq
def aH.at(st:aH):Loc→Option aW
 |.slot s=>look st.env s
 |.cell r i=>(look st.H r).bind (·[i]?)
def ce(tmps:Array Value)(w:World)(β:Nat→Option Nat):Loc→Value
 |.slot s=>tmps.getD s undef
 |.cell r i=>match β r with
  |some b=>(w.cell? ⟨b,i,none⟩).getD undef
  |none=>undef
def kt:Value→Option Nat
 |.slice (some a) _ _=>some a.block
 |_=>none
def l7(P:Program)(F:Nat→Option Obj)(M:Mem)(w:World)(T:TypeId)(v:Value):Prop:=
 v = .slice none 0 0∨∃b n cap vs T',v = .slice (some ⟨b,0,none⟩) n cap∧n≤cap∧w.heap[b]? = some (.cells ⟨vs⟩ T' (0,0))∧cap*P.cellsOf T≤vs.length∧
  (∀o,n*P.cellsOf T≤o→M b o=none)∧F b=none∧T'=T
def ku(P:Program)(F:Nat→Option Obj)(M:Mem)(w:World)(T:TypeId):Value→Prop
 |.agg cs=>(∀x,x∈marks T→l7 P F M w x.2 (cs.getD x.1 undef))∧∀x,x∈marks T→∀y,y∈marks T→x.1≠y.1→∀b,kt (cs.getD x.1 undef)=some b→kt (cs.getD y.1 undef)≠some b
 |v=>l7 P F M w T v
def jl(T:TypeId):Value→Nat→Prop
 |.agg cs,b=>∃x,x∈marks T∧kt (cs.getD x.1 undef)=some b
 |v,b=>kt v=some b
def Mq (P : Program) : List Nat := ["strconv.ErrSyntax", "strconv.ErrRange"].filterMap P.globalNamed
def Mr:Array Value:=((List.range 20).map λi=>Value.int .u64 ((10 ^ i:Nat):Int)).toArray
def sf(P:Program)(F:Nat→Option Obj):Prop:=
 (∀g,g∈Mq P→∃cs t ld fQ,F g=some (.cells cs t ld)∧cs[0]? = some fQ∧(fQ = .nilIface∨∃cm sg,fQ = .iface cm sg))∧
 ∀ g, P.globalNamed "internal/strconv.uint64pow10" = some g → ∃ t ld, F g = some (.cells Mr t ld)
def sf.mono{P:Program}{F tV:Nat→Option Obj}(h:sf P F)(dz:∀b a8,F b=some a8→tV b=some a8):sf P tV:=⟨λg hg=>by
 obtain⟨cs,t,ld,fQ,Z,aa,am⟩:=h.1 g hg;exact⟨cs,t,ld,fQ,dz _ _ Z,aa,am⟩,λg hg=>by
 obtain⟨t,ld,Z⟩:=h.2 g hg;exact⟨t,ld,dz _ _ Z⟩⟩
def lF(P:Program)(T:TypeId)(n:Nat)(cs:List aW):Prop:=∀e,e∈cs→∀r off u,e.d = .cu r off u→liesAt P P.depth T (n / P.cellsOf T) off u 1=true
def afi(P:Program)(T:TypeId)(vs:List Value)(cs:List aW):Prop:=(∀v,v∈vs→v.oneCell'=true)∧lF P T vs.length cs
def lF.sub{P:Program}{T:TypeId}{n:Nat}{cs cs':List aW}(h:lF P T n cs)(hs:∀e,e∈cs'→∃bK,bK∈cs∧bK.d=e.d):lF P T n cs':=λe he r off u hd=>by
 obtain⟨bK,Z,aa⟩:=hs e he;exact h bK Z r off u (aa.trans hd)
structure bI(P:Program)(K:Ctx)(M:Mem)(β:Nat→Option Nat)(st:aH)(tmps:Array Value)(w:World):Prop where
 e4:∀l e,st.at l=some e→cv M β (ce tmps w β l) e.d
 own:∀l e T,st.at l=some e→e.own=some T→ku P K.F M w T (ce tmps w β l)
 uniq:∀l cH e aY T T' b,st.at l=some e→e.own=some T→st.at cH=some aY→aY.own=some T'→
  jl T (ce tmps w β l) b→jl T' (ce tmps w β cH) b→l=cH
 unbox:∀l e T b r cs,st.at l=some e→e.own=some T→jl T (ce tmps w β l) b→look st.H r=some cs→β r≠some b
 box:∀r cs,look st.H r=some cs→∃b vs T,β r=some b∧w.heap[b]? = some (.cells ⟨vs⟩ T (0,0))∧vs.length=cs.length∧(∀o,M b o=none)∧K.F b=none∧afi P T vs cs
 inj:∀r cI b cs cs',look st.H r=some cs→look st.H cI=some cs'→β r=some b→β cI=some b→r=cI
 lt:∀r b,β r=some b→r<st.aX
 mem:∀b o v,M b o=some v→w.cell? ⟨b,o,none⟩=some v
 m0:K.vF.le M
 frame:∀b a8,K.F b=some a8→w.heap[b]? = some a8∧∀o,M b o=K.vF b o
 iL:∀r b,K.j' r=some b→β r=some b
 jm:sf P K.F
 h3:(w.os,w.output)=K.h3
def aH.Ms{st:aH}{r i:Nat}{cs:List aW}(h:look st.H r=some cs):st.at (.cell r i)=cs[i]? := by simp [aH.at,h]
def BF:∀{l:List D},sb l=true→∀d,d∈l→∀r off u,d ≠ .cu r off u
 |[],h,d,hd=>by cases hd
 |x::l,h,d,hd=>by
  have aa:sb l=true:=by cases x<;>first|exact h|cases h
  rcases List.mem_cons.1 hd with rfl|jM
  ·intro r off u e;subst e;cases h
  ·exact BF aa d jM
def lF.Mt{P:Program}{T:TypeId}{n r:Nat}{st bY:aH}{cs cs':List aW}(h:lF P T n cs)(Z:look st.H r=some cs)(aa:look bY.H r=some cs')
 (he:∀l aY,bY.at l=some aY→∃e,st.at l=some e∧(e.d=aY.d∨∀q off u,aY.d ≠ .cu q off u)):lF P T n cs':=λe hm q off u hd=>by
 obtain⟨i,hi,rfl⟩:=List.getElem_of_mem hm;obtain⟨bK,g1,g2⟩:=he (.cell r i) cs'[i] (by rw [aH.Ms aa];exact List.getElem?_eq_getElem hi)
 rw [aH.Ms Z]at g1;rcases g2 with g2|g2
 ·exact h bK (List.mem_of_getElem? g1) q off u (g2.trans hd)
 ·exact absurd hd (g2 q off u)
def dC{α:Type}(j:Nat)(x:α)(l:List (Nat×α))(i:Nat):look ((j,x)::l) i=if j=i then some x else look l i:=by
 by_cases h:j=i
 ·simp [look,h]
 ·have:Nat.beq j i=false:=by rw [Bool.eq_false_iff];simpa using h
  simp [look,h,this]
def qY{α:Type}(l:List (Nat×α))(t i:Nat):look (del l t) i=if t=i then none else look l i:=by
 induction l with
 |nil=>simp [del,look]
 |cons x l aM=>
  obtain⟨j,x⟩:=x;by_cases h:j=t
  ·subst h;have:Nat.beq j j=true:=by simp
   simp only [del,this,cond_true,aM,dC];by_cases aa:j=i<;>simp [aa]
  ·have cG:Nat.beq j t=false:=by rw [Bool.eq_false_iff];simpa using h
   simp only [del,cG,cond_false,dC,aM];by_cases aa:j=i
   ·subst aa;simp [Ne.symm h]
   ·simp [aa]
def cell_of_heap{w:World}{b o:Nat}{vs:List Value}{T:TypeId}{pi:Nat×Nat}(h:w.heap[b]? = some (.cells ⟨vs⟩ T pi)):w.cell? ⟨b,o,none⟩=vs[o]? := by
 simp [World.cell?,h]
def lt_of_heap{w:World}{b:Nat}{a8:Obj}(h:w.heap[b]? = some a8):b<w.heap.size:=by
 rcases Nat.lt_or_ge b w.heap.size with cG|cG
 ·exact cG
 ·simp [Array.getElem?_eq_none cG]at h
def lt_of_cell{w:World}{b o:Nat}{v:Value}(h:w.cell? ⟨b,o,none⟩=some v):b<w.heap.size:=by
 unfold World.cell? at h;split at h
 ·rename_i bn;exact lt_of_heap bn
 ·cases h
def sh{w w':World}{b o:Nat}(h:w'.heap[b]? = w.heap[b]?):w'.cell? ⟨b,o,none⟩=w.cell? ⟨b,o,none⟩:=by
 simp [World.cell?,h]
section
variable {P:Program} {K:Ctx} {M M':Mem} {β β':Nat→Option Nat} {st bY:aH} {tmps ek:Array Value} {w w':World}
def l7.lt{F:Nat→Option Obj}{T:TypeId}{v:Value}{b:Nat}(h:l7 P F M w T v)(hb:kt v=some b):b<w.heap.size:=by
 rcases h with rfl|⟨bE,n,cap,vs,T',rfl,_,bn,_⟩
 ·simp [kt]at hb
 ·simp [kt]at hb;subst hb;exact lt_of_heap bn
def l7.free{F:Nat→Option Obj}{T:TypeId}{v:Value}{b:Nat}(h:l7 P F M w T v)(hb:kt v=some b):F b=none:=by
 rcases h with rfl|⟨bE,n,cap,vs,T',rfl,_,bn,_,_,dz,_⟩
 ·simp [kt]at hb
 ·simp [kt]at hb;subst hb;exact dz
def l7.congr{F:Nat→Option Obj}{T:TypeId}{v:Value}(h:l7 P F M w T v)(hw:∀b,kt v=some b→w'.heap[b]? = w.heap[b]?)(c7:∀b o,kt v=some b→M' b o=M b o):
 l7 P F M' w' T v:=by
 rcases h with rfl|⟨bE,n,cap,vs,T',rfl,Z,bn,aa,am,dz⟩
 ·exact .inl rfl
 ·exact .inr ⟨bE,n,cap,vs,T',rfl,Z,(hw bE rfl).trans bn,aa,λo ay=>(c7 bE o rfl).trans (am o ay),dz⟩
def l7.at{F:Nat→Option Obj}{T:TypeId}{v:Value}(h:l7 P F M w T v):ku P F M w T v:=by
 rcases h with rfl|⟨bE,n,cap,vs,T',rfl,Z,bn,aa,am,dz⟩
 ·exact .inl rfl
 ·exact .inr ⟨bE,n,cap,vs,T',rfl,Z,bn,aa,am,dz⟩
def l7.yp{F tV:Nat→Option Obj}{T:TypeId}{v:Value}(h:l7 P F M w T v)(dz:∀b,kt v=some b→F b=none→tV b=none):l7 P tV M w T v:=by
 rcases h with rfl|⟨bE,n,cap,vs,T',rfl,Z,bn,aa,am,aK,bd⟩
 ·exact .inl rfl
 ·exact .inr ⟨bE,n,cap,vs,T',rfl,Z,bn,aa,am,dz bE rfl aK,bd⟩
def ku.cases{F:Nat→Option Obj}{T:TypeId}{v:Value}(h:ku P F M w T v):
 (∃cs,v = .agg cs)∨(l7 P F M w T v∧∀b,jl T v b↔kt v=some b):=by
 cases v<;>first
  |exact .inl ⟨_,rfl⟩
  |exact .inr ⟨h,λ_=>Iff.rfl⟩
def ku.lt{F:Nat→Option Obj}{T:TypeId}{v:Value}{b:Nat}(h:ku P F M w T v)(hb:jl T v b):b<w.heap.size:=by
 rcases h.cases with⟨cs,rfl⟩|⟨Z,aa⟩
 ·obtain⟨x,hx,hb⟩:=hb;exact(h.1 x hx).lt hb
 ·exact Z.lt ((aa b).1 hb)
def ku.free{F:Nat→Option Obj}{T:TypeId}{v:Value}{b:Nat}(h:ku P F M w T v)(hb:jl T v b):F b=none:=by
 rcases h.cases with⟨cs,rfl⟩|⟨Z,aa⟩
 ·obtain⟨x,hx,hb⟩:=hb;exact(h.1 x hx).free hb
 ·exact Z.free ((aa b).1 hb)
def ku.congr{F:Nat→Option Obj}{T:TypeId}{v:Value}(h:ku P F M w T v)(hw:∀b,jl T v b→w'.heap[b]? = w.heap[b]?)(c7:∀b o,jl T v b→M' b o=M b o):
 ku P F M' w' T v:=by
 rcases h.cases with⟨cs,rfl⟩|⟨Z,aa⟩
 ·exact⟨λx hx=>(h.1 x hx).congr (λb hb=>hw b ⟨x,hx,hb⟩) (λb o hb=>c7 b o ⟨x,hx,hb⟩),h.2⟩
 ·exact(Z.congr (λb hb=>hw b ((aa b).2 hb)) (λb o hb=>c7 b o ((aa b).2 hb))).at
def ku.yp{F tV:Nat→Option Obj}{T:TypeId}{v:Value}(h:ku P F M w T v)(dz:∀b,jl T v b→F b=none→tV b=none):ku P tV M w T v:=by
 rcases h.cases with⟨cs,rfl⟩|⟨Z,aa⟩
 ·exact⟨λx hx=>(h.1 x hx).yp λb hb=>dz b ⟨x,hx,hb⟩,h.2⟩
 ·exact(Z.yp λb hb=>dz b ((aa b).2 hb)).at
def ku.bJ{F:Nat→Option Obj}{T:TypeId}{v:Value}{vF:Mem}{k n:Nat}{get:Nat→V}(h:ku P F M w T v){j':Nat→Option Nat}(au:cv vF j' v (.v (.bJ k n get))):l7 P F M w T v:=by
 cases au with|v _ _ au=>cases au<;>exact h
def Mu(h:bI P K M β st tmps w){r i:Nat}{cs:List aW}{e:aW}(ai:look st.H r=some cs)(hi:cs[i]? = some e):
 ∃b vs T v,β r=some b∧w.heap[b]? = some (.cells ⟨vs⟩ T (0,0))∧vs[i]? = some v∧ce tmps w β (.cell r i)=v:=by
 obtain⟨b,vs,T,hb,bn,ab,_⟩:=h.box r cs ai;have Mv:i<cs.length:=(List.getElem?_eq_some_iff.1 hi).1;have au:vs[i]? = some vs[i]:=List.getElem?_eq_getElem (by omega)
 exact⟨b,vs,T,_,hb,bn,au,by simp only [ce,hb,cell_of_heap bn,au,Option.getD_some]⟩
def bI.BG(h:bI P K M β st tmps w){r b:Nat}{cs:List aW}(ai:look st.H r=some cs)(hb:β r=some b):b<w.heap.size:=by
 obtain⟨bE,vs,T,bQ,bn,_⟩:=h.box r cs ai;rw [hb]at bQ;cases bQ;exact lt_of_heap bn
def bI.free(h:bI P K M β st tmps w)(b:Nat)(dz:K.F b=none)(vG:∀r cs,look st.H r=some cs→β r≠some b)
 (fW:∀l e T,st.at l=some e→e.own=some T→¬ jl T (ce tmps w β l) b)
 (hw:∀bE,bE≠b→bE<w.heap.size→w'.heap[bE]? = w.heap[bE]?) (c7:M.le M') (Gd:∀bE o,bE≠b→M' bE o=M bE o)
 (yq:∀o v,M' b o=some v→w'.cell? ⟨b,o,none⟩=some v) (pj:(w'.os,w'.output)=(w.os,w.output):=by rfl):bI P K M' β st tmps w':=by
 have co:∀l e,st.at l=some e→ce tmps w' β l=ce tmps w β l:=by
  intro l e ab;cases l with
  |slot s=>rfl
  |cell r i=>
   simp only [aH.at]at ab;cases ai:look st.H r with
   |none=>simp [ai]at ab
   |some cs=>
    obtain⟨b9,vs,T,cF,bn,_⟩:=h.box r cs ai;have dL:b9≠b:=λe=>vG r cs ai (e ▸ cF)
    simp only [ce,cF];rw [sh (hw b9 dL (lt_of_heap bn))]
 constructor
 ·intro l e ab;rw [co l e ab];exact(h.e4 l e ab).mono c7
 ·intro l e T ab aD;rw [co l e ab];refine(h.own l e T ab aD).congr (λb9 cF=>hw b9 ?_ ((h.own l e T ab aD).lt cF)) (λb9 o cF=>Gd b9 o ?_) <;>
  ·rintro rfl;exact fW l e T ab aD cF
 ·intro l cH e aY T T' b9 ab aD cO ec hb bQ;rw [co l e ab]at hb;rw [co cH aY cO]at bQ;exact h.uniq l cH e aY T T' b9 ab aD cO ec hb bQ
 ·intro l e T b9 r cs ab aD hb ai;rw [co l e ab]at hb;exact h.unbox l e T b9 r cs ab aD hb ai
 ·intro r cs ai;obtain⟨b9,vs,T,cF,bn,Z,aa,am⟩:=h.box r cs ai;have dL:b9≠b:=λe=>vG r cs ai (e ▸ cF)
  exact⟨b9,vs,T,cF,(hw b9 dL (lt_of_heap bn)).trans bn,Z,λo=>(Gd b9 o dL).trans (aa o),am⟩
 ·exact h.inj
 ·exact h.lt
 ·intro b9 o v au;by_cases dL:b9=b
  ·subst dL;exact yq o v au
  ·rw [Gd b9 o dL]at au;have:=h.mem b9 o v au
   rw [sh (hw b9 dL (lt_of_cell this))];exact this
 ·exact Mem.le_trans h.m0 c7
 ·intro b9 a8 cF;have dL:b9≠b:=by rintro rfl;rw [dz]at cF;cases cF
  obtain⟨Z,aa⟩:=h.frame b9 a8 cF;exact⟨(hw b9 dL (lt_of_heap Z)).trans Z,λo=>(Gd b9 o dL).trans (aa o)⟩
 ·exact h.iL
 ·exact h.jm
 ·exact pj.trans h.h3
def bI.grow(h:bI P K M β st tmps w)(hw:∀b,b<w.heap.size→w'.heap[b]? = w.heap[b]?)(pj:(w'.os,w'.output)=(w.os,w.output):=by rfl):bI P K M β st tmps w':=by
 have hn:∀b,w.heap.size≤b→K.F b=none:=by
  intro b hb;cases dz:K.F b with
  |none=>rfl
  |some a8=>have:=lt_of_heap (h.frame b a8 dz).1;omega
 refine h.free w.heap.size (hn _ (Nat.le_refl _)) ?_ ?_ (λb _ hb=>hw b hb) (Mem.le_refl _) (λ_ _ _=>rfl) ?_ pj
 ·intro r cs ai hb;have:=h.BG ai hb;omega
 ·intro l e T ab aD hb;have:=(h.own l e T ab aD).lt hb;omega
 ·intro o v au;have:=lt_of_cell (h.mem _ _ _ au);omega
def bI.sub(h:bI P K M β st tmps w)(hn:bY.aX=st.aX)
 (he:∀l aY,bY.at l=some aY→∃e,st.at l=some e∧e.d=aY.d∧∀T,aY.own=some T→e.own=some T)
 (eN:∀r cs',look bY.H r=some cs'→∃cs,look st.H r=some cs∧cs.length=cs'.length):bI P K M β bY tmps w:=by
 constructor
 ·intro l aY ab;obtain⟨e,Z,aa,_⟩:=he l aY ab;rw [←aa];exact h.e4 l e Z
 ·intro l aY T ab aD;obtain⟨e,Z,_,am⟩:=he l aY ab;exact h.own l e T Z (am T aD)
 ·intro l cH e aY T T' b ab aD cO ec;obtain⟨e1,Z,_,am⟩:=he l e ab;obtain⟨e2,nv,_,BH⟩:=he cH aY cO;exact h.uniq l cH e1 e2 T T' b Z (am T aD) nv (BH T' ec)
 ·intro l e T b r cs ab aD hb ai;obtain⟨e1,Z,_,am⟩:=he l e ab;obtain⟨vH,ie,_⟩:=eN r cs ai;exact h.unbox l e1 T b r vH Z (am T aD) hb ie
 ·intro r cs ai;obtain⟨vH,ie,hlen⟩:=eN r cs ai;obtain⟨b,vs,T,Z,aa,am,aK,bd,b',eb⟩:=h.box r vH ie
  exact⟨b,vs,T,Z,aa,am.trans hlen,aK,bd,b',eb.Mt ie ai λl aY ab=>by
   obtain⟨e,g1,g2,_⟩:=he l aY ab;exact⟨e,g1,.inl g2⟩⟩
 ·intro r cI b cs cs' ai fb hb bQ;obtain⟨c1,Z,_⟩:=eN r cs ai;obtain⟨c2,aa,_⟩:=eN cI cs' fb;exact h.inj r cI b c1 c2 Z aa hb bQ
 ·intro r b hb;rw [hn];exact h.lt r b hb
 ·exact h.mem
 ·exact h.m0
 ·exact h.frame
 ·exact h.iL
 ·exact h.jm
 ·exact h.h3
def bI.afj(h:bI P K M β st tmps w)(hn:bY.aX=st.aX)
 (he:∀l aY,bY.at l=some aY→∃e,st.at l=some e∧((e.d=aY.d∧∀T,aY.own=some T→e.own=some T)∨∃k g,e.d = .v (.pe k g)∧aY.d = .v (.bJ k 0 g)))
 (eN:∀r cs',look bY.H r=some cs'→∃cs,look st.H r=some cs∧cs.length=cs'.length):bI P K M β bY tmps w:=by
 have p5:∀l e k g,st.at l=some e→e.d = .v (.pe k g)→ce tmps w β l = .slice none 0 0:=by
  intro l e k g ab hd;have:=h.e4 l e ab
  rw [hd]at this;generalize ce tmps w β l=u at this ⊢
  cases this with
  |v u x hx=>cases hx;rfl
 constructor
 ·intro l aY ab;obtain⟨e,Z,⟨aa,_⟩|⟨k,g,aa,am⟩⟩:=he l aY ab
  ·rw [←aa];exact h.e4 l e Z
  ·rw [am,p5 l e k g Z aa];exact .v _ _ (.mu k g)
 ·intro l aY T ab aD;obtain⟨e,Z,⟨_,am⟩|⟨k,g,aa,am⟩⟩:=he l aY ab
  ·exact h.own l e T Z (am T aD)
  ·rw [p5 l e k g Z aa];exact .inl rfl
 ·intro l cH e aY T T' b ab aD cO ec hb bQ;obtain⟨e1,Z,⟨_,am⟩|⟨k,g,aa,am⟩⟩:=he l e ab
  ·obtain⟨e2,nv,⟨_,BH⟩|⟨k,g,afk,BH⟩⟩:=he cH aY cO
   ·exact h.uniq l cH e1 e2 T T' b Z (am T aD) nv (BH T' ec) hb bQ
   ·rw [p5 cH e2 k g nv afk]at bQ;cases bQ
  ·rw [p5 l e1 k g Z aa]at hb;cases hb
 ·intro l e T b r cs ab aD hb ai;obtain⟨vH,ie,_⟩:=eN r cs ai;obtain⟨e1,Z,⟨_,am⟩|⟨k,g,aa,am⟩⟩:=he l e ab
  ·exact h.unbox l e1 T b r vH Z (am T aD) hb ie
  ·rw [p5 l e1 k g Z aa]at hb;cases hb
 ·intro r cs ai;obtain⟨vH,ie,hlen⟩:=eN r cs ai;obtain⟨b,vs,T,Z,aa,am,aK,bd,b',eb⟩:=h.box r vH ie
  exact⟨b,vs,T,Z,aa,am.trans hlen,aK,bd,b',eb.Mt ie ai λl aY ab=>by
   obtain⟨e,g1,⟨g2,_⟩|⟨k,g,_,g3⟩⟩:=he l aY ab
   ·exact⟨e,g1,.inl g2⟩
   ·exact⟨e,g1,.inr λq off u ao=>by rw [g3]at ao;cases ao⟩⟩
 ·intro r cI b cs cs' ai fb hb bQ;obtain⟨c1,Z,_⟩:=eN r cs ai;obtain⟨c2,aa,_⟩:=eN cI cs' fb;exact h.inj r cI b c1 c2 Z aa hb bQ
 ·intro r b hb;rw [hn];exact h.lt r b hb
 ·exact h.mem
 ·exact h.m0
 ·exact h.frame
 ·exact h.iL
 ·exact h.jm
 ·exact h.h3
structure m3(P:Program)(K:Ctx)(M:Mem)(β:Nat→Option Nat)(st:aH)(tmps:Array Value)(w:World)(l0:Loc)(v:Value)(T:TypeId):Prop where
 own:ku P K.F M w T v
 apart:∀l e T' b,st.at l=some e→e.own=some T'→l≠l0→jl T v b→¬ jl T' (ce tmps w β l) b
 unbox:∀b r cs,jl T v b→look st.H r=some cs→β r≠some b
def bI.put(h:bI P K M β st tmps w){t:Nat}{v:Value}{e:aW}(aF:t<tmps.size)(au:cv M β v e.d)
 (ay:∀T,e.own=some T→m3 P K M β st tmps w (.slot t) v T):
 bI P K M β {st with env:=(t,e)::st.env} (tmps.setIfInBounds t v) w:=by
 have fo:∀l,({st with env:=(t,e)::st.env}:aH).at l=if l = .slot t then some e else st.at l:=by
  intro l;cases l with
  |slot s=>
   simp only [aH.at,dC,Loc.slot.injEq];by_cases hs:t=s
   ·subst hs;simp
   ·simp [hs,Ne.symm hs]
  |cell r i=>simp [aH.at]
 have co:∀l,ce (tmps.setIfInBounds t v) w β l=if l = .slot t then v else ce tmps w β l:=by
  intro l;cases l with
  |slot s=>
   simp only [ce,Loc.slot.injEq];by_cases hs:s=t
   ·subst hs;simp [aF]
   ·simp [hs,Ne.symm hs]
  |cell r i=>simp [ce]
 constructor
 ·intro l e1 ab;rw [fo]at ab;rw [co];by_cases h0:l = .slot t
  ·simp only [h0,if_true]at ab ⊢;cases ab;exact au
  ·simp only [h0,if_false]at ab ⊢;exact h.e4 l e1 ab
 ·intro l e1 T ab aD;rw [fo]at ab;rw [co];by_cases h0:l = .slot t
  ·simp only [h0,if_true]at ab ⊢;cases ab;exact(ay T aD).own
  ·simp only [h0,if_false]at ab ⊢;exact h.own l e1 T ab aD
 ·intro l cH e1 e2 T T' b ab aD cO ec hb bQ;rw [fo]at ab cO;rw [co]at hb bQ;by_cases h0:l = .slot t<;>by_cases tW:cH = .slot t
  ·rw [h0,tW]
  ·simp only [h0,tW,if_true,if_false]at ab cO hb bQ;cases ab;exact absurd bQ ((ay T aD).apart cH e2 T' b cO ec tW hb)
  ·simp only [h0,tW,if_true,if_false]at ab cO hb bQ;cases cO;exact absurd hb ((ay T' ec).apart l e1 T b ab aD h0 bQ)
  ·simp only [h0,tW,if_false]at ab cO hb bQ;exact h.uniq l cH e1 e2 T T' b ab aD cO ec hb bQ
 ·intro l e1 T b r cs ab aD hb ai;rw [fo]at ab;rw [co]at hb;by_cases h0:l = .slot t
  ·simp only [h0,if_true]at ab hb;cases ab;exact(ay T aD).unbox b r cs hb ai
  ·simp only [h0,if_false]at ab hb;exact h.unbox l e1 T b r cs ab aD hb ai
 ·exact h.box
 ·exact h.inj
 ·exact h.lt
 ·exact h.mem
 ·exact h.m0
 ·exact h.frame
 ·exact h.iL
 ·exact h.jm
 ·exact h.h3
def bI.drop(h:bI P K M β st tmps w){t:Nat}{v:Value}:bI P K M β {st with env:=del st.env t} (tmps.setIfInBounds t v) w:=by
 have fo:∀l,({st with env:=del st.env t}:aH).at l=if l = .slot t then none else st.at l:=by
  intro l;cases l with
  |slot s=>
   simp only [aH.at,qY,Loc.slot.injEq];by_cases hs:t=s
   ·subst hs;simp
   ·simp [hs,Ne.symm hs]
  |cell r i=>simp [aH.at]
 have Z:bI P K M β {st with env:=del st.env t} tmps w:=by
  refine h.sub rfl (λl aY ab=>?_) (λr cs ai=>⟨cs,ai,rfl⟩)
  rw [fo]at ab;by_cases h0:l = .slot t
  ·simp [h0]at ab
  ·simp only [h0,if_false]at ab;exact⟨aY,ab,rfl,λ_ h=>h⟩
 have co:∀l e,({st with env:=del st.env t}:aH).at l=some e→ce (tmps.setIfInBounds t v) w β l=ce tmps w β l:=by
  intro l e ab;cases l with
  |slot s=>
   have hs:t≠s:=by rintro rfl;simp [aH.at,qY]at ab
   simp [ce,hs]
  |cell r i=>rfl
 constructor
 ·intro l e ab;rw [co l e ab];exact Z.e4 l e ab
 ·intro l e T ab aD;rw [co l e ab];exact Z.own l e T ab aD
 ·intro l cH e aY T T' b ab aD cO ec hb bQ;rw [co l e ab]at hb;rw [co cH aY cO]at bQ;exact Z.uniq l cH e aY T T' b ab aD cO ec hb bQ
 ·intro l e T b r cs ab aD hb ai;rw [co l e ab]at hb;exact Z.unbox l e T b r cs ab aD hb ai
 ·exact Z.box
 ·exact Z.inj
 ·exact Z.lt
 ·exact Z.mem
 ·exact Z.m0
 ·exact Z.frame
 ·exact Z.iL
 ·exact Z.jm
 ·exact Z.h3
def bI.afl(h:bI P K M β st tmps w){gV n':Nat}(mw:∀b,β gV≠some b)(afm:gV<n')(as8:st.aX≤n'){vs:List Value}{T:TypeId}{cs:List aW}(hlen:vs.length=cs.length)(gH:∀v,v∈vs→v.oneCell'=true)(hlies:lF P T vs.length cs)
 (au:∀(i:Nat) v e,vs[i]? = some v→cs[i]? = some e→cv M β v e.d∧∀T,e.own=some T→v = .slice none 0 0):
 bI P K M (λr=>if r=gV then some w.heap.size else β r) {st with H:=(gV,cs)::st.H,aX:=n'} tmps {w with heap:=w.heap.push (.cells ⟨vs⟩ T (0,0))}:=by
 have Vh:∀r b,β r=some b→r≠gV:=λr b hb e=>mw b (e ▸ hb)
 have cF:∀r b,β r=some b→(λr=>if r=gV then some w.heap.size else β r) r=some b:=by
  intro r b hb;simp [Vh r b hb,hb]
 have fX:∀{v d},cv M β v d→cv M (λr=>if r=gV then some w.heap.size else β r) v d:=by
  intro v d hd;refine hd.Mp ?_;exact cF
 have hg:=h.grow (w':={w with heap:=w.heap.push (.cells ⟨vs⟩ T (0,0))}) (λb hb=>by simp [Array.getElem?_push,Nat.ne_of_lt hb])
 have hold:∀r cs,r≠gV→look ((gV,cs)::st.H) r=look st.H r:=λr cs dL=>by simp [dC,Ne.symm dL]
 have afn:∀r cs,look st.H r=some cs→r≠gV:=λr cs ai=>by obtain⟨b,_,_,hb,_⟩:=h.box r cs ai;exact Vh r b hb
 have co:∀l e,st.at l=some e→ce tmps {w with heap:=w.heap.push (.cells ⟨vs⟩ T (0,0))} (λr=>if r=gV then some w.heap.size else β r) l=ce tmps {w with heap:=w.heap.push (.cells ⟨vs⟩ T (0,0))} β l:=by
  intro l e ab;cases l with
  |slot s=>rfl
  |cell r i=>
   simp only [aH.at]at ab;cases ai:look st.H r with
   |none=>simp [ai]at ab
   |some c=>simp [ce,afn r c ai]
 have Vi:∀i e,cs[i]? = some e→∃v,vs[i]? = some v∧ce tmps {w with heap:=w.heap.push (.cells ⟨vs⟩ T (0,0))} (λr=>if r=gV then some w.heap.size else β r) (.cell gV i)=v:=by
  intro i e hi;have Mv:i<cs.length:=(List.getElem?_eq_some_iff.1 hi).1;have eJ:vs[i]? = some vs[i]:=List.getElem?_eq_getElem (by omega)
  exact⟨_,eJ,by simp [ce,World.cell?,hlen ▸ Mv]⟩
 have fo:∀l e,({st with H:=(gV,cs)::st.H,aX:=n'}:aH).at l=some e→(∃i,l = .cell gV i∧cs[i]? = some e)∨(st.at l=some e∧∀i,l ≠ .cell gV i):=by
  intro l e ab;cases l with
  |slot s=>exact .inr ⟨ab,by simp⟩
  |cell r i=>
   by_cases ai:r=gV
   ·subst ai;simp [aH.at,dC]at ab;exact .inl ⟨i,rfl,ab⟩
   ·refine .inr ⟨?_,by simp [ai]⟩
    simpa [aH.at,dC,Ne.symm ai]using ab
 have kL:∀l e T',({st with H:=(gV,cs)::st.H,aX:=n'}:aH).at l=some e→e.own=some T'→(∃i,l = .cell gV i)→ce tmps {w with heap:=w.heap.push (.cells ⟨vs⟩ T (0,0))} (λr=>if r=gV then some w.heap.size else β r) l = .slice none 0 0:=by
  rintro l e T' ab aD ⟨i,rfl⟩
  have hi:cs[i]? = some e:=by simpa [aH.at,dC]using ab
  obtain⟨v,Z,aa⟩:=Vi i e hi;rw [aa];exact(au i v e Z hi).2 T' aD
 constructor
 ·intro l e ab;rcases fo l e ab with⟨i,rfl,hi⟩|⟨ay,_⟩
  ·obtain⟨v,Z,aa⟩:=Vi i e hi;rw [aa];exact fX (au i v e Z hi).1
  ·rw [co l e ay];exact fX (hg.e4 l e ay)
 ·intro l e T' ab aD;rcases fo l e ab with⟨i,lf,hi⟩|⟨ay,_⟩
  ·rw [kL l e T' ab aD ⟨i,lf⟩];exact .inl rfl
  ·rw [co l e ay];exact hg.own l e T' ay aD
 ·intro l cH e aY hh p6 b ab aD cO ec hb bQ;rcases fo l e ab with⟨i,lf,hi⟩|⟨ay,_⟩
  ·rw [kL l e hh ab aD ⟨i,lf⟩]at hb;cases hb
  ·rcases fo cH aY cO with⟨i,lf,hi⟩|⟨lg,_⟩
   ·rw [kL cH aY p6 cO ec ⟨i,lf⟩]at bQ;cases bQ
   ·rw [co l e ay]at hb;rw [co cH aY lg]at bQ;exact hg.uniq l cH e aY hh p6 b ay aD lg ec hb bQ
 ·intro l e hh b r c ab aD hb ai;rcases fo l e ab with⟨i,lf,hi⟩|⟨ay,_⟩
  ·rw [kL l e hh ab aD ⟨i,lf⟩]at hb;cases hb
  ·rw [co l e ay]at hb
   have bw:b<w.heap.size:=by
    have Z:=(h.own l e hh ay aD)
    have aa:ce tmps {w with heap:=w.heap.push (.cells ⟨vs⟩ T (0,0))} β l=ce tmps w β l:=by
     cases l with
     |slot s=>rfl
     |cell r i=>
      simp only [aH.at]at ay;cases ai:look st.H r with
      |none=>simp [ai]at ay
      |some c=>
       obtain⟨b9,ot,p6,fc,bn,_⟩:=h.box r c ai;simp only [ce,fc];rw [sh (w:=w) (by simp [Array.getElem?_push,Nat.ne_of_lt (lt_of_heap bn)])]
    rw [aa]at hb;exact Z.lt hb
   by_cases j_:r=gV
   ·subst j_;simp;omega
   ·simp [j_];exact hg.unbox l e hh b r c ay aD hb (by simpa [dC,Ne.symm j_]using ai)
 ·intro r c ai;by_cases j_:r=gV
  ·subst j_;simp [dC]at ai;subst ai;refine⟨w.heap.size,vs,T,by simp,by simp,hlen,λo=>?_,?_,gH,hlies⟩
   ·cases hm:M w.heap.size o with
    |none=>rfl
    |some v=>have:=lt_of_cell (h.mem _ _ _ hm);omega
   ·cases dz:K.F w.heap.size with
    |none=>rfl
    |some a8=>have:=lt_of_heap (h.frame _ a8 dz).1;omega
  ·obtain⟨b,ot,hh,Z,aa,am⟩:=hg.box r c (by simpa [dC,Ne.symm j_]using ai)
   exact⟨b,ot,hh,by simp [j_,Z],aa,am⟩
 ·intro r cI b c h4 ai fb hb bQ;by_cases j_:r=gV<;>by_cases yr:cI=gV
  ·rw [j_,yr]
  ·simp [j_]at hb;simp [yr]at bQ;have:=h.BG (by simpa [dC,Ne.symm yr]using fb) bQ
   omega
  ·simp [yr]at bQ;simp [j_]at hb;have:=h.BG (by simpa [dC,Ne.symm j_]using ai) hb
   omega
  ·simp [j_]at hb;simp [yr]at bQ;exact h.inj r cI b c h4 (by simpa [dC,Ne.symm j_]using ai) (by simpa [dC,Ne.symm yr]using fb) hb bQ
 ·intro r b hb;by_cases j_:r=gV
  ·subst j_;exact afm
  ·simp [j_]at hb;have:=h.lt r b hb;simp;omega
 ·exact hg.mem
 ·exact hg.m0
 ·exact hg.frame
 ·intro r b hb;exact cF r b (h.iL r b hb)
 ·exact hg.jm
 ·exact hg.h3
end
section
variable {P:Program} {K:Ctx} {M M':Mem} {β β':Nat→Option Nat} {st bY:aH} {tmps ek:Array Value} {w w':World}
def bI.Ge(h:bI P K M β st tmps w){r b:Nat}{cs:List aW}(ai:look st.H r=some cs)(hb:β r=some b){vs vs':List Value}{T:TypeId}
 (bn:w.heap[b]? = some (.cells ⟨vs⟩ T (0,0))) {cs':List aW} (hlen:vs'.length=cs'.length) (gH:∀v,v∈vs'→v.oneCell'=true) (hlies:lF P T vs.length cs→lF P T vs'.length cs') (ej:cs'.length=cs.length)
 (ou:w'.heap[b]? = some (.cells ⟨vs'⟩ T (0,0))) (BI:∀bE,bE≠b→w'.heap[bE]? = w.heap[bE]?) (i0:Nat)
 (au:∀(i:Nat) v e,vs'[i]? = some v→cs'[i]? = some e→cv M β v e.d∧∀T,e.own=some T→
  (i≠i0∧(∃bK,cs[i]? = some bK∧bK.own=some T)∧vs[i]? = some v)∨(i=i0∧m3 P K M β st tmps w (.cell r i0) v T)) (pj:(w'.os,w'.output)=(w.os,w.output):=by rfl):
 bI P K M β {st with H:=(r,cs')::st.H} tmps w':=by
 have Gf:K.F b=none∧∀o,M b o=none:=by
  obtain⟨b9,_,_,Z,_,_,aa,am,_⟩:=h.box r cs ai;rw [hb]at Z;cases Z;exact⟨am,aa⟩
 have afo:lF P T vs.length cs:=by
  obtain⟨b9,ot,hh,Z,aa,_,_,_,_,am⟩:=h.box r cs ai;rw [hb]at Z;cases Z;rw [bn]at aa;cases aa;exact am
 have iz:∀bE,bE≠b→∀o,w'.cell? ⟨bE,o,none⟩=w.cell? ⟨bE,o,none⟩:=λbE dL o=>sh (BI bE dL)
 have dL:∀cI c bE,look st.H cI=some c→β cI=some bE→cI≠r→bE≠b:=λcI c bE fb bQ dL e=>dL (h.inj cI r bE c cs fb ai bQ (e ▸ hb))
 have fo:∀l e,({st with H:=(r,cs')::st.H}:aH).at l=some e→(∃i v,l = .cell r i∧cs'[i]? = some e∧vs'[i]? = some v∧ce tmps w' β l=v)∨(st.at l=some e∧ce tmps w' β l=ce tmps w β l∧∀i,l ≠ .cell r i):=by
  intro l e ab;cases l with
  |slot s=>exact .inr ⟨ab,rfl,by simp⟩
  |cell cI i=>
   by_cases hI:cI=r
   ·subst hI;simp [aH.at,dC]at ab;have hi:i<cs'.length:=(List.getElem?_eq_some_iff.1 ab).1;have eJ:vs'[i]? = some vs'[i]:=List.getElem?_eq_getElem (by omega)
    exact .inl ⟨i,_,rfl,ab,eJ,by simp only [ce,hb,cell_of_heap ou,eJ,Option.getD_some]⟩
   ·have cO:st.at (.cell cI i)=some e:=by simpa [aH.at,dC,Ne.symm hI]using ab
    refine .inr ⟨cO,?_,by simp [hI]⟩
    simp only [aH.at]at cO;cases fb:look st.H cI with
    |none=>simp [fb]at cO
    |some c=>
     obtain⟨b9,_,_,cF,_⟩:=h.box cI c fb;simp only [ce,cF];rw [iz b9 (dL cI c b9 fb cF hI)]
 have fW:∀l e T,({st with H:=(r,cs')::st.H}:aH).at l=some e→e.own=some T→
  (l ≠ .cell r i0∧(∃bK,st.at l=some bK∧bK.own=some T)∧ce tmps w' β l=ce tmps w β l)∨(l = .cell r i0∧m3 P K M β st tmps w (.cell r i0) (ce tmps w' β l) T):=by
  intro l e hh ab aD;rcases fo l e ab with⟨i,v,rfl,hi,eJ,co⟩|⟨ay,co,i_⟩
  ·rcases(au i v e eJ hi).2 hh aD with⟨afp,⟨bK,Mw,lh⟩,hold⟩|⟨rfl,hn⟩
   ·refine .inl ⟨by simp [afp],⟨bK,by simp [aH.at,ai,Mw],lh⟩,?_⟩
    rw [co];simp only [ce,hb,cell_of_heap bn,hold,Option.getD_some]
   ·exact .inr ⟨rfl,by rw [co];exact hn⟩
  ·exact .inl ⟨i_ i0,⟨e,ay,aD⟩,co⟩
 have eN:∀cI c,look ((r,cs')::st.H) cI=some c→∃h4,look st.H cI=some h4:=by
  intro cI c hc;by_cases hI:r=cI
  ·exact⟨cs,hI ▸ ai⟩
  ·exact⟨c,by simpa [dC,hI]using hc⟩
 constructor
 ·intro l e ab;rcases fo l e ab with⟨i,v,rfl,hi,eJ,co⟩|⟨ay,co,i_⟩
  ·rw [co];exact(au i v e eJ hi).1
  ·rw [co];exact h.e4 l e ay
 ·intro l e hh ab aD;rcases fW l e hh ab aD with⟨_,⟨bK,h0,lh⟩,co⟩|⟨rfl,hn⟩
  ·rw [co];refine(h.own l bK hh h0 lh).congr (λb9 cF=>BI b9 ?_) (λ_ _ _=>rfl)
   rintro rfl
   exact h.unbox l bK hh b9 r cs h0 lh cF ai hb
  ·refine hn.own.congr (λb9 cF=>BI b9 ?_) (λ_ _ _=>rfl)
   rintro rfl
   exact hn.unbox b9 r cs cF ai hb
 ·intro l cH e aY hh p6 b9 ab aD cO ec cF vI;rcases fW l e hh ab aD with⟨hl0,⟨bK,h0,lh⟩,co⟩|⟨rfl,hn⟩<;>rcases fW cH aY p6 cO ec with⟨afq,⟨yt,tW,BJ⟩,qZ⟩|⟨rfl,Gg⟩
  ·rw [co]at cF;rw [qZ]at vI;exact h.uniq l cH bK yt hh p6 b9 h0 lh tW BJ cF vI
  ·rw [co]at cF;exact absurd cF (Gg.apart l bK hh b9 h0 lh hl0 vI)
  ·rw [qZ]at vI;exact absurd vI (hn.apart cH yt p6 b9 tW BJ afq cF)
  ·rfl
 ·intro l e hh b9 cI c ab aD cF fb;obtain⟨h4,kv⟩:=eN cI c fb;rcases fW l e hh ab aD with⟨_,⟨bK,h0,lh⟩,co⟩|⟨rfl,hn⟩
  ·rw [co]at cF;exact h.unbox l bK hh b9 cI h4 h0 lh cF kv
  ·exact hn.unbox b9 cI h4 cF kv
 ·intro cI c fb;by_cases hI:r=cI
  ·subst hI;simp [dC]at fb;subst fb;exact⟨b,vs',T,hb,ou,hlen,Gf.2,Gf.1,gH,hlies afo⟩
  ·have ja:look st.H cI=some c:=by simpa [dC,hI]using fb
   obtain⟨b9,ot,hh,Z,aa,am⟩:=h.box cI c ja;exact⟨b9,ot,hh,Z,(BI b9 (dL cI c b9 ja Z (Ne.symm hI))).trans aa,am⟩
 ·intro r1 r2 b9 c1 c2 ie ja cF fc;obtain⟨afr,Z⟩:=eN r1 c1 ie;obtain⟨afs,aa⟩:=eN r2 c2 ja;exact h.inj r1 r2 b9 afr afs Z aa cF fc
 ·exact h.lt
 ·intro b9 o v hm;by_cases q0:b9=b
  ·subst q0;rw [Gf.2 o]at hm;cases hm
  ·rw [iz b9 q0];exact h.mem b9 o v hm
 ·exact h.m0
 ·intro b9 a8 dz;have q0:b9≠b:=by rintro rfl;rw [Gf.1]at dz;cases dz
  obtain⟨Z,aa⟩:=h.frame b9 a8 dz;exact⟨(BI b9 q0).trans Z,aa⟩
 ·exact h.iL
 ·exact h.jm
 ·exact pj.trans h.h3
def nw:∀(l:List Nat) (env:List (Nat×aW)) (s:Nat),
 look (gU l env) s=if s∈l then(look env s).map (λe=>{e with own:=none})else look env s
 |[],env,s=>by simp [gU]
 |t::l,env,s=>by
  have aM:=nw l env s;simp only [gU];cases aF:look env t with
  |none=>
   simp only [aM];by_cases hs:s=t
   ·subst hs;simp [aF]
   ·simp [hs]
  |some e=>
   simp only [dC];by_cases hs:t=s
   ·subst hs;simp [aF]
   ·simp [hs,Ne.symm hs,aM]
def bI.hy(h:bI P K M β st tmps w)(l:List Nat):bI P K M β {st with env:=gU l st.env} tmps w:=by
 refine h.sub rfl (λhf aY ab=>?_) (λr cs ai=>⟨cs,ai,rfl⟩)
 cases hf with
 |slot s=>
  simp only [aH.at,nw]at ab ⊢;by_cases hs:s∈l
  ·simp only [hs,if_true,Option.map_eq_some_iff]at ab;obtain⟨e,he,rfl⟩:=ab;exact⟨e,he,rfl,by simp⟩
  ·simp only [hs,if_false]at ab;exact⟨aY,ab,rfl,λ_ h=>h⟩
 |cell r i=>exact⟨aY,ab,rfl,λ_ h=>h⟩
def bI.hand(h:bI P K M β st tmps w){s:Nat}{e:aW}{T:TypeId}(hs:look st.env s=some e)(aD:e.own=some T)(l0:Loc):
 m3 P K M β {st with env:=gU [s] st.env} tmps w l0 (tmps.getD s undef) T:=by
 have ab:st.at (.slot s)=some e:=hs;refine⟨h.own (.slot s) e T ab aD,λl aY T' b cO ec _ hb bQ=>?_,λb r cs hb ai=>h.unbox (.slot s) e T b r cs ab aD hb ai⟩
 have eD:∃e2,st.at l=some e2∧e2.own=some T'∧l ≠ .slot s:=by
  cases l with
  |slot p7=>
   simp only [aH.at,nw]at cO ⊢;by_cases si:p7=s
   ·subst si;simp at cO;obtain⟨_,_,rfl⟩:=cO;simp at ec
   ·simp [si]at cO;exact⟨aY,cO,ec,by simp [si]⟩
  |cell r i=>exact⟨aY,cO,ec,by simp⟩
 obtain⟨e2,aa,pk,dL⟩:=eD;exact dL (h.uniq l (.slot s) e2 e T' T b aa pk ab aD bQ hb)
def bI.Vj(h:bI P K M β st tmps w){r i:Nat}{cs cs':List aW}{e:aW}{T:TypeId}(ai:look st.H r=some cs)(hi:cs[i]? = some e)(aD:e.own=some T)
 (ej:cs'.length=cs.length) (jn:∀(j:Nat) aY,cs'[j]? = some aY→∃bK,cs[j]? = some bK∧bK.d=aY.d∧(∀T,aY.own=some T→bK.own=some T∧j≠i)) (l0:Loc):
 bI P K M β {st with H:=(r,cs')::st.H} tmps w∧m3 P K M β {st with H:=(r,cs')::st.H} tmps w l0 (ce tmps w β (.cell r i)) T:=by
 have ab:st.at (.cell r i)=some e:=by simp [aH.at,ai,hi]
 have fo:∀l aY,({st with H:=(r,cs')::st.H}:aH).at l=some aY→∃bK,st.at l=some bK∧bK.d=aY.d∧∀T,aY.own=some T→bK.own=some T∧l ≠ .cell r i:=by
  intro l aY cO;cases l with
  |slot s=>exact⟨aY,cO,rfl,λT h=>⟨h,by simp⟩⟩
  |cell cI j=>
   by_cases hI:r=cI
   ·subst hI;simp [aH.at,dC]at cO;obtain⟨bK,Z,aa,am⟩:=jn j aY cO;exact⟨bK,by simp [aH.at,ai,Z],aa,λT aD=>⟨(am T aD).1,by simp [(am T aD).2]⟩⟩
   ·refine⟨aY,by simpa [aH.at,dC,hI]using cO,rfl,λT h=>⟨h,by simp [Ne.symm hI]⟩⟩
 have eN:∀cI c,look ((r,cs')::st.H) cI=some c→∃h4,look st.H cI=some h4∧h4.length=c.length:=by
  intro cI c hc;by_cases hI:r=cI
  ·subst hI;simp [dC]at hc;subst hc;exact⟨cs,ai,ej.symm⟩
  ·exact⟨c,by simpa [dC,hI]using hc,rfl⟩
 refine⟨h.sub rfl (λl aY cO=>?_) eN,h.own _ e T ab aD,λl aY T' b cO ec _ hb bQ=>?_,λb cI c hb fb=>?_⟩
 ·obtain⟨bK,Z,aa,am⟩:=fo l aY cO;exact⟨bK,Z,aa,λT aD=>(am T aD).1⟩
 ·obtain⟨bK,Z,_,am⟩:=fo l aY cO;exact(am T' ec).2 (h.uniq l _ bK e T' T b Z (am T' ec).1 ab aD bQ hb)
 ·obtain⟨h4,Z,_⟩:=eN cI c fb;exact h.unbox _ e T b cI h4 ab aD hb Z
def Mx(l0:Loc)(T:TypeId):m3 P K M β st tmps w l0 (.slice none 0 0) T:=
 ⟨.inl rfl,λ_ _ _ _ _ _ _ hb=>(by cases hb),λ_ _ _ hb=>(by cases hb)⟩
def Vk:∀{l:List Nat} {env oq:List (Nat×aW)},BD env l=some oq→∀s e,look oq s=some e→look env s=some e
 |[],env,oq,h,s,e,he=>by simp [BD]at h;subst h;simp [look]at he
 |t::l,env,oq,h,s,e,he=>by
  simp only [BD]at h;split at h<;>simp at h
  rename_i e1 hf Z aa;subst h;rw [dC]at he;by_cases li:t=s
  ·simp [li]at he;subst he;rw [←li];exact Z
  ·simp [li]at he;exact Vk aa s e he
def My:∀{l:List Nat} {H H':List (Nat×List aW)},BE H l=some H'→∀s e,look H' s=some e→look H s=some e
 |[],env,oq,h,s,e,he=>by simp [BE]at h;subst h;simp [look]at he
 |t::l,env,oq,h,s,e,he=>by
  simp only [BE]at h;split at h<;>simp at h
  rename_i e1 hf Z aa;subst h;rw [dC]at he;by_cases li:t=s
  ·simp [li]at he;subst he;rw [←li];exact Z
  ·simp [li]at he;exact My aa s e he
def sj{α:Type}:∀{l:List (Nat×α)} {i:Nat} {x:α},look l i=some x→(i,x)∈l
 |[],_,_,h=>by simp [look]at h
 |(j,y)::l,i,x,h=>by
  rw [dC]at h;by_cases hj:j=i
  ·simp [hj]at h;subst h;simp [hj]
  ·simp [hj]at h;exact List.mem_cons_of_mem _ (sj h)
def Mz{n:Nat}:∀{l:List aW} {i:Nat} {e:aW},se n l=true→l[i]? = some e→below n e.d=true
 |[],_,_,_,h=>by simp at h
 |d::l,0,_,hb,h=>by simp [se]at hb;simp at h;exact h ▸ hb.1
 |d::l,i+1,_,hb,h=>by simp [se]at hb;simp at h;exact Mz hb.2 h
def bI.vE(h:bI P K M β st tmps w){live yu:List Nat}{n:Nat}(ai:Ab.vE live yu n st.env st.H st.aX=some bY)(eh:∀r b,K.j' r=some b→r<n):
 ∃ β',bI P K M β' bY tmps w:=by
 unfold Ab.vE at ai;split at ai
 case h_2=>cases ai
 rename_i oq H' he eN;rw [Bool.cond_eq_ite]at ai;split at ai
 case isFalse=>cases ai
 rename_i hc;cases ai;simp only [Bool.and_eq_true,List.all_eq_true,Prod.forall,Nat.blt_eq,Nat.ble_eq]at hc;obtain⟨⟨hn,aft⟩,Vl⟩:=hc
 have Z:bI P K M β {env:=oq,H:=H',aX:=st.aX} tmps w:=by
  refine h.sub rfl (λl aY ab=>?_) (λr cs ai=>⟨cs,My eN _ _ ai,rfl⟩)
  refine⟨aY,?_,rfl,λ_ h=>h⟩
  cases l with
  |slot s=>exact Vk he _ _ ab
  |cell r i=>
   simp only [aH.at]at ab ⊢;cases ai:look H' r with
   |none=>simp [ai]at ab
   |some c=>simp [ai]at ab;simp [My eN _ _ ai,ab]
 have nx:∀l e,({env:=oq,H:=H',aX:=st.aX}:aH).at l=some e→below n e.d=true∧(∀r i,l = .cell r i→r<n):=by
  intro l e ab;cases l with
  |slot s=>exact⟨aft s e (sj ab),by simp⟩
  |cell r i=>
   simp only [aH.at]at ab;cases ai:look H' r with
   |none=>simp [ai]at ab
   |some c=>
    simp [ai]at ab;have:=Vl r c (sj ai)
    exact⟨Mz this.2 ab,by rintro cI m4 h;cases h;exact this.1⟩
 refine⟨λr=>if r<n then β r else none,?_⟩
 have co:∀l e,({env:=oq,H:=H',aX:=st.aX}:aH).at l=some e→ce tmps w (λr=>if r<n then β r else none) l=ce tmps w β l:=by
  intro l e ab;cases l with
  |slot s=>rfl
  |cell r i=>simp [ce,(nx _ _ ab).2 r i rfl]
 have j_:∀r c,look H' r=some c→r<n:=λr c ai=>(Vl r c (sj ai)).1
 constructor
 ·intro l e ab;rw [co l e ab];exact(Z.e4 l e ab).Vg (λr ai=>by simp [ai]) (nx l e ab).1
 ·intro l e T ab aD;rw [co l e ab];exact Z.own l e T ab aD
 ·intro l cH e aY T T' b ab aD cO ec hb bQ;rw [co l e ab]at hb;rw [co cH aY cO]at bQ;exact Z.uniq l cH e aY T T' b ab aD cO ec hb bQ
 ·intro l e T b r cs ab aD hb ai;rw [co l e ab]at hb;have:=Z.unbox l e T b r cs ab aD hb ai
  simpa [j_ r cs ai]using this
 ·intro r cs ai;obtain⟨b,vs,T,aa,am⟩:=Z.box r cs ai;exact⟨b,vs,T,by simpa [j_ r cs ai]using aa,am⟩
 ·intro r cI b cs cs' ai fb hb bQ;exact Z.inj r cI b cs cs' ai fb (by simpa [j_ r cs ai]using hb) (by simpa [j_ cI cs' fb]using bQ)
 ·intro r b hb;by_cases bw:r<n
  ·exact bw
  ·simp [bw]at hb
 ·exact Z.mem
 ·exact Z.m0
 ·exact Z.frame
 ·intro r b hb;simp [eh r b hb,Z.iL r b hb]
 ·exact Z.jm
 ·exact Z.h3
end
def lG(P:Program):TypeDesc→Option mt
 |.int k=>some (.int k)
 |.bool=>some .bool
 |.string=>some .str
 |.struct cD=>some (.dE (cD.toList.map λf=>(f.offset,f.type,P.cellsOf f.type)))
 |.slice e=>some (.bJ e)
 |.array n e=>some (.arr n e)
 |.pointer _=>some .ptr
 |.func _ _ _=>some .iK
 |.interface _=>some .pY
 |_=>none
def vJ:Value→V→Bool
 |.int k n,.int k' n'=>decide (k=k')&&decide (n=n')
 |.bool a,.bool b=>a == b
 |.string s,.str l=>decide (s.data.toList=l)
 |.slice none 0 0,.bJ _ n _=>Nat.beq n 0
 |.pointer none,.fC=>true
 |.nilIface,.jL=>true
 |.nilFunc,.fD=>true
 |_,_=>false
def vK:List Value→List V→Bool
 |[],[]=>true
 |v::vs,x::xs=>vJ v x&&vK vs xs
 |_,_=>false
def yv(P:Program)(inner:TypeId→List Field→Bool):Nat→List Field→Bool
 |_,[]=>true
 | i, f :: l => Nat.beq f.offset i && !decide (f.name = "_") && (match P.underlying f.type with
  |some (.int _) |some .bool |some .string=>yv P inner (i+1) l
  |some (.struct gs)=>inner f.type gs.toList&&yv P inner (i+P.cellsOf f.type) l
  |_=>false)
def sk(P:Program):Nat→List Field→Nat
 | 0,cD=>cD.length
 |d+1,cD=>(cD.map λf=>match P.underlying f.type with
  |some (.struct gs)=>sk P d gs.toList
  |_=>1).sum
def vL(P:Program):Nat→Nat→List Field→Bool
 | 0=>yv P λ_ _=>false
 |d+1=>yv P λt gs=>!P.stoodInHeld t&&Nat.beq (P.cellsOf t) (sk P d gs)&&vL P d 0 gs
def MA(P:Program)(t:TypeId):Bool:=
 match P.underlying t with
 |some (.struct cD)=>!P.stoodInHeld t && !P.eqGuardType P.depth t&&vL P 4 0 cD.toList
 |_=>false
def Vm(P:Program)(t:TypeId)(aE:eI):Bool:=
 match P.info? t,P.underlying t with
 |some i,some d=>decide (lG P d=some aE.k)&&Nat.beq i.size aE.size&&Nat.beq i.bytes aE.bytes&&Nat.beq aE.zero.length aE.size &&
  aE.jY.all (λx=>liesAt P P.depth t (aE.size / P.cellsOf t) x.1 x.2 1) &&
  (match i.zero with|some z=>vK z.cells.toList aE.zero&&(match z with|.agg _=>aE.k.isAgg|.tuple _=>false|_=>!aE.k.isAgg)|none=>false)
 |_,_=>false
def fe(P:Program)(tt:dH):Bool:=tt.all λx=>Vm P x.1 x.2
def MB{M:Mem}{v:Value}{x:V}(h:vJ v x=true):dq M v x∧v.oneCell'=true:=by
 unfold vJ at h;split at h<;>simp at h
 ·obtain⟨rfl,rfl⟩:=h;exact⟨.int _ _,rfl⟩
 ·subst h;exact⟨.bool _,rfl⟩
 ·rename_i s l;subst h;exact⟨by exact .str s.data.toList,rfl⟩
 ·subst h;exact⟨.mu _ _,rfl⟩
 ·exact⟨.fC,rfl⟩
 ·exact⟨.jL,rfl⟩
 ·exact⟨.fD,rfl⟩
def yw{M:Mem}:∀{vs:List Value} {xs:List V},vK vs xs=true→vs.length=xs.length∧(∀v,v∈vs→v.oneCell'=true)∧∀(i:Nat) v x,vs[i]? = some v→xs[i]? = some x→dq M v x∧vJ v x=true
 |[],[],_=>by simp
 |[],_::_,h=>by simp [vK]at h
 |_::_,[],h=>by simp [vK]at h
 |v::vs,x::xs,h=>by
  simp [vK]at h;obtain⟨Z,aa,am⟩:=yw (M:=M) h.2;refine⟨by simp [Z],?_,?_⟩
  ·intro u hu;rcases List.mem_cons.1 hu with rfl|hu
   ·exact(MB (M:=M) h.1).2
   ·exact aa u hu
  ·intro i u y hu b1;cases i with
   |zero=>simp at hu b1;subst hu;subst b1;exact⟨(MB h.1).1,h.1⟩
   |succ i=>simp at hu b1;exact am i u y hu b1
structure Row(P:Program)(t:TypeId)(aE:eI) where
 info:TypeInfo
 desc:TypeDesc
 z:Value
 hi:P.info? t=some info
 hd:P.underlying t=some desc
 hk:lG P desc=some aE.k
 size:info.size=aE.size
 bytes:info.bytes=aE.bytes
 cY:info.zero=some z
 MC:aE.zero.length=aE.size
 BK:vK z.cells.toList aE.zero=true
 jY:(aE.jY.all λx=>liesAt P P.depth t (aE.size / P.cellsOf t) x.1 x.2 1)=true
 as9:match z with|.agg _=>aE.k.isAgg=true|.tuple _=>False|_=>aE.k.isAgg=false
theorem ev{P:Program}{tt:dH}(h:fe P tt=true){t:TypeId}{aE:eI}(aF:look tt t=some aE):Nonempty (Row P t aE):=by
 have hm:=sj aF;unfold fe at h;rw [List.all_eq_true]at h;have:=h _ hm
 unfold Vm at this
 dsimp only at this
 split at this
 case h_2=>cases this
 rename_i i d hi hd;simp only [Bool.and_eq_true,decide_eq_true_eq,Nat.beq_eq]at this;obtain⟨⟨⟨⟨⟨Z,aa⟩,am⟩,aK⟩,nx⟩,bd⟩:=this;split at bd
 case h_2=>cases bd
 rename_i z cY;simp only [Bool.and_eq_true]at bd
 exact⟨⟨i,d,z,hi,hd,Z,aa,am,cY,aK,bd.1,nx,by
  have:=bd.2
  cases z<;>simp at this<;>simp [this]⟩⟩
def Row.cellsOf{P:Program}{t:TypeId}{aE:eI}(r:Row P t aE):P.cellsOf t=aE.size:=by
 simp [Program.cellsOf,r.hi,r.size]
section runs
variable {P:Program} {t:TypeId} {aE:eI} (w:World)
def Row.run_sizeOf(r:Row P t aE):(sizeOf t).run P w = .ok aE.size w:=by
 rw [Go.run_sizeOf w r.hi,r.cellsOf]
def Row.Gh(r:Row P t aE):(zeroValue t).run P w = .ok r.z w:=by
 simp [zeroValue,typeInfo,r.hi,r.cY]
def Row.run_underlying(r:Row P t aE):(underlying t).run P w = .ok r.desc w:=Go.run_underlying r.hd w
def Row.yx(r:Row P t aE):(isAgg t).run P w = .ok aE.k.isAgg w:=by
 have hk:=r.hk;simp only [isAgg,Sem.run_bind,r.run_underlying,Result.andThen_ok];cases hd:r.desc<;>simp [hd,lG]at hk<;>simp [←hk,mt.isAgg]
end runs
def fR(tmps:Array Value)(p:Path):Prop:=∀x,x∈p→tmps.getD x.1 undef = .bool x.2
structure fJ(P:Program)(K:Ctx)(N:Nat)(M:Mem)(β:Nat→Option Nat)(g:dk)(tmps:Array Value)(w:World):Prop where
 bo:bI P K M β {env:=g.env,H:=g.H,aX:=g.aX} tmps w
 size:tmps.size=N
 fresh:∀s id,look g.ids s=some id→look g.H id=none→∀b,β id≠some b
 cond:∀t q d,look g.b6 t=some (q,d)→(fR tmps q→cv M β (tmps.getD t undef) d)∧(¬ fR tmps q→tmps.getD t undef=undef)
def Path.afu{q p:Path}(h:q.sub p=true){tmps:Array Value}(hp:fR tmps p):fR tmps q:=by
 intro x hx;unfold Path.sub at h;rw [List.all_eq_true]at h;have:=h x hx
 unfold Path.has at this;rw [List.any_eq_true]at this;obtain⟨y,b1,m5⟩:=this;simp at m5
 have Z:=hp y b1;rw [←m5.1,←m5.2];exact Z
def afv{M:Mem}{v:Value}{x:V}(h:Mi v=some x):dq M v x:=by
 unfold Mi at h;split at h<;>simp at h<;>subst h
 ·exact .int _ _
 ·exact .bool _
 ·rename_i s;exact .str s.data.toList
 ·exact .fC
 ·exact .jL
 ·exact .fD
def ed{P:Program}{K:Ctx}{N:Nat}{M:Mem}{β:Nat→Option Nat}{g:dk}{tmps:Array Value}{w:World}(h:fJ P K N M β g tmps w){p:Path}(hp:fR tmps p){tt:dH}{ty:TypeId}{x:Operand}{d:D}
 (hx:rd g.env g.b6 p tt ty x=some d) {ds:List Deferred}:cv M β ((⟨tmps,ds⟩:Act).eval x) d:=by
 cases x with
 |tmp t=>
  simp only [rd]at hx;split at hx
  ·rename_i q dV hc;rw [Bool.cond_eq_ite]at hx;split at hx<;>simp at hx
   subst hx;exact(h.cond t q dV hc).1 (Path.afu (by assumption) hp)
  ·simp only [Option.map_eq_some_iff]at hx;obtain⟨e,he,rfl⟩:=hx;exact h.bo.e4 (.slot t) e he
 |const v=>
  simp only [rd]at hx;split at hx
  ·rename_i heq;cases heq
  ·rename_i heq;cases heq;split at hx
   ·cases hx;exact .v _ _ (.mu _ _)
   ·cases hx
  ·rename_i heq;cases heq;simp only [Option.map_eq_some_iff]at hx;obtain⟨y,b1,rfl⟩:=hx;exact .v _ _ (afv b1)
  ·rename_i heq;cases heq
  ·rename_i heq;cases heq
 |global n=>simp [rd]at hx
 |func f=>
  simp [rd]at hx;subst hx;exact .fn f [] [] rfl (by simp)
def afw{v:Value}(h:v.oneCell'=true):v.cells = #[v]:=by
 cases v<;>first|rfl|(simp [Value.oneCell']at h)
def cv.cells{M:Mem}{β:Nat→Option Nat}{v:Value}{d:D}(h:cv M β v d)(aF:qU d=false):
 v.cells.toList.length=(cellsD d).length∧(∀u,u∈v.cells.toList→u.oneCell'=true)∧∀(i:Nat) u c,v.cells.toList[i]? = some u→(cellsD d)[i]? = some c→cv M β u c:=by
 have single:∀{v:Value} {d:D},v.cells = #[v]→cellsD d=[d]→v.oneCell'=true→cv M β v d→
  v.cells.toList.length=(cellsD d).length∧(∀u,u∈v.cells.toList→u.oneCell'=true)∧∀(i:Nat) u c,v.cells.toList[i]? = some u→(cellsD d)[i]? = some c→cv M β u c:=by
  intro v d Z aa am aK;rw [Z,aa];refine⟨rfl,by simpa using am,λi u c hu hc=>?_⟩
  cases i with
  |zero=>simp at hu hc;subst hu;subst hc;exact aK
  |succ i=>simp at hu
 cases h with
 |v u x hx=>
  cases hx with
  |agg vs cs hn Z ai=>
   refine⟨by simp [Value.cells,cellsD,V.cells,hn],by simpa [Value.cells]using Z,λi u c hu hc=>?_⟩
   simp [Value.cells]at hu;simp [cellsD,V.cells]at hc;obtain⟨a,ha,rfl⟩:=hc;exact .v _ _ (ai i u a hu ha)
  |any v Z=>exact single (afw Z) rfl Z (.v _ _ (.any _ Z))
  |_=>exact single rfl rfl rfl (.v _ _ (by constructor<;>assumption))
 |ptr r off b hb=>exact single rfl rfl rfl (.ptr r off b hb)
 |l6 r off u=>exact single rfl rfl rfl (.l6 r off u)
 |cu r off b u hb=>exact single rfl rfl rfl (.cu r off b u hb)
 |e' b off x val c7 Z ai=>exact single rfl rfl rfl (.e' b off x val c7 Z ai)
 |full b k n get h=>exact single rfl rfl rfl (.full b k n get h)
 |fn f vs cs hn ai=>exact single rfl rfl rfl (.fn f vs cs hn ai)
 |agg vs cs hn Z ai=>exact⟨hn,Z,ai⟩
 |cn vs cs hn ai=>simp [qU]at aF
def afx{cs:List D}:∀{xs:List V},By cs=some xs→cs=xs.map .v:=by
 induction cs with
 |nil=>intro xs h;simp [By]at h;subst h;rfl
 |cons d l aM=>
  intro xs h;cases d<;>simp [By]at h
  obtain⟨ys,b1,rfl⟩:=h;simp [aM b1]
def yy{M:Mem}{β:Nat→Option Nat}{vs:List Value}{cs:List D}(hn:vs.length=cs.length)(Z:∀v,v∈vs→v.oneCell'=true)
 (h:∀(i:Nat) v c,vs[i]? = some v→cs[i]? = some c→cv M β v c):cv M β (.agg ⟨vs⟩) (mX cs):=by
 unfold mX;split
 ·rename_i xs hx;have:=afx hx
  subst this;refine .v _ _ (.agg vs xs (by simpa using hn) Z λi v c au hc=>?_)
  have:=h i v (.v c) au (by simp [hc])
  cases this;assumption
 ·exact .agg vs cs hn Z h
section
variable {P:Program} {K:Ctx} {N:Nat} {M:Mem} {β:Nat→Option Nat} {st:aH} {g:dk} {tmps:Array Value} {w:World} {v:Value}
def mx{k:IntKind}{n:Int}(h:cv M β v (.v (.int k n))):v = .int k n:=by
 cases h with|v u x h=>cases h;rfl
def ov{x:V}(h:cv M β v (.v x)):dq M v x:=by
 cases h with|v u x h=>exact h
def vM{b:Bool}(h:cv M β v (.v (.bool b))):v = .bool b:=by
 cases h with|v u x h=>cases h;rfl
def m6{l:au'}(h:cv M β v (.v (.str l))):v = .string ⟨⟨l⟩⟩:=by
 cases h with|v u x h=>cases h;rfl
def pm{r off:Nat}(h:cv M β v (.ptr r off)):∃b,β r=some b∧v = .pointer (some ⟨b,off,none⟩):=by
 cases h with|ptr r off b h=>exact⟨b,h,rfl⟩
def MD{t:TypeId}{x:V}(h:cv M β v (.v (.iface t x))):∃u,v = .iface t u∧dq M u x:=by
 cases h with|v u x h=>cases h with|iface t u x h=>exact⟨u,rfl,h⟩
def afy{cs:List V}(h:cv M β v (.v (.agg cs))):∃vs:List Value,v = .agg ⟨vs⟩∧vs.length=cs.length∧(∀u,u∈vs→u.oneCell'=true)∧∀(i:Nat) u c,vs[i]? = some u→cs[i]? = some c→dq M u c:=by
 cases h with|v u x h=>cases h with|agg vs cs hn Z h=>exact⟨vs,rfl,hn,Z,h⟩
def afz{cs:List D}(h:cv M β v (.cn cs)):∃vs:List Value,v = .tuple ⟨vs⟩∧vs.length=cs.length∧∀(i:Nat) u c,vs[i]? = some u→cs[i]? = some c→cv M β u c:=by
 cases h with|cn vs cs hn h=>exact⟨vs,rfl,hn,h⟩
def Vn{f:FuncId}{cs:List D}(h:cv M β v (.fn f cs)):∃vs:List Value,v = .func (.func f) #[] ⟨vs⟩∧vs.length=cs.length∧∀(i:Nat) u c,vs[i]? = some u→cs[i]? = some c→cv M β u c:=by
 cases h with|fn f vs cs hn h=>exact⟨vs,rfl,hn,h⟩
def tX{k n:Nat}{get:Nat→V}(h:cv M β v (.v (.bJ k n get))):((v = .slice none 0 0∨∃a,v = .slice (some a) 0 0)∧n=0)∨
 ∃(b off cap:Nat) (val:Nat→Nat→Value),v = .slice (some ⟨b,off,none⟩) n cap∧n≤cap∧(∀i,i<n→(get i).cells.length=k)∧(∀i j,i<n→j<k→M b (off+i*k+j)=some (val i j))∧
  (∀i j,i<n→j<k→(val i j).oneCell'=true)∧(∀(i j:Nat) c,i<n→(get i).cells[j]? = some c→dq M (val i j) c):=by
 cases h with
 |v u x h=>
  cases h with
  |mu=>exact .inl ⟨.inl rfl,rfl⟩
  |pZ a=>exact .inl ⟨.inr ⟨a,rfl⟩,rfl⟩
  |bJ b off k n cap get val hc hk c7 Z h=>exact .inr ⟨b,off,cap,val,rfl,hc,hk,c7,Z,h⟩
def Gi{x:V}(h:cv M β v (.e' x)):∃(b off:Nat) (val:Nat→Value),v = .pointer (some ⟨b,off,none⟩)∧(∀j,j<x.cells.length→M b (off+j)=some (val j))∧(∀j,j<x.cells.length→(val j).oneCell'=true)∧
 (∀(j:Nat) c,x.cells[j]? = some c→dq M (val j) c):=by
 cases h with|e' b off x val c7 Z h=>exact⟨b,off,val,rfl,c7,Z,h⟩
def vN{k n:Nat}{get:Nat→V}(h:cv M β v (.v (.bJ k n get))):∃a cap,v = .slice a n cap∧n≤cap:=by
 rcases tX h with⟨rfl|⟨a,rfl⟩,rfl⟩|⟨b,off,cap,val,rfl,hc,_⟩
 ·exact⟨_,_,rfl,Nat.le_refl _⟩
 ·exact⟨_,_,rfl,Nat.le_refl _⟩
 ·exact⟨_,_,rfl,hc⟩
def addr_add(b off n:Nat):(⟨b,off,none⟩:Addr).add n=⟨b,off+n,none⟩:=by
 unfold Addr.add;split<;>simp_all
def yz{x:V}(hx:x.isAgg=false):x.cells=[x]:=by
 cases x<;>first|rfl|simp [V.isAgg]at hx
def Vo{x:V}{val:Nat→Value}(Z:∀j,j<x.cells.length→(val j).oneCell'=true)(h:∀(j:Nat) c,x.cells[j]? = some c→dq M (val j) c):
 dq M (bif x.isAgg then .agg ⟨(List.range x.cells.length).map val⟩else val 0) x:=by
 cases hx:x.isAgg with
 |false=>
  have:=yz hx
  simpa using h 0 x (by simp [this])
 |true=>
  cases x<;>simp [V.isAgg]at hx
  rename_i cs;refine .agg _ cs (by simp [V.cells]) ?_ ?_
  ·intro u hu;obtain⟨j,hj,rfl⟩:=List.mem_map.1 hu;exact Z j (by simpa using hj)
  ·intro i u c hu hc;simp only [List.getElem?_map,Option.map_eq_some_iff]at hu;obtain⟨j,hj,rfl⟩:=hu
   have:j=i:=by
    rw [List.getElem?_eq_some_iff]at hj;obtain⟨_,h⟩:=hj;simpa using h.symm
   subst this;exact h j c hc
def afA{t:TypeId}{aE:eI}(r:Row P t aE)(yq:∀b o v,M b o=some v→w.cell? ⟨b,o,none⟩=some v){x:V}(au:cv M β v (.e' x))(hx:x.isAgg=aE.k.isAgg)(hs:x.cells.length=aE.size):
 ∃u,(Instr.loadAt t v).run P w = .ok u w∧dq M u x:=by
 obtain⟨b,off,val,rfl,c7,Z,h⟩:=Gi au;refine⟨_,?_,Vo Z h⟩
 have ab:∀j,j<aE.size→w.cell? ((⟨b,off,none⟩:Addr).add j)=some (val j):=λj hj=>by rw [addr_add];exact yq _ _ _ (c7 j (by omega))
 cases ha:x.isAgg with
 |true=>
  rw [ha]at hx;simp [Instr.loadAt,Instr.sureAddr,loadVar,r.yx,←hx,r.run_sizeOf,run_loadCells w ⟨b,off,none⟩ aE.size val ab,hs]
 |false=>
  rw [ha]at hx;have h0:=c7 0 (by rw [yz ha];simp)
  have:=yq _ _ _ h0
  simp [Instr.loadAt,Instr.sureAddr,loadVar,r.yx,←hx,run_load];simp at this
  rw [this]
def Gj{t:TypeId}{aE:eI}(r:Row P t aE){b off:Nat}{vs:List Value}{T:TypeId}{f:Nat×Nat}(bn:w.heap[b]? = some (.cells ⟨vs⟩ T f))(hle:off+aE.size≤vs.length)(ha:aE.k.isAgg=true):
 (Instr.loadAt t (.pointer (some ⟨b,off,none⟩))).run P w = .ok (.agg ⟨(vs.drop off).take aE.size⟩) w:=by
 have hlen:((vs.drop off).take aE.size).length=aE.size:=by simp;omega
 have:=run_loadCells_list (P:=P) w ⟨b,off,none⟩ ((vs.drop off).take aE.size) (λj u hj=>by
  rw [addr_add,cell_of_heap bn];rw [List.getElem?_take]at hj;split at hj
  ·simpa using hj
  ·cases hj)
 rw [hlen]at this;simp [Instr.loadAt,Instr.sureAddr,loadVar,r.yx,ha,r.run_sizeOf,this]
def ME{t:TypeId}{aE:eI}(r:Row P t aE){b off:Nat}{u:Value}(hc:w.cell? ⟨b,off,none⟩=some u)(ha:aE.k.isAgg=false):
 (Instr.loadAt t (.pointer (some ⟨b,off,none⟩))).run P w = .ok u w:=by
 simp [Instr.loadAt,Instr.sureAddr,loadVar,r.yx,ha,run_load,hc]
def MF{t:TypeId}{aE:eI}(r:Row P t aE){cD:List (Nat×TypeId×Nat)}(hk:aE.k = .dE cD):∃gs:Array Field,r.desc = .struct gs∧cD=gs.toList.map λf=>(f.offset,f.type,P.cellsOf f.type):=by
 have:=r.hk
 rw [hk]at this;cases hd:r.desc<;>simp [hd,lG]at this
 exact⟨_,rfl,this.symm⟩
def p8{t:TypeId}{aE:eI}(r:Row P t aE){e:TypeId}(hk:aE.k = .bJ e):r.desc = .slice e:=by
 have:=r.hk
 rw [hk]at this;cases hd:r.desc<;>simp [hd,lG]at this
 rw [this]
def q1{t:TypeId}{aE:eI}(r:Row P t aE)(hk:aE.k = .str):r.desc = .string:=by
 have:=r.hk
 rw [hk]at this;cases hd:r.desc<;>simp [hd,lG]at this;rfl
def BL{t:TypeId}{aE:eI}(r:Row P t aE){k:IntKind}(hk:aE.k = .int k):r.desc = .int k:=by
 have:=r.hk
 rw [hk]at this;cases hd:r.desc<;>simp [hd,lG]at this
 rw [this]
def afB{t:TypeId}{aE:eI}(r:Row P t aE){n:Nat}{e:TypeId}(hk:aE.k = .arr n e):r.desc = .array n e:=by
 have:=r.hk
 rw [hk]at this;cases hd:r.desc<;>simp [hd,lG]at this
 rw [this.1,this.2]
def Vp{s:TypeId}{aE:eI}(r:Row P s aE){cD:List (Nat×TypeId×Nat)}(hk:aE.k = .dE cD){f cR ic fA:Nat}(bP:cD[f]? = some (cR,ic,fA))(en:1≤fA)(b off:Nat):
 (Instr.fieldAt s (.pointer (some ⟨b,off,none⟩)) f).run P w = .ok (.pointer (some ⟨b,off+cR,none⟩)) w:=by
 obtain⟨gs,hd,rfl⟩:=MF r hk;simp only [List.getElem?_map,Option.map_eq_some_iff]at bP;obtain⟨fd,kw,he⟩:=bP;simp only [Prod.mk.injEq]at he;obtain⟨rfl,rfl,rfl⟩:=he;have Gk:gs[f]? = some fd:=by simpa using kw
 have hs:(sizeOf fd.type).run P w = .ok (P.cellsOf fd.type) w:=by
  cases hi:P.info? fd.type with
  |none=>simp [Program.cellsOf,hi]at en
  |some i=>exact Go.run_sizeOf w hi
 have dL:P.cellsOf fd.type≠0:=by omega
 simp [Instr.fieldAt,r.run_underlying,hd,Gk,Instr.sureAddr,fieldPlace,hs,dL,addr_add]
def Vq{s:TypeId}{aE:eI}(r:Row P s aE){cD:List (Nat×TypeId×Nat)}(hk:aE.k = .dE cD){f cR ic fA:Nat}(bP:cD[f]? = some (cR,ic,fA)){yA:eI}(r2:Row P ic yA)(vs:List Value)(hle:cR+fA≤vs.length):
 (yA.k.isAgg=true→(Instr.field s (.agg ⟨vs⟩) f).run P w = .ok (.agg ⟨(vs.drop cR).take fA⟩) w)∧
 (yA.k.isAgg=false→∀u,vs[cR]? = some u→(Instr.field s (.agg ⟨vs⟩) f).run P w = .ok u w):=by
 obtain⟨gs,hd,rfl⟩:=MF r hk;simp only [List.getElem?_map,Option.map_eq_some_iff]at bP;obtain⟨fd,kw,he⟩:=bP;simp only [Prod.mk.injEq]at he;obtain⟨rfl,rfl,rfl⟩:=he;have Gk:gs[f]? = some fd:=by simpa using kw
 have en:=r2.cellsOf;refine⟨λha=>?_,λha u hu=>?_⟩
 ·simp [Instr.field,r.run_underlying,hd,Gk,asAgg,part,r2.yx,ha,r2.run_sizeOf,en,List.extract_eq_take_drop]
 ·simp [Instr.field,r.run_underlying,hd,Gk,asAgg,part,r2.yx,ha,hu]
def afC{t:TypeId}{aE:eI}(r:Row P t aE){e:TypeId}(hk:aE.k = .bJ e){cm:eI}(d9:Row P e cm){k:IntKind}{j:Int}{b off n cap:Nat}(h0:0≤j)(Z:j<n):
 (Instr.indexAt t (.slice (some ⟨b,off,none⟩) n cap) (.int k j)).run P w = .ok (.pointer (some ⟨b,off+j.toNat*cm.size,none⟩)) w:=by
 simp [Instr.indexAt,asIntOf,r.run_underlying,p8 r hk,h0,Z,d9.run_sizeOf,addr_add]
def afD{t:TypeId}{aE:eI}(r:Row P t aE)(hk:aE.k = .str){k:IntKind}{j:Int}{l:au'}(h0:0≤j)(Z:j<l.length):
 (Instr.index t (.string ⟨⟨l⟩⟩) (.int k j)).run P w = .ok (.int .u8 (l.getD j.toNat 0).toNat) w:=by
 have bw:j.toNat<l.length:=by omega
 have Gl:j.toNat<(ByteArray.mk ⟨l⟩).size:=bw;have hs:(ByteArray.mk ⟨l⟩)[j.toNat]? = some l[j.toNat]:=by rw [getElem?_pos (ByteArray.mk ⟨l⟩) j.toNat Gl];rfl
 simp [Instr.index,asIntOf,r.run_underlying,q1 r hk,h0,hs,List.getElem?_eq_getElem bw]
def Gm(l:au'):(⟨⟨l⟩⟩:ByteArray).toList=l:=by
 rw [ByteArray.toList_eq]
end
section
variable {P:Program} {K:Ctx} {N:Nat} {M:Mem} {β:Nat→Option Nat} {g:dk} {tmps:Array Value} {w:World} {o:Oper} {f:lC} {p:Path} {tt:dH} {ck:gF} {ops:List Oper}
def after(g:dk)(f:lC):aH:={env:=gU f.hy g.env,H:=f.hs++g.H,aX:=g.aX+f.fv}
def bS(P:Program)(K:Ctx)(M:Mem)(β:Nat→Option Nat)(g:dk)(f:lC)(tmps:Array Value)(v:Value)(w':World):Prop:=
 ∃M' β',M.le M'∧(∀r b,β r=some b→β' r=some b)∧(∀r b,β' r=some b→β r=some b∨(look f.hs r).isSome=true)∧bI P K M' β' (after g f) tmps w'∧
  ∀e,f.e=some e→cv M' β' v e.d∧∀T l0,e.own=some T→m3 P K M' β' (after g f) tmps w' l0 v T
def Yields(P:Program)(K:Ctx)(M:Mem)(β:Nat→Option Nat)(g:dk)(f:lC)(o:Oper)(tmps:Array Value)(w:World):Prop:=
 (∃v w',(execOp (Act.eval ⟨tmps,[]⟩) o).run P w = .ok (.value v) w'∧bS P K M β g f tmps v w')∨
 (f.e=none∧∃w',(execOp (Act.eval ⟨tmps,[]⟩) o).run P w = .ok .skip w'∧bS P K M β g f tmps undef w')∨
 (∃fn vs,(execOp (Act.eval ⟨tmps,[]⟩) o).run P w = .ok (.enter fn vs) w∧Calls P fn vs w λe w'=>∃v,e = .returned v∧bS P K M β g f tmps v w')
def ff(h:fJ P K N M β g tmps w){v:Value}{d:D}(ai:(execOp (Act.eval ⟨tmps,[]⟩) o).run P w = .ok (.value v) w)(hd:cv M β v d){rs:List fu}{a8:List Prop}:
 Yields P K M β g {e:=some {d},rs,a8} o tmps w:=
 .inl ⟨v,w,ai,M,β,Mem.le_refl _,λ_ _ h=>h,λ_ _ h=>.inl h,h.bo,λe he=>by cases he;exact⟨hd,by simp⟩⟩
def jo(x:Sem Value){v:Value}{w':World}(h:x.run P w = .ok v w'):(do pure (.value (←x)):Sem Next).run P w = .ok (.value v) w':=by
 simp [h]
def Gn(h:fJ P K N M β g tmps w)(hp:fR tmps p){x:Operand}(ay:o.op = .move x∨o.op = .assign x){d:D}(hx:rd g.env g.b6 p tt o.type x=some d):
 Yields P K M β g {e:=some {d},rs:=g.rs} o tmps w:=
 ff h (v:=(⟨tmps,[]⟩:Act).eval x) (by rcases ay with ay|ay<;>simp [execOp,ay]) (ed h hp hx)
def Vr(h:fJ P K N M β g tmps w)(hp:fR tmps p){t:Nat}(ay:o.op = .move (.tmp t)∨o.op = .assign (.tmp t)){d:D}(hx:rd g.env g.b6 p tt o.type (.tmp t)=some d)
 {s:TypeId} (hs:pg g (.tmp t)=some s) {rs:List fu}:Yields P K M β g {e:=some {d,own:=some s},hy:=[t],rs} o tmps w:=by
 refine .inl ⟨(⟨tmps,[]⟩:Act).eval (.tmp t),w,by rcases ay with ay|ay<;>simp [execOp,ay],M,β,Mem.le_refl _,λ_ _ h=>h,λ_ _ h=>.inl h,?_,λe he=>?_⟩
 ·have:=h.bo.hy [t];exact this
 ·cases he;refine⟨ed h hp hx,λT l0 aD=>?_⟩
  cases aD;simp only [pg,Option.bind_eq_some_iff]at hs;obtain⟨e,he,hs⟩:=hs;exact h.bo.hand he hs l0
def afE(h:fJ P K N M β g tmps w)(hp:fR tmps p)(ay:o.op = .assign (.const (.slice none 0 0))){d:D}(hx:rd g.env g.b6 p tt o.type (.const (.slice none 0 0))=some d)(s:TypeId):
 Yields P K M β g {e:=some {d,own:=some s},rs:=g.rs} o tmps w:=by
 refine .inl ⟨.slice none 0 0,w,by simp [execOp,ay,Act.eval],M,β,Mem.le_refl _,λ_ _ h=>h,λ_ _ h=>.inl h,h.bo,λe he=>?_⟩
 cases he;exact⟨ed (ds:=[]) h hp hx,λT l0 _=>Mx l0 T⟩
def afF(h:fJ P K N M β g tmps w)(hp:fR tmps p){c:Nat}{a b:Operand}(ay:o.op = .pick (.tmp c) a b){tR BC qX:Bool}(hc:rd g.env g.b6 p tt o.type (.tmp c)=some (.v (.bool tR)))
 (ha:rd g.env g.b6 ((c,true)::p) tt o.type a=some (.v (.bool BC))) (hb:rd g.env g.b6 ((c,false)::p) tt o.type b=some (.v (.bool qX))):
 Yields P K M β g {e:=some {d:=.v (.bool (bif tR then BC else qX))},rs:=g.rs} o tmps w:=by
 have kv:(⟨tmps,[]⟩:Act).eval (.tmp c) = .bool tR:=vM (ed h hp hc);have Vs:tmps.getD c undef = .bool tR:=kv;cases tR with
 |true=>
  refine ff h (v:=(⟨tmps,[]⟩:Act).eval a) (by simp [execOp,ay,kv,asBool]) ?_
  exact ed h (p:=(c,true)::p) (λx hx=>by rcases List.mem_cons.1 hx with rfl|hx;exact Vs;exact hp x hx) ha
 |false=>
  refine ff h (v:=(⟨tmps,[]⟩:Act).eval b) (by simp [execOp,ay,kv,asBool]) ?_
  exact ed h (p:=(c,false)::p) (λx hx=>by rcases List.mem_cons.1 hx with rfl|hx;exact Vs;exact hp x hx) hb
def bI.MG{st:aH}(h:bI P K M β st tmps w)(o:Nat):M w.heap.size o=none:=by
 cases hm:M w.heap.size o with
 |none=>rfl
 |some v=>have:=lt_of_cell (h.mem _ _ _ hm);omega
def Vt(h:fJ P K N M β g tmps w){vs:List Value}{T:TypeId}{cs:List aW}(hlen:vs.length=cs.length)(gH:∀v,v∈vs→v.oneCell'=true)(hlies:lF P T vs.length cs)
 (au:∀(i:Nat) v e,vs[i]? = some v→cs[i]? = some e→cv M β v e.d∧∀T,e.own=some T→v = .slice none 0 0)
 (ai:(execOp (Act.eval ⟨tmps,[]⟩) o).run P w = .ok (.value (.pointer (some ⟨w.heap.size,0,none⟩))) {w with heap:=w.heap.push (.cells ⟨vs⟩ T (0,0))}) {id fv:Nat} (hid:oo g o=some (id,fv)):
 Yields P K M β g {e:=some {d:=.ptr id 0},hs:=[(id,cs)],fv,rs:=g.rs} o tmps w:=by
 have bP:(∀b,β id≠some b)∧id<g.aX+fv:=by
  unfold oo at hid;split at hid
  ·rename_i as' ab;rw [Bool.cond_eq_ite]at hid;split at hid<;>cases hid
   rename_i hc;simp only [Bool.and_eq_true,Option.isNone_iff_eq_none,Nat.blt_eq]at hc;rw [Option.bind_eq_some_iff]at ab;obtain⟨s,_,ab⟩:=ab;exact⟨h.fresh s _ ab hc.1,by omega⟩
  ·cases hid;exact⟨λb hb=>by have:=h.bo.lt _ b hb;simp at this,by omega⟩
 refine .inl ⟨_,_,ai,M,_,Mem.le_refl _,?_,?_,h.bo.afl (n':=g.aX+fv) bP.1 bP.2 (by simp) (T:=T) hlen gH hlies au,λe he=>?_⟩
 ·intro r b hb;have dL:r≠id:=λe=>bP.1 b (e ▸ hb)
  simp [dL,hb]
 ·intro r b hb;by_cases dL:r=id
  ·exact .inr (by simp [dC,dL])
  ·simp [dL]at hb;exact .inl hb
 ·cases he;exact⟨.ptr _ _ _ (by simp),by simp⟩
def Vu{α:Type}:∀(l:List α) (n i:Nat),(cX n l)[i]? = (l[i]?).map (n+i,·)
 |[],n,i=>by simp [cX]
 |x::l,n,0=>by simp [cX]
 |x::l,n,i+1=>by simp [cX,Vu l (n+1) i];congr 1;funext;congr 1;omega
def Vv{α:Type}:∀(l:List α) (n:Nat),(cX n l).length=l.length
 |[],n=>rfl
 |x::l,n=>by simp [cX,Vv l (n+1)]
def Vw{x:V}{t:Option TypeId}{T:TypeId}(h:F_ x t=some T):∃k n get,x = .bJ k n get:=by
 cases x<;>simp [F_]at h;exact⟨_,_,_,rfl⟩
def Vx(jY:List (Nat×TypeId))(id i:Nat)(x:V):BA jY id i x = .v x∨(x = .fC∧∃u,BA jY id i x = .cu id i u∧(i,u)∈jY):=by
 unfold BA;split
 ·split
  ·rename_i y b1;right
   have Z:=List.find?_some b1;have aa:=List.mem_of_find?_eq_some b1;obtain⟨j,u⟩:=y;obtain rfl:j=i:=by simpa using Z
   exact⟨rfl,u,rfl,aa⟩
  ·exact .inl rfl
 ·exact .inl rfl
def afG{t:TypeId}{id:Nat}{z:List aW}(h:Gb tt t id=some z):∃aE,look tt t=some aE∧z.length=aE.zero.length∧
 ∀(i:Nat) e,z[i]? = some e→∃x,aE.zero[i]? = some x∧(e.d = .v x∨(x = .fC∧∃u,e.d = .cu id i u∧(i,u)∈aE.jY))∧∀T,e.own=some T→∃k n get,x = .bJ k n get:=by
 unfold Gb at h;split at h<;>simp at h
 ·rename_i e fA kM zero ig ab;subst h;refine⟨_,ab,by simp,λi aY he=>?_⟩
  simp only [List.getElem?_map,Option.map_eq_some_iff]at he;obtain⟨x,hx,rfl⟩:=he;exact⟨x,hx,.inl rfl,λT aD=>Vw aD⟩
 ·rename_i cD fA kM zero ig ab;subst h;refine⟨_,ab,by simp [Vv],λi aY he=>?_⟩
  simp only [List.getElem?_map,Option.map_eq_some_iff,Vu]at he;obtain⟨_,⟨x,hx,rfl⟩,rfl⟩:=he;simp only [Nat.zero_add];exact⟨x,hx,Vx ig id i x,λT aD=>Vw aD⟩
 ·rename_i k fA kM zero ig _ _ ab;subst h;refine⟨_,ab,by simp,λi aY he=>?_⟩
  simp only [List.getElem?_map,Option.map_eq_some_iff]at he;obtain⟨x,hx,rfl⟩:=he;exact⟨x,hx,.inl rfl,by simp⟩
def afH(h:fJ P K N M β g tmps w)(cf:fe P tt=true){t:TypeId}(ay:o.op = .alloc t){z:List aW}{id fv:Nat}(cY:Gb tt t id=some z)(hid:oo g o=some (id,fv)):
 Yields P K M β g {e:=some {d:=.ptr id 0},hs:=[(id,z)],fv,rs:=g.rs} o tmps w:=by
 obtain⟨aE,ab,hlen,Vy⟩:=afG cY;obtain⟨r⟩:=ev cf ab;obtain⟨Z,aa,am⟩:=yw (M:=M) r.BK;refine Vt h (vs:=r.z.cells.toList) (T:=t) (by omega) aa (λe he q off u hd=>?_) (λi v e au he=>?_) ?_ hid
 ·obtain⟨i,hi,rfl⟩:=List.getElem_of_mem he;obtain⟨x,hx,kN,_⟩:=Vy i z[i] (List.getElem?_eq_getElem hi);rcases kN with kN|⟨_,as_,kN,hm⟩
  ·rw [kN]at hd;cases hd
  ·rw [kN]at hd;cases hd;have:=List.all_eq_true.1 r.jY _ hm
   have en:=r.MC;rw [show r.z.cells.toList.length=aE.size by omega]
   exact this
 ·obtain⟨x,hx,hd,fW⟩:=Vy i e he;obtain⟨aK,bd⟩:=am i v x au hx
  refine⟨by
   rcases hd with hd|⟨rfl,u,hd,_⟩
   ·rw [hd];exact .v _ _ aK
   ·rw [hd];cases aK;exact .l6 _ _ _,λT aD=>?_⟩
  obtain⟨k,n,get,rfl⟩:=fW T aD;unfold vJ at bd;split at bd<;>simp_all
 ·simp [execOp,ay,Instr.alloc,r.Gh,newVar,newRow]
def MH(tt:dH)(aE:eI)(id:Nat):∀(l:List D) (i j:Nat),(qW tt aE id i l)[j]? = (l[j]?).map (yl tt aE id (i+j))
 |[],i,j=>by simp [qW]
 |d::l,i,0=>by simp [qW]
 |d::l,i,j+1=>by
  simp only [qW,List.getElem?_cons_succ];rw [MH tt aE id l (i+1) j,show i+1+j=i+(j+1)by omega]
def MI(tt:dH)(aE:eI)(id:Nat):∀(l:List D) (i:Nat),(qW tt aE id i l).length=l.length
 |[],i=>rfl
 |d::l,i=>by simp only [qW,List.length_cons,MI tt aE id l (i+1)]
def Vz{M:Mem}{β:Nat→Option Nat}(tt:dH)(aE:eI)(id i:Nat)(d:D)(q2:∀r o u,d ≠ .cu r o u){v:Value}(h:cv M β v d):
 cv M β v (yl tt aE id i d).d∧(∀T,(yl tt aE id i d).own=some T→v = .slice none 0 0)∧∀r o u,(yl tt aE id i d).d = .cu r o u→(o,u)∈aE.jY:=by
 unfold yl;split
 ·rcases Vx aE.jY id i .fC with Z|⟨_,u,Z,aa⟩
  ·simp only [Z];exact⟨h,(λT aD=>by cases aD),(λr o u e=>by cases e)⟩
  ·simp only [Z]
   cases h with|v u x hx=>cases hx with
    |fC=>exact⟨.l6 _ _ _,(λT aD=>by cases aD),(λr o u e=>by cases e;exact aa)⟩
 ·split
  ·cases h with|v u x hx=>cases hx with
    |pe=>exact⟨.v _ _ (.mu _ _),λ_ _=>rfl,λr o u e=>by cases e⟩
  ·exact⟨h,(λT aD=>by cases aD),(λr o u e=>by cases e)⟩
 ·exact⟨h,(λT aD=>by cases aD),λr o u e=>absurd e (q2 r o u)⟩
def afI(h:fJ P K N M β g tmps w)(hp:fR tmps p){t:TypeId}{x:Operand}(ay:o.op = .box t x){d:D}(hx:rd g.env g.b6 p tt o.type x=some d)(aF:qU d=false)(q2:sb (cellsD d)=true)(cf:fe P tt=true){aE:eI}(ab:look tt t=some aE)(en:(cellsD d).length=aE.size){id fv:Nat}(hid:oo g o=some (id,fv)):
 Yields P K M β g {e:=some {d:=.ptr id 0},hs:=[(id,qW tt aE id 0 (cellsD d))],fv,rs:=g.rs} o tmps w:=by
 obtain⟨r⟩:=ev cf ab;obtain⟨Z,aa,am⟩:=(ed (ds:=[]) h hp hx).cells aF;refine Vt h (vs:=((⟨tmps,[]⟩:Act).eval x).cells.toList) (T:=t) (by rw [MI];simpa using Z) aa (λe he q off u hd=>?_) (λi v e au he=>?_) ?_ hid
 ·obtain⟨i,hi,rfl⟩:=List.getElem_of_mem he;have hg:(qW tt aE id 0 (cellsD d))[i]? = some _:=List.getElem?_eq_getElem hi;rw [MH,Option.map_eq_some_iff]at hg;obtain⟨c,hc,MJ⟩:=hg;rw [←MJ]at hd;have tY:i<((⟨tmps,[]⟩:Act).eval x).cells.toList.length:=by rw [MI]at hi;omega
  have:=(Vz tt aE id (0+i) c (BF q2 c (List.mem_of_getElem? hc)) (am i _ c (List.getElem?_eq_getElem tY) hc)).2.2 q off u hd
  have hb:=List.all_eq_true.1 r.jY _ this;rw [Z,en];exact hb
 ·rw [MH,Option.map_eq_some_iff]at he;obtain⟨c,hc,rfl⟩:=he;obtain⟨g1,g2,_⟩:=Vz tt aE id (0+i) c (BF q2 c (List.mem_of_getElem? hc)) (am i v c au hc);exact⟨g1,g2⟩
 ·simp [execOp,ay,Instr.box,newVar,newRow]
end
def ow{α:Type}:∀(cs:List α) (off:Nat) (xs:List α),off+xs.length≤cs.length→(setAt cs off xs).length=cs.length∧∀(i:Nat),(setAt cs off xs)[i]? = if off≤i∧i<off+xs.length then xs[i-off]? else cs[i]?
 |[],0,[],_=>by simp [setAt]
 |[],0,x::xs,h=>by simp at h
 |[],n+1,xs,h=>by simp at h
 |c::cs,0,[],_=>by
  refine⟨by simp [setAt],λi=>?_⟩
  simp only [setAt,List.length_nil];rw [if_neg (by omega)]
 |c::cs,0,x::xs,h=>by
  obtain⟨Z,aa⟩:=ow cs 0 xs (by simp at h ⊢;omega)
  refine⟨by simp [setAt,Z],λi=>?_⟩
  cases i with
  |zero=>simp [setAt]
  |succ i=>
   simp only [setAt,List.getElem?_cons_succ,aa i,Nat.zero_add,List.length_cons];by_cases hi:i<xs.length<;>simp [hi]
 |c::cs,n+1,xs,h=>by
  obtain⟨Z,aa⟩:=ow cs n xs (by simp at h ⊢;omega)
  refine⟨by simp [setAt,Z],λi=>?_⟩
  cases i with
  |zero=>simp [setAt]
  |succ i=>
   simp only [setAt,List.getElem?_cons_succ,aa i];by_cases hi:n≤i∧i<n+xs.length
   ·rw [if_pos hi,if_pos (by omega)];congr 1;omega
   ·rw [if_neg hi,if_neg (by omega)]
def MK(off:Nat):∀(l:List Value) (k:Nat) (cs:Array Value),off+k+l.length≤cs.size→
 ((l.zipIdx k).foldl (λcs (x:Value×Nat)=>cs.setIfInBounds (off+x.2) x.1) cs).size=cs.size∧
 ∀(i:Nat),((l.zipIdx k).foldl (λcs (x:Value×Nat)=>cs.setIfInBounds (off+x.2) x.1) cs)[i]? = if off+k≤i∧i<off+k+l.length then l[i-(off+k)]? else cs[i]?
 |[],k,cs,h=>by
  refine⟨rfl,λi=>?_⟩
  simp only [List.zipIdx_nil,List.foldl_nil,List.length_nil];rw [if_neg (by omega)]
 |x::l,k,cs,h=>by
  obtain⟨Z,aa⟩:=MK off l (k+1) (cs.setIfInBounds (off+k) x) (by simp at h ⊢;omega)
  simp only [List.zipIdx_cons,List.foldl_cons];refine⟨by simpa using Z,λi=>?_⟩
  rw [aa i];simp only [List.length_cons]at h ⊢;by_cases am:off+(k+1)≤i∧i<off+(k+1)+l.length
  ·rw [if_pos am,if_pos (by omega)]
   obtain⟨j,rfl⟩:∃j,i=off+k+1+j:=⟨i-(off+k+1),by omega⟩
   rw [show off+k+1+j-(off+(k+1))=j by omega,show off+k+1+j-(off+k)=j+1 by omega]
   simp
  ·rw [if_neg am];by_cases aK:i=off+k
   ·subst aK;rw [if_pos (by omega)]
    have:off+k<cs.size:=by omega
    simp [this]
   ·rw [if_neg (by omega)]
    rw [Array.getElem?_setIfInBounds_ne (Ne.symm aK)]
section
variable {P:Program} {K:Ctx} {N:Nat} {M:Mem} {β:Nat→Option Nat} {g:dk} {tmps:Array Value} {w:World} {o:Oper} {f:lC} {p:Path} {tt:dH} {ck:gF} {ops:List Oper}
structure Cells(M:Mem)(β:Nat→Option Nat)(vs:List Value)(cs:List D):Prop where
 len:vs.length=cs.length
 one:∀v,v∈vs→v.oneCell'=true
 rep:∀(i:Nat) v c,vs[i]? = some v→cs[i]? = some c→cv M β v c
def Gp{vs:List Value}(h:∀v,v∈vs→v.oneCell'=true){i:Nat}{v:Value}(hi:vs[i]? = some v):v.oneCell'=true:=h v (List.mem_of_getElem? hi)
def VA{vs:List Value}(h:∀(i:Nat) v,vs[i]? = some v→v.oneCell'=true):∀v,v∈vs→v.oneCell'=true:=λv au=>by
 obtain⟨i,hi⟩:=List.getElem?_of_mem au;exact h i v hi
def Cells.set{vs:List Value}{cs:List D}(h:Cells M β vs cs){ws:List Value}{ds:List D}(cG:Cells M β ws ds){off:Nat}(hle:off+ds.length≤cs.length){vs':List Value}(hlen:vs'.length=vs.length)
 (jb:∀(i:Nat),vs'[i]? = if off≤i∧i<off+ws.length then ws[i-off]? else vs[i]?):Cells M β vs' (setAt cs off ds):=by
 obtain⟨Z,aa⟩:=ow cs off ds hle;refine⟨by rw [hlen,Z,h.len],VA λi v au=>?_,λi v c au hc=>?_⟩
 ·rw [jb i]at au;split at au
  ·exact Gp cG.one au
  ·exact Gp h.one au
 ·rw [jb i]at au;rw [aa i]at hc;by_cases hi:off≤i∧i<off+ds.length
  ·rw [if_pos hi]at hc;rw [if_pos (by rw [cG.len];exact hi)]at au
   exact cG.rep _ v c au hc
  ·rw [if_neg hi]at hc;rw [if_neg (by rw [cG.len];exact hi)]at au
   exact h.rep _ v c au hc
def ML{place:Nat→Option (Nat×Nat)}:∀{bu:List (Nat×D)} {vs:List (Nat×Value)} {cs cs':List D} {cells:Array Value},vs.length=bu.length→
 (∀(i:Nat) a b,bu[i]? = some a→vs[i]? = some b→a.1=b.1∧cv M β b.2 a.2)→Cells M β cells.toList cs→sc place cs bu=some cs'→
 ∃ka,Instr.fill place cells vs=some ka∧Cells M β ka.toList cs'
 |[],[],cs,cs',cells,_,_,hc,h=>by simp [sc]at h;subst h;exact⟨cells,rfl,hc⟩
 |[],_::_,_,_,_,h,_,_,_=>by simp at h
 |_::_,[],_,_,_,h,_,_,_=>by simp at h
 |(i,d)::bu,(j,v)::vs,cs,cs',cells,hn,ai,hc,h=>by
  obtain⟨sl,hd⟩:=ai 0 (i,d) (j,v) (by simp) (by simp)
  simp only at sl hd
  subst sl;simp only [sc]at h;split at h
  ·cases h
  ·rename_i off size jc;rw [Bool.cond_eq_ite]at h;split at h
   case isFalse=>cases h
   rename_i hb;simp only [Bool.and_eq_true,Nat.beq_eq,Nat.ble_eq,Bool.not_eq_true']at hb;obtain⟨⟨cF,fc⟩,MM⟩:=hb;obtain⟨Z,aa,am⟩:=hd.cells MM;have en:cells.size=cs.length:=by simpa using hc.len
   have ej:v.cells.size=size:=by simpa [cF]using Z
   have bP:=MK off v.cells.toList 0 cells (by simp [ej];omega)
   have MN:v.cells.zipIdx.foldl (λcs (x:Value×Nat)=>cs.setIfInBounds (off+x.2) x.1) cells=(v.cells.toList.zipIdx 0).foldl (λcs (x:Value×Nat)=>cs.setIfInBounds (off+x.2) x.1) cells:=by
    rw [←Array.foldl_toList,Array.toList_zipIdx]
   have kv:Cells M β (v.cells.zipIdx.foldl (λcs (x:Value×Nat)=>cs.setIfInBounds (off+x.2) x.1) cells).toList (setAt cs off (cellsD d)):=by
    rw [MN];refine hc.set ⟨Z,aa,am⟩ (by omega) (by simpa using bP.1) (λk=>?_)
    have:=bP.2 k
    simp only [Nat.add_zero]at this;rw [Array.getElem?_toList,this];simp only [Array.getElem?_toList]
   obtain⟨ka,BM,sm⟩:=ML (place:=place) (by simpa using hn) (λk a b ha hb=>ai (k+1) a b (by simpa using ha) (by simpa using hb)) kv h
   refine⟨ka,?_,sm⟩
   simp only [Instr.fill,jc];rw [if_neg (by simp;omega)]
   exact BM
def tZ{α dO:Type}{f:α→Option dO}:∀{l:List α} {cH:List dO},mapM' f l=some cH→cH.length=l.length∧∀(i:Nat) a b,l[i]? = some a→cH[i]? = some b→f a=some b
 |[],cH,h=>by simp [mapM']at h;subst h;simp
 |x::l,cH,h=>by
  simp only [mapM']at h;split at h<;>simp at h
  rename_i y ys b1 afJ;subst h;obtain⟨Z,aa⟩:=tZ afJ;refine⟨by simp [Z],λi a b ha hb=>?_⟩
  cases i with
  |zero=>simp at ha hb;subst ha;subst hb;exact b1
  |succ i=>simp at ha hb;exact aa i a b ha hb
def Row.VB{t:TypeId}{aE:eI}(r:Row P t aE):Cells M β r.z.cells.toList (aE.zero.map .v):=by
 obtain⟨Z,aa,am⟩:=yw (M:=M) r.BK;refine⟨by simpa using Z,aa,λi v c au hc=>?_⟩
 simp only [List.getElem?_map,Option.map_eq_some_iff]at hc;obtain⟨x,hx,rfl⟩:=hc;exact .v _ _ (am i v x au hx).1
def afK{M:Mem}{v:Value}{x:V}(h:vJ v x=true):dq M v (Mn x):=by
 have h0:=(MB (M:=M) h).1;unfold vJ at h;split at h<;>first|exact h0|skip
 ·rename_i k n g;have:n=0:=by simpa using h
  subst this;exact .pe _ _
 ·cases h
def Row.afL{t:TypeId}{aE:eI}(r:Row P t aE):Cells M β r.z.cells.toList (aE.zero.map λx=>.v (Mn x)):=by
 obtain⟨Z,aa,am⟩:=yw (M:=M) r.BK;refine⟨by simpa using Z,aa,λi v c au hc=>?_⟩
 simp only [List.getElem?_map,Option.map_eq_some_iff]at hc;obtain⟨x,hx,rfl⟩:=hc;exact .v _ _ (afK (am i v x au hx).2)
def MO(h:fJ P K N M β g tmps w)(hp:fR tmps p){ty:Nat→TypeId}{parts:Array (Nat×Operand)}{bu:List (Nat×D)}(gt:mapM' (fun(x:Nat×Operand)=>(rd g.env g.b6 p tt (ty x.1) x.2).map λd=>(x.1,d)) parts.toList=some bu):
 ((parts.map fun(x:Nat×Operand)=>(x.1,(⟨tmps,[]⟩:Act).eval x.2)).toList).length=bu.length∧
 ∀(i:Nat) a b,bu[i]? = some a→(parts.map fun(x:Nat×Operand)=>(x.1,(⟨tmps,[]⟩:Act).eval x.2)).toList[i]? = some b→a.1=b.1∧cv M β b.2 a.2:=by
 obtain⟨Z,aa⟩:=tZ gt;refine⟨by simpa using Z.symm,λi a b ha hb=>?_⟩
 simp only [Array.toList_map,List.getElem?_map,Option.map_eq_some_iff]at hb;obtain⟨x,hx,rfl⟩:=hb;have:=aa i x a hx ha
 simp only [Option.map_eq_some_iff]at this;obtain⟨d,hd,rfl⟩:=this;exact⟨rfl,ed h hp hd⟩
def run_places{cD:Array Field}{l:List (Nat×TypeId×Nat)}(ab:l=cD.toList.map λf=>(f.offset,f.type,P.cellsOf f.type))(hs:∀f,f∈cD.toList→1≤P.cellsOf f.type):
 (cD.mapM λf=>(do pure (f.offset,←sizeOf f.type):Sem (Nat×Nat))).run P w = .ok (cD.map λf=>(f.offset,P.cellsOf f.type)) w:=by
 obtain⟨m7⟩:=cD;rw [List.mapM_toArray]
 have key:∀(l:List Field),(∀f,f∈l→1≤P.cellsOf f.type)→(l.mapM λf=>(do pure (f.offset,←sizeOf f.type):Sem (Nat×Nat))).run P w = .ok (l.map λf=>(f.offset,P.cellsOf f.type)) w:=by
  intro l;induction l with
  |nil=>intro _;rfl
  |cons f l aM=>
   intro bP;have h0:=bP f (by simp)
   have Z:(sizeOf f.type).run P w = .ok (P.cellsOf f.type) w:=by
    cases hi:P.info? f.type with
    |none=>simp [Program.cellsOf,hi]at h0
    |some i=>exact Go.run_sizeOf w hi
   simp only [List.mapM_cons,Sem.run_bind,Z,Result.andThen_ok,Sem.run_pure,aM (λf h=>bP f (by simp [h])),List.map_cons]
 simp only [Sem.run_map,key m7 (by simpa using hs),Result.andThen_ok]
 simp
def VC(h:fJ P K N M β g tmps w)(hp:fR tmps p)(cf:fe P tt=true){t:TypeId}{aE:eI}(ab:look tt t=some aE){cD:List (Nat×TypeId×Nat)}(hk:aE.k = .dE cD)(ox:cD.all (λf=>Nat.ble 1 f.2.2)=true)
 {parts:Array (Nat×Operand)} (ay:o.op = .build t parts) {bu:List (Nat×D)} (gt:mapM' (fun(x:Nat×Operand)=>(rd g.env g.b6 p tt (sd tt t x.1) x.2).map λd=>(x.1,d)) parts.toList=some bu)
 {zs:List D} (vO:∀(r:Row P t aE),Cells M β r.z.cells.toList zs) {cs:List D} (bP:sc (fun(i:Nat)=>(cD[i]?).map fun(f:Nat×TypeId×Nat)=>(f.1,f.2.2)) zs bu=some cs) {rs:List fu}:
 Yields P K M β g {e:=some {d:=mX cs},rs} o tmps w:=by
 obtain⟨r⟩:=ev cf ab;obtain⟨gs,hd,MP⟩:=MF r hk;obtain⟨Z,aa⟩:=MO h hp gt;obtain⟨cells,BM,hc⟩:=ML Z aa (vO r) bP
 have Gq:∀f,f∈gs.toList→1≤P.cellsOf f.type:=by
  intro fd kw;rw [List.all_eq_true]at ox;have:=ox (fd.offset,fd.type,P.cellsOf fd.type) (by rw [MP];exact List.mem_map.2 ⟨fd,kw,rfl⟩)
  simpa using this
 have jc:(fun(i:Nat)=>(gs.map λf=>(f.offset,P.cellsOf f.type))[i]?)=fun(i:Nat)=>(cD[i]?).map fun(f:Nat×TypeId×Nat)=>(f.1,f.2.2):=by
  funext i
  rw [MP];cases hi:gs[i]? <;> simp [hi]
 refine ff h (v:=.agg cells) ?_ ?_
 ·simp only [execOp,ay];refine jo _ ?_;have afM:=run_places (P:=P) (w:=w) MP Gq;simp only [Instr.build,Sem.run_bind,r.Gh,Result.andThen_ok,r.run_underlying,hd,afM,jc];have:Instr.fill (fun(i:Nat)=>(cD[i]?).map fun(f:Nat×TypeId×Nat)=>(f.1,f.2.2)) r.z.cells (parts.map fun(x:Nat×Operand)=>(x.1,(⟨tmps,[]⟩:Act).eval x.2)).toList=some cells:=BM
  rw [this];rfl
 ·have:=yy hc.len hc.one hc.rep
  simpa using this
def afN(h:fJ P K N M β g tmps w)(hp:fR tmps p)(cf:fe P tt=true){t:TypeId}{aE:eI}(ab:look tt t=some aE){n:Nat}{e:TypeId}(hk:aE.k = .arr n e){cm:eI}(eD:look tt e=some cm)
 {parts:Array (Nat×Operand)} (ay:o.op = .build t parts) {bu:List (Nat×D)} (gt:mapM' (fun(x:Nat×Operand)=>(rd g.env g.b6 p tt (sd tt t x.1) x.2).map λd=>(x.1,d)) parts.toList=some bu)
 {cs:List D} (bP:sc (λi=>some (i*cm.size,cm.size)) (aE.zero.map .v) bu=some cs):
 Yields P K M β g {e:=some {d:=mX cs},rs:=g.rs} o tmps w:=by
 obtain⟨r⟩:=ev cf ab;obtain⟨r2⟩:=ev cf eD;obtain⟨Z,aa⟩:=MO h hp gt;obtain⟨cells,BM,hc⟩:=ML Z aa (r.VB (β:=β)) bP;refine ff h (v:=.agg cells) ?_ ?_
 ·simp only [execOp,ay];refine jo _ ?_;simp only [Instr.build,Sem.run_bind,r.Gh,Result.andThen_ok,r.run_underlying,afB r hk,r2.run_sizeOf];have:Instr.fill (λi=>some (i*cm.size,cm.size)) r.z.cells (parts.map fun(x:Nat×Operand)=>(x.1,(⟨tmps,[]⟩:Act).eval x.2)).toList=some cells:=BM
  rw [this];rfl
 ·have:=yy hc.len hc.one hc.rep
  simpa using this
end
section
variable {P:Program} {K:Ctx} {N:Nat} {M:Mem} {β:Nat→Option Nat} {g:dk} {tmps:Array Value} {w:World} {o:Oper} {f:lC} {p:Path} {tt:dH} {ck:gF} {ops:List Oper}
def jp(M:Mem)(b:Nat)(lo:Nat)(vs:List Value):Mem:=λbE o=>if bE=b∧lo≤o∧o<lo+vs.length then vs[o-lo]? else M bE o
def MQ{b lo:Nat}{vs:List Value}(h:∀o,lo≤o→M b o=none):M.le (jp M b lo vs):=by
 intro bE o v au;unfold jp;split
 ·rename_i hc;obtain⟨rfl,Z,aa⟩:=hc;rw [h o Z]at au;cases au
 ·exact au
def Gr{b lo:Nat}{vs:List Value}{i:Nat}{v:Value}(h:vs[i]? = some v):jp M b lo vs b (lo+i)=some v:=by
 have hi:i<vs.length:=(List.getElem?_eq_some_iff.1 h).1;unfold jp;rw [if_pos ⟨rfl,by omega,by omega⟩,show lo+i-lo=i by omega,h]
def afO{k:Nat}{n:Nat}{cells:List Value}(ab:cells.length=n*k){i j:Nat}(hi:i<n)(hj:j<k):cells[i*k+j]? = some (cells.getD (i*k+j) undef):=by
 have:i*k+j<cells.length:=by
  have Z:(i+1)*k≤n*k:=Nat.mul_le_mul_right k hi;rw [Nat.add_mul]at Z;omega
 simp [List.getD,List.getElem?_eq_getElem this]
def bI.newRow{st:aH}(h:bI P K M β st tmps w){vs:List Value}{T:TypeId}{n:Nat}{w':World}(hw:w'.heap=w.heap.push (.cells ⟨vs⟩ T (0,0)))(pj:(w'.os,w'.output)=(w.os,w.output):=by rfl):
 bI P K (jp M w.heap.size 0 (vs.take n)) β st tmps w'∧M.le (jp M w.heap.size 0 (vs.take n)):=by
 have c7:M.le (jp M w.heap.size 0 (vs.take n)):=MQ λo _=>h.MG o
 refine⟨h.free w.heap.size ?_ ?_ ?_ ?_ c7 ?_ ?_ pj,c7⟩
 ·cases dz:K.F w.heap.size with
  |none=>rfl
  |some a8=>have:=lt_of_heap (h.frame _ a8 dz).1;omega
 ·intro r cs ai hb;have:=h.BG ai hb;omega
 ·intro l e T ab aD hb;have:=(h.own l e T ab aD).lt hb;omega
 ·intro bE _ bQ;rw [hw];simp [Array.getElem?_push,Nat.ne_of_lt bQ]
 ·intro bE o bQ;simp [jp,bQ]
 ·intro o v au;unfold jp at au;split at au
  ·rename_i hc;simp only [Nat.sub_zero]at au;rw [List.getElem?_take]at au;split at au
   ·have:w'.heap[w.heap.size]? = some (.cells ⟨vs⟩ T (0,0)):=by rw [hw];simp
    rw [cell_of_heap this,au]
   ·cases au
  ·rw [h.MG o]at au;cases au
def MR{st:aH}(h:bI P K M β st tmps w){l0:Loc}{T:TypeId}{vs:List Value}{T':TypeId}(MS:T'=T){n cap:Nat}{w':World}(hw:w'.heap=w.heap.push (.cells ⟨vs⟩ T' (0,0)))(hn:n≤cap)
 (hcap:cap*P.cellsOf T≤vs.length):m3 P K (jp M w.heap.size 0 (vs.take (n*P.cellsOf T))) β st tmps w' l0 (.slice (some ⟨w.heap.size,0,none⟩) n cap) T:=by
 have q3:w'.heap[w.heap.size]? = some (.cells ⟨vs⟩ T' (0,0)):=by rw [hw];simp
 refine⟨.inr ⟨w.heap.size,n,cap,vs,T',rfl,hn,q3,hcap,λo ay=>?_,?_,MS⟩,?_,?_⟩
 ·have hle:n*P.cellsOf T≤vs.length:=Nat.le_trans (Nat.mul_le_mul_right _ hn) hcap;unfold jp;rw [if_neg,h.MG o]
  rintro ⟨_,_,am⟩
  simp only [List.length_take]at am;omega
 ·cases dz:K.F w.heap.size with
  |none=>rfl
  |some a8=>have:=lt_of_heap (h.frame _ a8 dz).1;omega
 ·intro l e p6 b ab aD _ hb bQ;simp [jl,kt]at hb;subst hb
  have hold:ce tmps w' β l=ce tmps w β l:=by
   cases l with
   |slot s=>rfl
   |cell r i=>
    simp only [aH.at]at ab;cases ai:look st.H r with
    |none=>simp [ai]at ab
    |some cs=>
     obtain⟨b9,ot,hh,cF,bn,_⟩:=h.box r cs ai;simp only [ce,cF];rw [sh (w:=w) (by rw [hw];simp [Array.getElem?_push,Nat.ne_of_lt (lt_of_heap bn)])]
  rw [hold]at bQ;have:=(h.own l e p6 ab aD).lt bQ
  omega
 ·intro b r cs hb ai bQ;simp [jl,kt]at hb;subst hb;have:=h.BG ai bQ
  omega
def VD{size:Nat}:∀(l:List (Nat×Value)) (m:Nat) (cells:Array Value),(∀(i:Nat) x,l[i]? = some x→x.1=m+i∧x.2.cells.size=size)→(m+l.length)*size≤cells.size→
 ∃ka,Instr.fill (λi=>some (i*size,size)) cells l=some ka∧ka.size=cells.size∧(∀i,i<m*size→ka[i]? = cells[i]?)∧
  ∀(i:Nat) x (j:Nat) u,l[i]? = some x→x.2.cells[j]? = some u→ka[(m+i)*size+j]? = some u
 |[],m,cells,_,_=>⟨cells,rfl,rfl,λ_ _=>rfl,by simp⟩
 |(a,v)::l,m,cells,ab,hle=>by
  obtain⟨ha,en⟩:=ab 0 (a,v) (by simp)
  simp only [Nat.add_zero]at ha;simp only at en
  subst ha
  have ata:a*size+size≤cells.size:=by
   have Z:(a+1)*size≤(a+((a,v)::l).length)*size:=Nat.mul_le_mul_right _ (by simp)
   rw [Nat.add_mul,Nat.one_mul]at Z;omega
  have bP:=MK (a*size) v.cells.toList 0 cells (by simp [en];omega)
  have MN:v.cells.zipIdx.foldl (λcs (x:Value×Nat)=>cs.setIfInBounds (a*size+x.2) x.1) cells=(v.cells.toList.zipIdx 0).foldl (λcs (x:Value×Nat)=>cs.setIfInBounds (a*size+x.2) x.1) cells:=by
   rw [←Array.foldl_toList,Array.toList_zipIdx]
  rw [←MN]at bP;generalize jN:v.cells.zipIdx.foldl (λcs (x:Value×Nat)=>cs.setIfInBounds (a*size+x.2) x.1) cells=c1 at bP
  obtain⟨ka,Z,aa,am,aK⟩:=VD l (a+1) c1 (λi x hx=>by
   obtain⟨Z,aa⟩:=ab (i+1) x (by simpa using hx)
   exact⟨by omega,aa⟩) (by rw [bP.1];simpa [Nat.add_assoc,Nat.add_comm 1]using hle)
  refine⟨ka,?_,by rw [aa,bP.1],λi hi=>?_,λi x j u hx hu=>?_⟩
  ·simp only [Instr.fill];rw [if_neg (by simp [en];omega)]
   have:v.cells.zipIdx.foldl (λcs (c,j)=>cs.setIfInBounds (a*size+j) c) cells=c1:=jN
   rw [this];exact Z
  ·rw [am i (by rw [Nat.add_mul];omega),bP.2 i,if_neg (by omega)]
  ·cases i with
   |zero=>
    simp at hx;subst hx
    simp only at hu
    have hj:j<size:=by rw [←en];exact(Array.getElem?_eq_some_iff.1 hu).1
    rw [Nat.add_zero,am _ (by rw [Nat.add_mul,Nat.one_mul];omega),bP.2,if_pos (by simp [en];omega)]
    simpa using hu
   |succ i=>
    have:=aK i x j u (by simpa using hx) hu
    rw [show a+(i+1)=a+1+i by omega];exact this
def VE{VF:Bool}{size:Nat}:∀{bu:List (Nat×D)} {n:Nat} {xs:List V},elems VF size n bu=some xs→xs.length=bu.length∧
 ∀(i:Nat) y x,bu[i]? = some y→xs[i]? = some x→y=(n+i,.v x)∧x.cells.length=size∧x.isAgg=VF
 |[],n,xs,h=>by simp [elems]at h;subst h;simp
 |(j,d)::bu,n,xs,h=>by
  cases d<;>simp only [elems]at h<;>try cases h
  rename_i sn;rw [Bool.cond_eq_ite]at h;split at h
  case isFalse=>cases h
  rename_i hb;simp only [Bool.and_eq_true,Nat.beq_eq,beq_iff_eq]at hb;obtain⟨⟨cF,fc⟩,MM⟩:=hb;simp only [Option.map_eq_some_iff]at h;obtain⟨ys,b1,rfl⟩:=h;obtain⟨Z,aa⟩:=VE b1;refine⟨by simp [Z],λi y x hi hx=>?_⟩
  cases i with
  |zero=>simp at hi hx;subst hi;subst hx;exact⟨by simp [cF],fc,MM⟩
  |succ i=>
   simp at hi hx
   obtain⟨am,aK⟩:=aa i y x hi hx;exact⟨by rw [am];simp;omega,aK⟩
def afP(h:fJ P K N M β g tmps w)(hp:fR tmps p)(cf:fe P tt=true){t e:TypeId}{aE cm:eI}(ab:look tt t=some aE)(hk:aE.k = .bJ e)(eD:look tt e=some cm){len:Nat}
 {parts:Array (Nat×Operand)} (ay:o.op = .buildSlice t len parts) {bu:List (Nat×D)} (gt:mapM' (fun(x:Nat×Operand)=>(rd g.env g.b6 p tt (sd tt t x.1) x.2).map λd=>(x.1,d)) parts.toList=some bu)
 {xs:List V} (hx:elems cm.k.isAgg cm.size 0 bu=some xs) (hlen:xs.length=len) (_hs:1≤cm.size) (hb:len*cm.size≤16777216) {x:V} (au:hv (.bJ cm.size len λi=>xs.getD i .fC) x) {rs:List fu} {a8:List Prop}:
 Yields P K M β g {e:=some {d:=.v x,own:=some e},rs,a8} o tmps w:=by
 obtain⟨r⟩:=ev cf ab;obtain⟨d9⟩:=ev cf eD;obtain⟨Z,aa⟩:=MO h hp gt;obtain⟨BN,l8⟩:=VE hx;generalize so:(parts.map fun(x:Nat×Operand)=>(x.1,(⟨tmps,[]⟩:Act).eval x.2))=pa at Z aa
 generalize ny:pa.toList=vs at Z aa
 have jc:vs.length=len:=by omega
 have iz:∀(i:Nat) b,vs[i]? = some b→∃x,xs[i]? = some x∧b.1=i∧dq M b.2 x∧x.cells.length=cm.size:=by
  intro i b hi;have Mv:i<vs.length:=(List.getElem?_eq_some_iff.1 hi).1;have ha:bu[i]? = some bu[i]:=List.getElem?_eq_getElem (by omega)
  have m8:xs[i]? = some xs[i]:=List.getElem?_eq_getElem (by omega)
  obtain⟨am,aK,_⟩:=l8 i _ _ ha m8;obtain⟨bd,b'⟩:=aa i _ b ha hi;rw [am]at bd b';exact⟨_,m8,by simpa using bd.symm,ov b',aK⟩
 have sm:∀(i:Nat) b,vs[i]? = some b→∃x,xs[i]? = some x∧b.1=i∧b.2.cells.size=cm.size∧(∀u,u∈b.2.cells.toList→u.oneCell'=true)∧∀(j:Nat) u c,b.2.cells.toList[j]? = some u→x.cells[j]? = some c→dq M u c:=by
  intro i b hi;obtain⟨x,am,aK,bd,b'⟩:=iz i b hi;obtain⟨eb,d',iM⟩:=(cv.v (β:=β) _ _ bd).cells rfl;refine⟨x,am,aK,by simp [cellsD]at eb;omega,d',λj u c hu hc=>?_⟩
  exact ov (iM j u (.v c) hu (by simp [cellsD,hc]))
 obtain⟨ka,yB,q4,atb,afQ⟩:=VD (size:=cm.size) vs 0 ((Array.range (len*cm.size)).map λi=>d9.z.cells[i % d9.z.cells.size]!) (λi x hi=>by
  obtain⟨y,am,aK,bd,_⟩:=sm i x hi;exact⟨by omega,bd⟩) (by simp [jc])
 have en:ka.size=len*cm.size:=by rw [q4];simp
 have jb:∀i j,i<len→j<cm.size→∃b u,vs[i]? = some b∧b.2.cells.toList[j]? = some u∧ka.toList[i*cm.size+j]? = some u:=by
  intro i j hi hj;have eJ:vs[i]? = some vs[i]:=List.getElem?_eq_getElem (by omega)
  obtain⟨y,am,aK,bd,_⟩:=sm i _ eJ;have hu:vs[i].2.cells[j]? = some vs[i].2.cells[j]:=Array.getElem?_eq_getElem (by omega)
  refine⟨vs[i],vs[i].2.cells[j],eJ,(Array.getElem?_toList ..).trans hu,?_⟩
  have:=afQ i _ j _ eJ hu
  simpa using this
 have eO:(execOp (Act.eval ⟨tmps,[]⟩) o).run P w = .ok (.value (.slice (some ⟨w.heap.size,0,none⟩) len len)) {w with heap:=w.heap.push (.cells ⟨ka.toList⟩ e (0,0))}:=by
  simp only [execOp,ay];refine jo _ ?_;have bQ:¬ (16777216<len*cm.size):=by omega
  have afR:(parts.map fun(x:Nat×Operand)=>match x with|(i,x)=>(i,(⟨tmps,[]⟩:Act).eval x))=pa:=so
  rw [afR];simp only [Instr.buildSlice,Sem.run_bind,r.run_underlying,p8 r hk,Result.andThen_ok,d9.run_sizeOf];by_cases h0:len*cm.size=0
  ·have bK:∀f:Nat→Value,(Array.range (len*cm.size)).map f = #[]:=by intro f;rw [h0];simp
   rw [bK]at yB;have e1:∀f:Nat→Value,(Array.range 0).map f = #[]:=by intro f;simp
   simp [h0,ny,e1,yB,newRow]
  ·simp [h0,bQ,d9.Gh,ny,yB,newRow]
 obtain⟨cT,hle⟩:=h.bo.newRow (w':={w with heap:=w.heap.push (.cells ⟨ka.toList⟩ e (0,0))}) (T:=e) (vs:=ka.toList) (n:=len*cm.size) rfl;have BO:ka.toList.take (len*cm.size)=ka.toList:=List.take_of_length_le (by simp [en])
 refine .inl ⟨_,_,eO,_,β,hle,λ_ _ h=>h,λ_ _ h=>.inl h,cT,λe1 he=>?_⟩
 cases he;refine⟨.v _ _ (au _ _ (.bJ _ 0 cm.size len len _ (λi j=>ka.toList.getD (i*cm.size+j) undef) (Nat.le_refl _) ?_ ?_ ?_ ?_)),λT l0 aD=>?_⟩
 ·intro i hi;have m8:xs[i]? = some xs[i]:=List.getElem?_eq_getElem (by omega)
  have ha:bu[i]? = some bu[i]:=List.getElem?_eq_getElem (by omega)
  simp only [List.getD,m8,Option.getD_some];exact(l8 i _ _ ha m8).2.1
 ·intro i j hi hj;obtain⟨b,u,_,_,hu⟩:=jb i j hi hj;rw [BO,Nat.zero_add];have:=Gr (M:=M) (b:=w.heap.size) (lo:=0) hu
  simpa [List.getD,hu]using this
 ·intro i j hi hj;obtain⟨b,u,cF,MT,hu⟩:=jb i j hi hj;obtain⟨y,_,_,_,b',_⟩:=sm i b cF;simp only [List.getD,hu,Option.getD_some];exact Gp b' MT
 ·intro i j c hi hc;have m8:xs[i]? = some xs[i]:=List.getElem?_eq_getElem (by omega)
  simp only [List.getD,m8,Option.getD_some]at hc
  have hj:j<cm.size:=by
   have ha:bu[i]? = some bu[i]:=List.getElem?_eq_getElem (by omega)
   rw [←(l8 i _ _ ha m8).2.1];exact(List.getElem?_eq_some_iff.1 hc).1
  obtain⟨b,u,cF,MT,hu⟩:=jb i j hi hj;obtain⟨y,b1,_,_,_,eb⟩:=sm i b cF;rw [m8]at b1;cases b1;simp only [List.getD,hu,Option.getD_some];exact(eb j u c MT hc).mono hle
 ·cases aD;have:=MR (l0:=l0) (T:=e) h.bo (vs:=ka.toList) (T':=e) (n:=len) (cap:=len) (w':={w with heap:=w.heap.push (.cells ⟨ka.toList⟩ e (0,0))}) rfl rfl (Nat.le_refl _) (by rw [d9.cellsOf];simp [en])
  rw [d9.cellsOf]at this;exact this
end
section
variable {P:Program} {K:Ctx} {N:Nat} {M:Mem} {β:Nat→Option Nat} {g:dk} {tmps:Array Value} {w:World} {o:Oper} {f:lC} {p:Path} {tt:dH} {ck:gF} {ops:List Oper}
def afS(h:fJ P K N M β g tmps w)(hp:fR tmps p)(cf:fe P tt=true){t:TypeId}{aE:eI}(ab:look tt t=some aE){a:Operand}(ay:o.op = .load t a){q off:Nat}(ha:rd g.env g.b6 p tt o.type a=some (.ptr q off))
 {cs:List aW} (ao:look g.H q=some cs) (h5:aE.k.isAgg=true) (hle:off+aE.size≤cs.length):
 Yields P K M β g {e:=some {d:=mX (((cs.drop off).take aE.size).map (·.d))},rs:=g.rs} o tmps w:=by
 obtain⟨r⟩:=ev cf ab;obtain⟨b,hb,au⟩:=pm (ed (ds:=[]) h hp ha);obtain⟨bE,vs,T,bQ,bn,hlen,_,_,gH,lf⟩:=h.bo.box q cs ao;rw [hb]at bQ;cases bQ;have eO:=Gj (P:=P) (w:=w) r (off:=off) bn (by omega) h5
 refine ff h (v:=.agg ⟨(vs.drop off).take aE.size⟩) ?_ ?_
 ·simp only [execOp,ay];rw [au];exact jo _ eO
 ·refine yy (by simp;omega) (λv au=>gH v (List.mem_of_mem_drop (List.mem_of_mem_take au))) (λi v c au hc=>?_)
  rw [List.getElem?_map,Option.map_eq_some_iff]at hc;obtain⟨e,he,rfl⟩:=hc;rw [List.getElem?_take]at au he;split at au
  ·rename_i hi;rw [if_pos hi,List.getElem?_drop]at he;rw [List.getElem?_drop]at au;have:=h.bo.e4 (.cell q (off+i)) e (by simp [aH.at,ao,he])
   simpa [ce,hb,cell_of_heap bn,au]using this
  ·cases au
def afT(h:fJ P K N M β g tmps w)(hp:fR tmps p)(cf:fe P tt=true){t:TypeId}{aE:eI}(ab:look tt t=some aE){a:Operand}(ay:o.op = .load t a){q off:Nat}(ha:rd g.env g.b6 p tt o.type a=some (.ptr q off))
 {cs:List aW} (ao:look g.H q=some cs) (h5:aE.k.isAgg=false) {e:aW} (he:cs[off]? = some e):
 Yields P K M β g {e:=some {d:=e.d},rs:=g.rs} o tmps w:=by
 obtain⟨r⟩:=ev cf ab;obtain⟨b,hb,au⟩:=pm (ed (ds:=[]) h hp ha);obtain⟨bE,vs,T,v,bQ,bn,eJ,co⟩:=Mu h.bo ao he;rw [hb]at bQ;cases bQ;have hc:w.cell? ⟨b,off,none⟩=some v:=by rw [cell_of_heap bn,eJ]
 refine ff h (v:=v) ?_ ?_
 ·simp only [execOp,ay];rw [au];exact jo _ (ME (P:=P) r hc h5)
 ·have:=h.bo.e4 (.cell q off) e (by simp [aH.at,ao,he])
  rwa [co]at this
def VG{cs:List aW}{off:Nat}{e:aW}(bw:off<cs.length)(i:Nat):(setAt cs off [e])[i]? = if i=off then some e else cs[i]? := by
 rw [(ow cs off [e] (by simp;omega)).2 i]
 by_cases hi:i=off
 ·subst hi;simp
 ·rw [if_neg (by simp;omega),if_neg hi]
def afU(h:fJ P K N M β g tmps w)(hp:fR tmps p)(cf:fe P tt=true){t:TypeId}{aE:eI}(ab:look tt t=some aE){a:Operand}(ay:o.op = .load t a){q off:Nat}(ha:rd g.env g.b6 p tt o.type a=some (.ptr q off))
 {cs:List aW} (ao:look g.H q=some cs) (h5:aE.k.isAgg=false) {e:aW} (he:cs[off]? = some e) {s:TypeId} (hs:e.own=some s) {rs:List fu}:
 Yields P K M β g {e:=some e,hs:=[(q,setAt cs off [{d:=e.d}])],rs} o tmps w:=by
 obtain⟨r⟩:=ev cf ab;obtain⟨b,hb,au⟩:=pm (ed (ds:=[]) h hp ha);obtain⟨bE,vs,T,v,bQ,bn,eJ,co⟩:=Mu h.bo ao he;rw [hb]at bQ;cases bQ;have hc:w.cell? ⟨b,off,none⟩=some v:=by rw [cell_of_heap bn,eJ]
 have bw:off<cs.length:=(List.getElem?_eq_some_iff.1 he).1
 have jn:=λl0=>h.bo.Vj ao he hs (cs':=setAt cs off [{d:=e.d}]) (ow cs off _ (by simp;omega)).1 (λj aY hj=>by
  rw [VG bw]at hj;by_cases MU:j=off
  ·subst MU;simp at hj;subst hj;exact⟨e,he,rfl,by simp⟩
  ·rw [if_neg MU]at hj;exact⟨aY,hj,rfl,λT aD=>⟨aD,MU⟩⟩) l0
 refine .inl ⟨v,w,?_,M,β,Mem.le_refl _,λ_ _ h=>h,λ_ _ h=>.inl h,(jn (.slot 0)).1,λe1 p9=>?_⟩
 ·simp only [execOp,ay];rw [au];exact jo _ (ME (P:=P) r hc h5)
 ·cases p9;refine⟨?_,λT l0 aD=>?_⟩
  ·have:=h.bo.e4 (.cell q off) e (by simp [aH.at,ao,he])
   rwa [co]at this
  ·rw [hs]at aD;cases aD;have:=(jn l0).2
   rwa [co]at this
def afV(h:fJ P K N M β g tmps w)(hp:fR tmps p)(cf:fe P tt=true){t:TypeId}{aE:eI}(ab:look tt t=some aE){a:Operand}(ay:o.op = .load t a){x:V}(ha:rd g.env g.b6 p tt o.type a=some (.e' x))
 (h5:x.isAgg=aE.k.isAgg) (hs:x.cells.length=aE.size):Yields P K M β g {e:=some {d:=.v x},rs:=g.rs} o tmps w:=by
 obtain⟨r⟩:=ev cf ab;obtain⟨u,Z,aa⟩:=afA (w:=w) r h.bo.mem (ed (ds:=[]) h hp ha) h5 hs;exact ff h (v:=u) (by simp only [execOp,ay];exact jo _ Z) (.v _ _ aa)
def MV{t:TypeId}{aE:eI}(r:Row P t aE){b off:Nat}{vs:List Value}{T:TypeId}(bn:w.heap[b]? = some (.cells ⟨vs⟩ T (0,0))){v:Value}(hs:v.cells.size=aE.size)(gH:∀u,u∈v.cells.toList→u.oneCell'=true)
 (hle:off+aE.size≤vs.length):(Instr.storeAt t (.pointer (some ⟨b,off,none⟩)) v).run P w = .ok () (w.setRow b (vs.take off++v.cells.toList++vs.drop (off+aE.size)).toArray):=by
 have:=run_storeCells_at P b off T v.cells.toList 0 ⟨vs⟩ w bn (by simpa [hs]using hle) gH
 simp only [Nat.add_zero,Array.length_toList,hs]at this;simp [Instr.storeAt,Instr.sureAddr,storeVar,r.run_sizeOf,hs,this]
def BP{vs us:List Value}{off:Nat}(hle:off+us.length≤vs.length)(i:Nat):(vs.take off++us++vs.drop (off+us.length))[i]? = if off≤i∧i<off+us.length then us[i-off]? else vs[i]? := by
 have aF:(vs.take off).length=off:=by simp;omega
 by_cases Z:i<off
 ·rw [if_neg (by omega),List.append_assoc,List.getElem?_append_left (by omega),List.getElem?_take,if_pos Z]
 ·by_cases aa:i<off+us.length
  ·rw [if_pos (by omega),List.append_assoc,List.getElem?_append_right (by omega),aF,List.getElem?_append_left (by omega)]
  ·rw [if_neg (by omega),List.getElem?_append_right (by simp;omega),List.getElem?_drop]
   congr 1
   simp;omega
def vP{vs us:List Value}{off:Nat}(hle:off+us.length≤vs.length):(vs.take off++us++vs.drop (off+us.length)).length=vs.length:=by
 simp;omega
def MW{vs us:List Value}{off:Nat}(Z:∀v,v∈vs→v.oneCell'=true)(aa:∀v,v∈us→v.oneCell'=true):∀v,v∈vs.take off++us++vs.drop (off+us.length)→v.oneCell'=true:=by
 intro v au;rcases List.mem_append.1 au with au|au
 ·rcases List.mem_append.1 au with au|au
  ·exact Z v (List.mem_of_mem_take au)
  ·exact aa v au
 ·exact Z v (List.mem_of_mem_drop au)
def MX{v:Value}{t:TypeId}{a x:Operand}(ay:o.op = .store t a x)(hx:(⟨tmps,[]⟩:Act).eval x=v){h6:Value}(ha:(⟨tmps,[]⟩:Act).eval a=h6){w':World}(h:(Instr.storeAt t h6 v).run P w = .ok () w'):
 (execOp (Act.eval ⟨tmps,[]⟩) o).run P w = .ok .skip w':=by
 simp only [execOp,ay,hx,ha];simp [h]
def lF.set{T:TypeId}{n:Nat}{cs ds:List aW}{off:Nat}(h:lF P T n cs)(hn:∀e,e∈ds→∀r o u,e.d ≠ .cu r o u)(hle:off+ds.length≤cs.length):lF P T n (setAt cs off ds):=λe he r o u hd=>by
 obtain⟨i,hi,rfl⟩:=List.getElem_of_mem he;have hg:(setAt cs off ds)[i]? = some (setAt cs off ds)[i]:=List.getElem?_eq_getElem hi;rw [(ow cs off ds hle).2 i]at hg;split at hg
 ·exact absurd hd (hn _ (List.mem_of_getElem? hg) r o u)
 ·exact h _ (List.mem_of_getElem? hg) r o u hd
def afW(h:fJ P K N M β g tmps w)(hp:fR tmps p)(cf:fe P tt=true){t:TypeId}{aE:eI}(ab:look tt t=some aE){a x:Operand}(ay:o.op = .store t a x){q off:Nat}(ha:rd g.env g.b6 p tt o.type a=some (.ptr q off))
 {cs:List aW} (ao:look g.H q=some cs) {d:D} (hx:rd g.env g.b6 p tt t x=some d) (aF:qU d=false) (q2:sb (cellsD d)=true) (hs:(cellsD d).length=aE.size) (hle:off+aE.size≤cs.length):
 Yields P K M β g {e:=none,hs:=[(q,setAt cs off ((cellsD d).map λd=>{d}))],rs:=g.rs} o tmps w:=by
 obtain⟨r⟩:=ev cf ab;obtain⟨b,hb,au⟩:=pm (ed (ds:=[]) h hp ha);obtain⟨bE,vs,T,bQ,bn,hlen,_,_,gH,lf⟩:=h.bo.box q cs ao;rw [hb]at bQ;cases bQ;obtain⟨Z,aa,am⟩:=(ed (ds:=[]) h hp hx).cells aF;generalize hu:(⟨tmps,[]⟩:Act).eval x=u at Z aa am
 have VH:u.cells.size=aE.size:=by simp at Z;omega
 have q5:u.cells.toList.length=aE.size:=by simpa using VH
 have eO:=MV (P:=P) r (off:=off) bn VH aa (by omega)
 rw [←q5]at eO;refine .inr (.inl ⟨rfl,_,MX ay hu au eO,M,β,Mem.le_refl _,λ_ _ h=>h,λ_ _ h=>.inl h,?_,λe he=>by cases he⟩)
 have lH:=ow cs off ((cellsD d).map λd=>({d}:aW)) (by simp;omega)
 refine h.bo.Ge ao hb bn (vs':=vs.take off++u.cells.toList++vs.drop (off+u.cells.toList.length)) (by rw [vP (by omega),lH.1,hlen]) (MW gH aa) (λ_=>by
  rw [vP (by omega)]
  refine lf.set (λe he=>?_) (by simp;omega)
  obtain⟨c,hc,rfl⟩:=List.mem_map.1 he;exact BF q2 c hc) lH.1
  (setRow_heap w b _ _ T (0,0) bn) (λbE dL=>setRow_other w b bE _ dL) cs.length (λi v e eJ jq=>?_)
 rw [BP (by omega)]at eJ
 rw [lH.2]at jq;simp only [List.length_map]at jq;by_cases hi:off≤i∧i<off+aE.size
 ·rw [if_pos (by omega)]at eJ
  rw [if_pos (by omega),List.getElem?_map,Option.map_eq_some_iff]at jq
  obtain⟨c,hc,rfl⟩:=jq;exact⟨am _ v c eJ hc,by simp⟩
 ·rw [if_neg (by omega)]at eJ
  rw [if_neg (by omega)]at jq
  have yC:i<cs.length:=(List.getElem?_eq_some_iff.1 jq).1;refine⟨?_,λT aD=>.inl ⟨by omega,⟨e,jq,aD⟩,eJ⟩⟩
  have:=h.bo.e4 (.cell q i) e (by simp [aH.at,ao,jq])
  simpa [ce,hb,cell_of_heap bn,eJ]using this
def VI(ty:Nat→Option TypeId):∀(l:List aW) (n:Nat),(p1 ty n l).length=l.length∧∀(i:Nat) aY,(p1 ty n l)[i]? = some aY→∃e,l[i]? = some e∧((e.d=aY.d∧∀T,aY.own=some T→e.own=some T)∨∃k g,e.d = .v (.pe k g)∧aY.d = .v (.bJ k 0 g))
 |[],n=>by simp [p1]
 |e::l,n=>by
  obtain⟨Z,aa⟩:=VI ty l (n+1);refine⟨by simp [p1,Z],λi aY he=>?_⟩
  cases i with
  |zero=>
   simp only [p1,List.getElem?_cons_zero,Option.some.injEq]at he;refine⟨e,rfl,?_⟩
   split at he
   ·rename_i k g hd;subst he;exact .inr ⟨k,g,hd,rfl⟩
   ·subst he;exact .inl ⟨rfl,λ_ h=>h⟩
  |succ i=>simp only [p1,List.getElem?_cons_succ]at he ⊢;exact aa i aY he
def VJ(h:fJ P K N M β g tmps w)(hp:fR tmps p)(cf:fe P tt=true){t:TypeId}{aE:eI}(ab:look tt t=some aE){a x:Operand}(ay:o.op = .store t a x){q off:Nat}(ha:rd g.env g.b6 p tt o.type a=some (.ptr q off))
 {cs:List aW} (ao:look g.H q=some cs) {d:D} (hx:rd g.env g.b6 p tt t x=some d) (aF:qU d=false) (q2:sb (cellsD d)=true) (hs:(cellsD d).length=aE.size) (hle:off+aE.size≤cs.length) (ty:Nat→Option TypeId):
 Yields P K M β g {e:=none,hs:=[(q,p1 ty 0 (setAt cs off ((cellsD d).map λd=>{d})))],rs:=g.rs} o tmps w:=by
 have up:∀{M':Mem} {β':Nat→Option Nat} {v:Value} {w':World},bS P K M β g {e:=none,hs:=[(q,setAt cs off ((cellsD d).map λd=>{d}))],rs:=g.rs} tmps v w'→
  bS P K M β g {e:=none,hs:=[(q,p1 ty 0 (setAt cs off ((cellsD d).map λd=>{d})))],rs:=g.rs} tmps v w':=by
  rintro M' β' v w' ⟨vQ,sq,Z,aa,am,aK,_⟩
  refine⟨vQ,sq,Z,aa,λr b hb=>?_,?_,λe he=>by cases he⟩
  ·rcases am r b hb with bd|bd
   ·exact .inl bd
   ·right
    simp only [dC]at bd ⊢;split at bd
    ·rename_i oy;simp [oy]
    ·cases bd
  ·obtain⟨g1,g2⟩:=VI ty (setAt cs off ((cellsD d).map λd=>({d}:aW))) 0
   refine aK.afj rfl (λl aY cO=>?_) (λr cs' ai=>?_)
   ·cases l with
    |slot s=>exact⟨aY,cO,.inl ⟨rfl,λ_ h=>h⟩⟩
    |cell r i=>
     simp only [aH.at,after,List.cons_append,List.nil_append,dC]at cO ⊢;by_cases oy:q=r
     ·simp only [oy,if_true,Option.bind_some]at cO ⊢;exact g2 i aY cO
     ·simp only [oy,if_false]at cO ⊢;exact⟨aY,cO,.inl ⟨rfl,λ_ h=>h⟩⟩
   ·simp only [after,List.cons_append,List.nil_append,dC]at ai ⊢;by_cases oy:q=r
    ·simp only [oy,if_true,Option.some.injEq]at ai ⊢;subst ai;exact⟨_,rfl,g1.symm⟩
    ·simp only [oy,if_false]at ai ⊢;exact⟨cs',ai,rfl⟩
 rcases afW h hp cf ab ay ha ao hx aF q2 hs hle with⟨v,w',Z,aa⟩|⟨h0,w',Z,aa⟩|⟨fn,vs,Z,aa⟩
 ·exact .inl ⟨v,w',Z,up (M':=M) (β':=β) aa⟩
 ·exact .inr (.inl ⟨h0,w',Z,up (M':=M) (β':=β) aa⟩)
 ·exact .inr (.inr ⟨fn,vs,Z,aa.mono λe w' ⟨v,am,aK⟩=>⟨v,am,up (M':=M) (β':=β) aK⟩⟩)
def VK(h:fJ P K N M β g tmps w)(hp:fR tmps p)(cf:fe P tt=true){t:TypeId}{aE:eI}(ab:look tt t=some aE){a x:Operand}(ay:o.op = .store t a x){q off:Nat}(ha:rd g.env g.b6 p tt o.type a=some (.ptr q off))
 {cs:List aW} (ao:look g.H q=some cs) {k n:Nat} {get:Nat→V} (hx:rd g.env g.b6 p tt t x=some (.v (.bJ k n get))) (hs:aE.size=1) (hle:off+aE.size≤cs.length) {s:TypeId} {l:List Nat}
 (fW:m3 P K M β {env:=gU l g.env,H:=g.H,aX:=g.aX} tmps w (.cell q off) ((⟨tmps,[]⟩:Act).eval x) s):
 Yields P K M β g {e:=none,hy:=l,hs:=[(q,setAt cs off [{d:=.v (.bJ k n get),own:=some s}])],rs:=g.rs} o tmps w:=by
 obtain⟨r⟩:=ev cf ab;obtain⟨b,hb,au⟩:=pm (ed (ds:=[]) h hp ha);have pn:=h.bo.hy l;obtain⟨bE,vs,T,bQ,bn,hlen,_,_,gH,lf⟩:=h.bo.box q cs ao;rw [hb]at bQ;cases bQ;have lI:=ed (ds:=[]) h hp hx;generalize hu:(⟨tmps,[]⟩:Act).eval x=u at lI fW
 have BQ:u.cells = #[u]∧u.oneCell'=true:=by
  obtain⟨a,cap,rfl,_⟩:=vN lI;exact⟨rfl,rfl⟩
 have eO:=MV (P:=P) r (off:=off) bn (v:=u) (by rw [BQ.1,hs];rfl) (by rw [BQ.1];simpa using BQ.2) (by omega)
 rw [BQ.1,hs]at eO;have bw:off<cs.length:=by omega
 refine .inr (.inl ⟨rfl,_,MX ay hu au eO,M,β,Mem.le_refl _,λ_ _ h=>h,λ_ _ h=>.inl h,?_,λe he=>by cases he⟩)
 refine pn.Ge (st:={env:=gU l g.env,H:=g.H,aX:=g.aX}) ao hb bn (vs':=vs.take off++[u]++vs.drop (off+1)) (by rw [show off+1=off+[u].length by rfl,vP (by simp;omega),(ow cs off _ (by simp;omega)).1,hlen])
  (MW (us:=[u]) gH (by simpa using BQ.2)) (λ_=>by
   rw [show off+1=off+[u].length by rfl,vP (by simp;omega)]
   refine lf.set (λe he=>?_) (by simp;omega)
   obtain rfl:=List.mem_singleton.1 he;exact λ_ _ _ e=>by cases e) (ow cs off _ (by simp;omega)).1 (setRow_heap w b _ _ T (0,0) bn) (λbE dL=>setRow_other w b bE _ dL) off (λi v e eJ jq=>?_)
 rw [show off+1=off+[u].length by rfl,BP (by simp;omega)]at eJ
 rw [VG bw]at jq;by_cases hi:i=off
 ·subst hi;simp at eJ jq
  subst eJ;subst jq;refine⟨lI,λT aD=>.inr ⟨rfl,?_⟩⟩
  cases aD;exact fW
 ·rw [if_neg hi]at jq;rw [if_neg (by simp;omega)]at eJ
  refine⟨?_,λT aD=>.inl ⟨hi,⟨e,jq,aD⟩,eJ⟩⟩
  have:=h.bo.e4 (.cell q i) e (by simp [aH.at,ao,jq])
  simpa [ce,hb,cell_of_heap bn,eJ]using this
end
section
variable {P:Program} {K:Ctx} {M:Mem} {β:Nat→Option Nat} {st:aH} {tmps:Array Value} {w:World}
def bI.VL(h:bI P K M β st tmps w){r off size T b:Nat}{cs cs':List aW}{vs:List Value}{dH:TypeId}(ai:look st.H r=some cs)(hb:β r=some b)(bn:w.heap[b]? = some (.cells ⟨vs⟩ dH (0,0)))
 (gH:∀v,v∈vs→v.oneCell'=true) (hlen:vs.length=cs.length)
 (hm:∀x,x∈marks T→x.1<size∧∃e,cs[off+x.1]? = some e∧e.own=some x.2)
 (ej:cs'.length=cs.length) (jn:∀(j:Nat) aY,cs'[j]? = some aY→∃bK,cs[j]? = some bK∧bK.d=aY.d∧(∀U,aY.own=some U→bK.own=some U∧∀x,x∈marks T→j≠off+x.1)) (l0:Loc):
 bI P K M β {st with H:=(r,cs')::st.H} tmps w∧m3 P K M β {st with H:=(r,cs')::st.H} tmps w l0 (.agg ⟨(vs.drop off).take size⟩) T:=by
 have fo:∀l aY,({st with H:=(r,cs')::st.H}:aH).at l=some aY→∃bK,st.at l=some bK∧bK.d=aY.d∧∀U,aY.own=some U→bK.own=some U∧∀x,x∈marks T→l ≠ .cell r (off+x.1):=by
  intro l aY cO;cases l with
  |slot s=>exact⟨aY,cO,rfl,λU h=>⟨h,λ_ _=>by simp⟩⟩
  |cell cI j=>
   by_cases hI:r=cI
   ·subst hI;simp [aH.at,dC]at cO;obtain⟨bK,Z,aa,am⟩:=jn j aY cO;exact⟨bK,by simp [aH.at,ai,Z],aa,λU hJ=>⟨(am U hJ).1,λx hx=>by simp [(am U hJ).2 x hx]⟩⟩
   ·refine⟨aY,by simpa [aH.at,dC,hI]using cO,rfl,λU h=>⟨h,λ_ _=>by simp [Ne.symm hI]⟩⟩
 have eN:∀cI c,look ((r,cs')::st.H) cI=some c→∃h4,look st.H cI=some h4∧h4.length=c.length:=by
  intro cI c hc;by_cases hI:r=cI
  ·subst hI;simp [dC]at hc;subst hc;exact⟨cs,ai,ej.symm⟩
  ·exact⟨c,by simpa [dC,hI]using hc,rfl⟩
 -- Gs atc at a mark
 have mk:∀x,x∈marks T→∃e,st.at (.cell r (off+x.1))=some e∧e.own=some x.2∧ce tmps w β (.cell r (off+x.1))=(Array.mk ((vs.drop off).take size)).getD x.1 undef∧l7 P K.F M w x.2 ((Array.mk ((vs.drop off).take size)).getD x.1 undef)∧
  ∀b9,jl x.2 (ce tmps w β (.cell r (off+x.1))) b9↔kt ((Array.mk ((vs.drop off).take size)).getD x.1 undef)=some b9:=by
  intro x hx;obtain⟨bw,e,he,aD⟩:=hm x hx;have ab:st.at (.cell r (off+x.1))=some e:=by simp [aH.at,ai,he]
  have q6:off+x.1<vs.length:=by rw [hlen];exact(List.getElem?_eq_some_iff.1 he).1
  have au:ce tmps w β (.cell r (off+x.1))=vs[off+x.1]:=by simp only [ce,hb,cell_of_heap bn,List.getElem?_eq_getElem q6,Option.getD_some]
  have hg:(Array.mk ((vs.drop off).take size)).getD x.1 undef=vs[off+x.1]:=by
   have:((vs.drop off).take size)[x.1]? = some vs[off+x.1]:=by rw [List.getElem?_take,if_pos bw,List.getElem?_drop,List.getElem?_eq_getElem q6]
   simp [Array.getD_eq_getD_getElem?,this]
  have ay:=h.own _ e x.2 ab aD;have Z:=gH vs[off+x.1] (List.getElem_mem q6);refine⟨e,ab,aD,au.trans hg.symm,?_,?_⟩
  ·rw [hg];rw [au]at ay;rcases ay.cases with⟨c,hc⟩|⟨aa,_⟩
   ·rw [hc]at Z;cases Z
   ·exact aa
  ·rw [hg];rw [au]at ay ⊢;rcases ay.cases with⟨c,hc⟩|⟨_,aa⟩
   ·rw [hc]at Z;cases Z
   ·exact aa
 refine⟨h.sub rfl (λl aY cO=>?_) eN,⟨λx hx=>?_,λx hx y b1 m5 b9 Z aa=>?_⟩,λl aY T' b9 cO ec _ cF bQ=>?_,λb9 cI c cF fb=>?_⟩
 ·obtain⟨bK,Z,aa,am⟩:=fo l aY cO;exact⟨bK,Z,aa,λT aD=>(am T aD).1⟩
 ·obtain⟨_,_,_,_,Z,_⟩:=mk x hx;exact Z
 ·obtain⟨e1,bc,a2,_,_,a3⟩:=mk x hx;obtain⟨e2,c1,c2,_,_,c3⟩:=mk y b1;have:=h.uniq _ _ e1 e2 x.2 y.2 b9 bc a2 c1 c2 ((a3 b9).2 Z) ((c3 b9).2 aa)
  simp only [Loc.cell.injEq]at this;omega
 ·obtain⟨x,hx,cF⟩:=cF;obtain⟨e1,bc,a2,_,_,a3⟩:=mk x hx;obtain⟨bK,Z,_,am⟩:=fo l aY cO;exact(am T' ec).2 x hx (h.uniq l _ bK e1 T' x.2 b9 Z (am T' ec).1 bc a2 bQ ((a3 b9).2 cF))
 ·obtain⟨x,hx,cF⟩:=cF;obtain⟨e1,bc,a2,_,_,a3⟩:=mk x hx;obtain⟨h4,Z,_⟩:=eN cI c fb;exact h.unbox _ e1 x.2 b9 cI h4 bc a2 ((a3 b9).2 cF) Z
def bI.afX(h:bI P K M β st tmps w){s r off T:Nat}{e:aW}{cs cs':List aW}{us:List Value}(hs:look st.env s=some e)(aD:e.own=some T)(hu:tmps.getD s undef = .agg ⟨us⟩)
 (ai:look st.H r=some cs) (au:∀x,x∈marks T→ce tmps w β (.cell r (off+x.1))=(Array.mk us).getD x.1 undef) (ej:cs'.length=cs.length)
 (gH:∀x,x∈marks T→∀c,(Array.mk us).getD x.1 undef ≠ .agg c)
 (jn:∀(j:Nat) aY,cs'[j]? = some aY→∃bK,cs[j]? = some bK∧bK.d=aY.d∧∀U,aY.own=some U→bK.own=some U∨∃x,x∈marks T∧j=off+x.1∧U=x.2):
 bI P K M β {st with env:=gU [s] st.env,H:=(r,cs')::st.H} tmps w:=by
 have ab:st.at (.slot s)=some e:=hs;have ay:=h.own (.slot s) e T ab aD;have co:ce tmps w β (.slot s) = .agg ⟨us⟩:=hu;rw [co]at ay
 have fo:∀l aY,({st with env:=gU [s] st.env,H:=(r,cs')::st.H}:aH).at l=some aY→∃bK,st.at l=some bK∧bK.d=aY.d∧∀U,aY.own=some U→(bK.own=some U∧l ≠ .slot s)∨∃x,x∈marks T∧l = .cell r (off+x.1)∧U=x.2:=by
  intro l aY cO;cases l with
  |slot p7=>
   simp only [aH.at,nw]at cO ⊢;by_cases si:p7=s
   ·subst si;simp at cO
    obtain⟨e1,Z,rfl⟩:=cO;exact⟨e1,Z,rfl,λU hJ=>by simp at hJ⟩
   ·simp [si]at cO;exact⟨aY,cO,rfl,λU hJ=>.inl ⟨hJ,by simp [si]⟩⟩
  |cell cI j=>
   by_cases hI:r=cI
   ·subst hI;simp [aH.at,dC]at cO;obtain⟨bK,Z,aa,am⟩:=jn j aY cO;refine⟨bK,by simp [aH.at,ai,Z],aa,λU hJ=>?_⟩
    rcases am U hJ with aK|⟨x,hx,aK,bd⟩
    ·exact .inl ⟨aK,by simp⟩
    ·exact .inr ⟨x,hx,by rw [aK],bd⟩
   ·exact⟨aY,by simpa [aH.at,dC,hI]using cO,rfl,λU hJ=>.inl ⟨hJ,by simp⟩⟩
 have eN:∀cI c,look ((r,cs')::st.H) cI=some c→∃h4,look st.H cI=some h4∧h4.length=c.length:=by
  intro cI c hc;by_cases hI:r=cI
  ·subst hI;simp [dC]at hc;subst hc;exact⟨cs,ai,ej.symm⟩
  ·exact⟨c,by simpa [dC,hI]using hc,rfl⟩
 have Gt:∀x,x∈marks T→∀b9,jl x.2 ((Array.mk us).getD x.1 undef) b9↔kt ((Array.mk us).getD x.1 undef)=some b9:=by
  intro x hx b9;have:=gH x hx
  generalize (Array.mk us).getD x.1 undef=v at this
  cases v<;>first
   |exact Iff.rfl
   |exact absurd rfl (this _)
 have MY:∀x,x∈marks T→∀b9,kt ((Array.mk us).getD x.1 undef)=some b9→jl T (ce tmps w β (.slot s)) b9:=λx hx b9 cF=>by rw [co];exact⟨x,hx,cF⟩
 -- lJ state atd any marks, first
 have base:bI P K M β {st with env:=gU [s] st.env,H:=(r,cs')::st.H} tmps w↔True:=by
  refine⟨λ_=>trivial,λ_=>?_⟩
  constructor
  ·intro l aY cO;obtain⟨bK,Z,aa,_⟩:=fo l aY cO;rw [←aa];exact h.e4 l bK Z
  ·intro l aY U cO hJ;obtain⟨bK,Z,_,am⟩:=fo l aY cO;rcases am U hJ with⟨aK,_⟩|⟨x,hx,rfl,rfl⟩
   ·exact h.own l bK U Z aK
   ·rw [au x hx];exact(ay.1 x hx).at
  ·intro l cH e1 e2 U Gu b9 eV hJ eD VM cF fc;obtain⟨f1,g1,_,dc⟩:=fo l e1 eV;obtain⟨f2,g2,_,aj⟩:=fo cH e2 eD;rcases dc U hJ with⟨m1,n1⟩|⟨x,hx,rfl,rfl⟩
   ·rcases aj Gu VM with⟨m2,n2⟩|⟨y,b1,rfl,rfl⟩
    ·exact h.uniq l cH f1 f2 U Gu b9 g1 m1 g2 m2 cF fc
    ·rw [au y b1,Gt y b1]at fc;exact absurd (h.uniq l (.slot s) f1 e U T b9 g1 m1 ab aD cF (MY y b1 b9 fc)) n1
   ·rw [au x hx,Gt x hx]at cF;rcases aj Gu VM with⟨m2,n2⟩|⟨y,b1,rfl,rfl⟩
    ·exact absurd (h.uniq cH (.slot s) f2 e Gu T b9 g2 m2 ab aD fc (MY x hx b9 cF)) n2
    ·rw [au y b1,Gt y b1]at fc;by_cases m5:x.1=y.1
     ·rw [m5]
     ·exact absurd fc (ay.2 x hx y b1 m5 b9 cF)
  ·intro l e1 U b9 cI c eV hJ cF fb;obtain⟨f1,g1,_,dc⟩:=fo l e1 eV;obtain⟨h4,Z,_⟩:=eN cI c fb;rcases dc U hJ with⟨m1,n1⟩|⟨x,hx,rfl,rfl⟩
   ·exact h.unbox l f1 U b9 cI h4 g1 m1 cF Z
   ·rw [au x hx,Gt x hx]at cF;exact h.unbox (.slot s) e T b9 cI h4 ab aD (MY x hx b9 cF) Z
  ·intro cI c fb;obtain⟨h4,ie,hlen⟩:=eN cI c fb;obtain⟨b9,vs,hh,Z,aa,am,aK,bd,b',eb⟩:=h.box cI h4 ie
   exact⟨b9,vs,hh,Z,aa,am.trans hlen,aK,bd,b',eb.Mt ie fb λl aY ab=>by
    obtain⟨e,g1,g2,_⟩:=fo l aY ab;exact⟨e,g1,.inl g2⟩⟩
  ·intro r1 r2 b9 c1 c2 ie ja cF fc;obtain⟨d1,Z,_⟩:=eN r1 c1 ie;obtain⟨d2,aa,_⟩:=eN r2 c2 ja;exact h.inj r1 r2 b9 d1 d2 Z aa cF fc
  ·exact h.lt
  ·exact h.mem
  ·exact h.m0
  ·exact h.frame
  ·exact h.iL
  ·exact h.jm
  ·exact h.h3
 exact base.2 trivial
end
def BR:∀(l:List aW) (i:Nat) (x:Nat×TypeId),x∈marksOf i l→i≤x.1∧∃e,l[x.1-i]? = some e∧e.own=some x.2
 |[],i,x,h=>by simp [marksOf]at h
 |e::l,i,x,h=>by
  have next:x∈marksOf (i+1) l→i≤x.1∧∃aY,(e::l)[x.1-i]? = some aY∧aY.own=some x.2:=λh=>by
   obtain⟨Z,aY,aa,am⟩:=BR l (i+1) x h;refine⟨by omega,aY,?_,am⟩
   rw [show x.1-i=(x.1-(i+1))+1 by omega,List.getElem?_cons_succ];exact aa
  unfold marksOf at h;split at h
  ·rename_i T aD;rcases List.mem_cons.1 h with rfl|h
   ·exact⟨Nat.le_refl _,e,by simp,aD⟩
   ·exact next h
  ·exact next h
def MZ:∀{l m:List (Nat×TypeId)},tQ l m=true→l=m
 |[],[],_=>rfl
 |x::l,y::m,h=>by
  simp only [tQ,Bool.and_eq_true,Nat.beq_eq]at h;rw [MZ h.2];obtain⟨a,b⟩:=x;obtain⟨c,d⟩:=y;simp only at h
  rw [h.1.1,h.1.2]
 |[],_::_,h=>by simp [tQ]at h
 |_::_,[],h=>by simp [tQ]at h
def VN:∀{ms:List (Nat×TypeId)} {i:Nat} {U:TypeId},ym ms i=some U→∃x,x∈ms∧x.1=i∧U=x.2
 |[],i,U,h=>by simp [ym]at h
 |x::l,i,U,h=>by
  unfold ym at h;rw [Bool.cond_eq_ite]at h;split at h
  ·rename_i hx;cases h;exact⟨x,by simp,by simpa using hx,rfl⟩
  ·obtain⟨y,b1,Z,aa⟩:=VN h;exact⟨y,by simp [b1],Z,aa⟩
def VO(ms:List (Nat×TypeId)):∀(ds:List D) (i:Nat),(p2 ms i ds).length=ds.length∧∀(j:Nat),(p2 ms i ds)[j]? = (ds[j]?).map λd=>{d,own:=ym ms (i+j)}
 |[],i=>by simp [p2]
 |d::ds,i=>by
  obtain⟨Z,aa⟩:=VO ms ds (i+1);refine⟨by simp [p2,Z],λj=>?_⟩
  cases j with
  |zero=>simp [p2]
  |succ j=>simp only [p2,List.getElem?_cons_succ];rw [aa j,show i+1+j=i+(j+1)by omega]
def afY{M:Mem}{β:Nat→Option Nat}{v:Value}{d:D}(h:cv M β v d)(hd:Mo d=true):∃us,v = .agg ⟨us⟩:=by
 cases h<;>first
  |(cases hd;done)
  |(rename_i hx;cases hx<;>first |(cases hd;done) |exact⟨_,rfl⟩)
  |exact⟨_,rfl⟩
section
variable {P:Program} {K:Ctx} {N:Nat} {M:Mem} {β:Nat→Option Nat} {g:dk} {tmps:Array Value} {w:World} {o:Oper} {p:Path} {tt:dH}
def afZ(h:fJ P K N M β g tmps w)(hp:fR tmps p)(cf:fe P tt=true){t:TypeId}{aE:eI}(ab:look tt t=some aE){a:Operand}(ay:o.op = .load t a){q off:Nat}(ha:rd g.env g.b6 p tt o.type a=some (.ptr q off))
 {cs:List aW} (ao:look g.H q=some cs) (h5:aE.k.isAgg=true) (hle:off+aE.size≤cs.length) {c:Nat} (hm:tQ (marks c) (marksOf 0 ((cs.drop off).take aE.size))=true) {rs:List fu}:
 Yields P K M β g {e:=some {d:=mX (((cs.drop off).take aE.size).map (·.d)),own:=some c},hs:=[(q,setAt cs off (((cs.drop off).take aE.size).map λe=>{d:=e.d}))],rs} o tmps w:=by
 obtain⟨r⟩:=ev cf ab;obtain⟨b,hb,au⟩:=pm (ed (ds:=[]) h hp ha);obtain⟨bE,vs,T,bQ,bn,hlen,_,_,gH,lf⟩:=h.bo.box q cs ao;rw [hb]at bQ;cases bQ;have eO:=Gj (P:=P) (w:=w) r (off:=off) bn (by omega) h5
 have po:=MZ hm;have jc:((cs.drop off).take aE.size).length=aE.size:=by simp;omega
 have lH:=ow cs off (((cs.drop off).take aE.size).map λe=>({d:=e.d}:aW)) (by rw [List.length_map,jc];exact hle)
 have q7:∀j,j<aE.size→((cs.drop off).take aE.size)[j]? = cs[off+j]? := λj hj=>by rw [List.getElem?_take,if_pos hj,List.getElem?_drop]
 have jn:=λl0=>h.bo.VL (T:=c) (size:=aE.size) (off:=off) ao hb bn gH hlen (cs':=setAt cs off (((cs.drop off).take aE.size).map λe=>{d:=e.d})) (λx hx=>by
  rw [po]at hx;obtain⟨_,e,aa,am⟩:=BR _ 0 x hx;rw [Nat.sub_zero]at aa;have bw:x.1<aE.size:=by rw [←jc];exact(List.getElem?_eq_some_iff.1 aa).1
  exact⟨bw,e,by rw [←q7 x.1 bw];exact aa,am⟩) lH.1 (λj aY hj=>by
  rw [lH.2]at hj;rw [List.length_map,jc]at hj;by_cases hi:off≤j∧j<off+aE.size
  ·rw [if_pos hi,List.getElem?_map,Option.map_eq_some_iff]at hj;obtain⟨bK,Z,rfl⟩:=hj;rw [q7 _ (by omega),show off+(j-off)=j by omega]at Z
   exact⟨bK,Z,rfl,λU hJ=>by cases hJ⟩
  ·rw [if_neg hi]at hj;refine⟨aY,hj,rfl,λU hJ=>⟨hJ,λx hx af0=>?_⟩⟩
   rw [po]at hx;obtain⟨_,e,aa,_⟩:=BR _ 0 x hx;rw [Nat.sub_zero]at aa;have bw:x.1<aE.size:=by rw [←jc];exact(List.getElem?_eq_some_iff.1 aa).1
   omega) l0
 refine .inl ⟨.agg ⟨(vs.drop off).take aE.size⟩,w,?_,M,β,Mem.le_refl _,λ_ _ h=>h,λ_ _ h=>.inl h,(jn (.slot 0)).1,λe1 p9=>?_⟩
 ·simp only [execOp,ay];rw [au];exact jo _ eO
 ·cases p9;refine⟨?_,λT l0 aD=>?_⟩
  ·refine yy (by simp;omega) (λv au=>gH v (List.mem_of_mem_drop (List.mem_of_mem_take au))) (λi v c au hc=>?_)
   rw [List.getElem?_map,Option.map_eq_some_iff]at hc;obtain⟨e,he,rfl⟩:=hc;rw [List.getElem?_take]at au he;split at au
   ·rename_i hi;rw [if_pos hi,List.getElem?_drop]at he;rw [List.getElem?_drop]at au;have:=h.bo.e4 (.cell q (off+i)) e (by simp [aH.at,ao,he])
    simpa [ce,hb,cell_of_heap bn,au]using this
   ·cases au
  ·cases aD;exact(jn l0).2
def af1(h:fJ P K N M β g tmps w)(hp:fR tmps p)(cf:fe P tt=true){t:TypeId}{aE:eI}(ab:look tt t=some aE){a:Operand}{u:Nat}(ay:o.op = .store t a (.tmp u)){q off:Nat}(ha:rd g.env g.b6 p tt o.type a=some (.ptr q off))
 {cs:List aW} (ao:look g.H q=some cs) {d:D} (hx:rd g.env g.b6 p tt t (.tmp u)=some d) (aF:qU d=false) (q2:sb (cellsD d)=true) (hs:(cellsD d).length=aE.size) (hle:off+aE.size≤cs.length)
 (h5:Mo d=true) {yD:aW} {s:TypeId} (vR:look g.env u=some yD) (aD:yD.own=some s) (lK:∀x,x∈marks s→x.1<aE.size) {rs:List fu}:
 Yields P K M β g {e:=none,hy:=[u],hs:=[(q,setAt cs off (p2 (marks s) 0 (cellsD d)))],rs} o tmps w:=by
 obtain⟨r⟩:=ev cf ab;obtain⟨b,hb,au⟩:=pm (ed (ds:=[]) h hp ha);obtain⟨bE,vs,T,bQ,bn,hlen,_,_,gH,lf⟩:=h.bo.box q cs ao;rw [hb]at bQ;cases bQ;have fX:=ed (ds:=[]) h hp hx;obtain⟨us,M0⟩:=afY fX h5;obtain⟨Z,aa,am⟩:=fX.cells aF;rw [M0]at Z aa am;have Gv:(Value.agg ⟨us⟩).cells.toList=us:=rfl;rw [Gv]at aa
 have q5:us.length=aE.size:=by
  have:(Value.agg ⟨us⟩).cells.toList.length=(cellsD d).length:=by simpa using Z
  rw [Gv]at this;omega
 have eO:=MV (P:=P) r (off:=off) bn (v:=.agg ⟨us⟩) q5 aa (by omega)
 rw [Gv,←q5]at eO;have lH:=ow cs off ((cellsD d).map λd=>({d}:aW)) (by simp;omega)
 have M1:=VO (marks s) (cellsD d) 0;have VP:=ow cs off (p2 (marks s) 0 (cellsD d)) (by rw [M1.1];omega)
 have q3:=setRow_heap w b _ (vs.take off++us++vs.drop (off+us.length)).toArray T (0,0) bn
 have af2:bI P K M β {env:=g.env,H:=(q,setAt cs off ((cellsD d).map λd=>{d}))::g.H,aX:=g.aX} tmps (w.setRow b (vs.take off++us++vs.drop (off+us.length)).toArray):=by
  refine h.bo.Ge ao hb bn (vs':=vs.take off++us++vs.drop (off+us.length)) (by rw [vP (by omega),lH.1,hlen]) (MW gH aa) (λ_=>by
   rw [vP (by omega)]
   refine lf.set (λe he=>?_) (by simp;omega)
   obtain⟨c,hc,rfl⟩:=List.mem_map.1 he;exact BF q2 c hc) lH.1 q3 (λbE dL=>setRow_other w b bE _ dL) cs.length (λi v e eJ jq=>?_)
  rw [BP (by omega)]at eJ
  rw [lH.2]at jq;simp only [List.length_map]at jq;by_cases hi:off≤i∧i<off+aE.size
  ·rw [if_pos (by omega)]at eJ
   rw [if_pos (by omega),List.getElem?_map,Option.map_eq_some_iff]at jq
   obtain⟨c,hc,rfl⟩:=jq;exact⟨am _ v c (by rw [Gv];exact eJ) hc,by simp⟩
  ·rw [if_neg (by omega)]at eJ
   rw [if_neg (by omega)]at jq
   have yC:i<cs.length:=(List.getElem?_eq_some_iff.1 jq).1;refine⟨?_,λT aD=>.inl ⟨by omega,⟨e,jq,aD⟩,eJ⟩⟩
   have:=h.bo.e4 (.cell q i) e (by simp [aH.at,ao,jq])
   simpa [ce,hb,cell_of_heap bn,eJ]using this
 have af3:=af2.afX (s:=u) (r:=q) (off:=off) (T:=s) (us:=us) (cs:=setAt cs off ((cellsD d).map λd=>{d})) (cs':=setAt cs off (p2 (marks s) 0 (cellsD d))) vR aD M0 (by simp [dC]) (λx hx=>by
  have bw:=lK x hx
  have:(vs.take off++us++vs.drop (off+us.length))[off+x.1]? = us[x.1]? := by
   rw [BP (by omega),if_pos (by omega)];congr 1;omega
  simp only [ce,hb,cell_of_heap q3,this];simp [Array.getD_eq_getD_getElem?]) (by rw [VP.1,lH.1]) (λx hx c hc=>by
  have bw:=lK x hx;have aK:(Array.mk us).getD x.1 undef=us[x.1]'(by omega):=by simp [Array.getD_eq_getD_getElem?,List.getElem?_eq_getElem (show x.1<us.length by omega)]
  have bd:=aa (us[x.1]'(by omega)) (List.getElem_mem _)
  rw [aK]at hc;rw [hc]at bd;cases bd) (λj aY hj=>by
  rw [VP.2,M1.1]at hj;rw [lH.2,List.length_map];by_cases hi:off≤j∧j<off+(cellsD d).length
  ·rw [if_pos hi,M1.2,Option.map_eq_some_iff]at hj;obtain⟨c,hc,rfl⟩:=hj;refine⟨{d:=c},by rw [if_pos hi,List.getElem?_map,hc];rfl,rfl,λU hJ=>.inr ?_⟩
   simp only [Nat.zero_add]at hJ;obtain⟨x,hx,bd,b'⟩:=VN hJ;exact⟨x,hx,by omega,b'⟩
  ·rw [if_neg hi]at hj;exact⟨aY,by rw [if_neg hi];exact hj,rfl,λU hJ=>.inl hJ⟩)
 refine .inr (.inl ⟨rfl,_,MX ay M0 au eO,M,β,Mem.le_refl _,λ_ _ h=>h,λ_ _ h=>.inl h,?_,λe he=>by cases he⟩)
 refine af3.sub rfl (λl aY cO=>⟨aY,?_,rfl,λ_ h=>h⟩) (λr cs' ai=>⟨cs',?_,rfl⟩)
 ·cases l with
  |slot p7=>exact cO
  |cell cI j=>
   simp only [aH.at,after,List.cons_append,List.nil_append,dC]at cO ⊢;by_cases oy:q=cI
   ·simpa [oy]using cO
   ·simpa [oy]using cO
 ·simp only [after,List.cons_append,List.nil_append,dC]at ai ⊢;by_cases oy:q=r
  ·simpa [oy]using ai
  ·simpa [oy]using ai
end
end Go.Ab

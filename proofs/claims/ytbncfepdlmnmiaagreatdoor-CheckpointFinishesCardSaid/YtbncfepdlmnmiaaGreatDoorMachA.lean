/- The abstract machine: a step of code over plain data, proved against the model. -/
import Derived.Orders
import Derived.KernelRfl
import Derived.Laws.Sem
import Derived.Laws.Entries
import Derived.ChangeKeysEq
import Derived.Laws.Cells
import Derived.Laws.CopyRow
import Derived.Laws.Slices
import Derived.Laws.Strings2
import Derived.Deep.AppendSrc
set_option linter.all false
namespace Go.Ab
abbrev ap0:=List UInt8
inductive V where
 |int (k:IntKind) (n:Int)
 |bool (b:Bool)
 |str (s:ap0)
 |agg (cs:List V)
 |bL (k n:Nat) (get:Nat→V)
 |iface (t:TypeId) (x:V)
 |ew |h1 |aO
 |any
 |nI (k:Nat) (get:Nat→V)
def V.cells:V→List V
 |.agg cs=>cs
 |x=>[x]
inductive D where
 |v (x:V)
 |ptr (r off:Nat)
 |cx (r off:Nat) (u:TypeId)
 |eY (x:V)
 |full (k n:Nat) (get:Nat→V)
 |fn (f:FuncId) (fb:List D)
 |agg (cs:List D)
 |cp (cs:List D)
structure aZ where
 d:D
 own:Option TypeId:=none
structure aJ where
 env:List (Nat×aZ)
 H:List (Nat×List aZ)
 a8:Nat
inductive lw where
 |int (k:IntKind) |bool |str
 |b9 (cG:List (Nat×TypeId×Nat))
 |bL (e:TypeId) |arr (n:Nat) (e:TypeId) |ptr |a1 |nJ
deriving DecidableEq
structure eE where
 k:lw
 size:Nat
 bytes:Nat
 zero:List V
 jd:List (Nat×TypeId):=[]
abbrev dx:=List (TypeId×eE)
def look{α:Type}:List (Nat×α)→Nat→Option α
 |[],_=>none
 |(j,x)::l,i=>bif Nat.beq j i then some x else look l i
def del{α:Type}:List (Nat×α)→Nat→List (Nat×α)
 |[],_=>[]
 |(j,x)::l,i=>bif Nat.beq j i then del l i else(j,x)::del l i
def lw.isAgg:lw→Bool
 |.b9 _ |.arr _ _=>true
 |_=>false
abbrev Path:=List (Nat×Bool)
def Path.has(p:Path)(x:Nat×Bool):Bool:=p.any λy=>Nat.beq y.1 x.1&&(y.2 == x.2)
def Path.sub(q p:Path):Bool:=q.all p.has
inductive Out where
 |ret (d:D) (own:Option TypeId)
 |bl (x:V)
inductive fo where
 |val (x:V)
 |raw
 |own
 |marks (c:Nat)
 |call (o:Out) (H:Option (List (List aZ))) (os:List Nat)
def aP(i:Int)(n:Nat):Bool:=decide (0≤i)&&decide (i<n)
def gP(i:Int)(n:Nat):Bool:=decide (0≤i)&&decide (i≤n)
def nK(a b:Int)(n:Nat):Bool:=decide (0≤a)&&(decide (a≤b)&&decide (b≤n))
def pA(a:Int):Bool:=!decide (a=0)
def room(n b:Nat):Bool:=decide (n*b≤140737488355328)
def bE(n:Nat):Bool:=decide (n≤9223372036854775807)
structure di where
 env:List (Nat×aZ)
 b0:List (Nat×Path×D)
 H:List (Nat×List aZ)
 a8:Nat
 rs:List fo
 bb:List Prop
 ids:List (Nat×Nat):=[]
def Iw:Value→Option V
 |.int k n=>some (.int k n)
 |.bool b=>some (.bool b)
 |.string s=>some (.str s.data.toList)
 |.pointer none=>some .ew
 |.nilIface=>some .h1
 |.nilFunc=>some .aO
 |_=>none
def rd(env:List (Nat×aZ))(b0:List (Nat×Path×D))(p:Path)(tt:dx)(ty:TypeId):Operand→Option D
 |.tmp t=>match look b0 t with
  |some (q,d)=>bif q.sub p then some d else none
  |none=>(look env t).map (·.d)
 |.const (.slice none 0 0)=>match look tt ty with
  |some {k:=.bL _,zero:=[.bL k 0 get],..}=>some (.v (.bL k 0 get))
  |_=>none
 |.const v=>(Iw v).map .v
 |.func f=>some (.fn f [])
 |.global _=>none
def la(f:TypeId→Operand→Option D):List Operand→List TypeId→Option (List D)
 |[],_=>some []
 |x::xs,t::ts=>match f t x,la f xs ts with
  |some d,some ds=>some (d::ds)
  |_,_=>none
 |_::_,[]=>none
def yD:List D→Option (List V)
 |[]=>some []
 |.v x::l=>(yD l).map (x :: ·)
 |_::_=>none
def lX(cs:List D):D:=match yD cs with|some vs=>.v (.agg vs)|none=>.agg cs
def cellsD:D→List D
 |.v x=>x.cells.map .v
 |.agg cs=>cs
 |d=>[d]
def qD:List D→Bool
 |[]=>true
 |.cx _ _ _::_=>false
 |_::l=>qD l
def pB:D→Bool
 |.cp _=>true
 |_=>false
def setAt{α:Type}:List α→Nat→List α→List α
 |cs,0,[]=>cs
 |_::cs,0,x::xs=>x::setAt cs 0 xs
 |c::cs,n+1,xs=>c::setAt cs n xs
 |[],_,_=>[]
def qE(place:Nat→Option (Nat×Nat))(cells:List D):List (Nat×D)→Option (List D)
 |[]=>some cells
 |(i,d)::rest=>match place i with
  |none=>none
  |some (off,size)=>
   bif Nat.beq (cellsD d).length size&&Nat.ble (off+size) cells.length && !pB d then qE place (setAt cells off (cellsD d)) rest else none
abbrev Mem:=Nat→Nat→Option Value
def Mem.le(M M':Mem):Prop:=∀b o v,M b o=some v→M' b o=some v
def Mem.le_refl(M:Mem):M.le M:=λ_ _ _ h=>h
def Mem.le_trans{A B C:Mem}(h:A.le B)(dp:B.le C):A.le C:=λb o v e=>dp b o v (h b o v e)
inductive dl(M:Mem):Value→V→Prop where
 |int (k:IntKind) (n:Int):dl M (.int k n) (.int k n)
 |bool (b:Bool):dl M (.bool b) (.bool b)
 |str (l:ap0):dl M (.string ⟨⟨l⟩⟩) (.str l)
 |agg (vs:List Value) (cs:List V) (hn:vs.length=cs.length) (Z:∀v,v∈vs→v.oneCell'=true)
  (h:∀(i:Nat) v c,vs[i]? = some v→cs[i]? = some c→dl M v c):dl M (.agg ⟨vs⟩) (.agg cs)
 |lb (k:Nat) (get:Nat→V):dl M (.slice none 0 0) (.bL k 0 get)
 |nL (a:Addr) (k:Nat) (get:Nat→V):dl M (.slice (some a) 0 0) (.bL k 0 get)
 |bL (b off k n cap:Nat) (get:Nat→V) (val:Nat→Nat→Value) (hc:n≤cap)
  (hk:∀i,i<n→(get i).cells.length=k)
  (c7:∀i j,i<n→j<k→M b (off+i*k+j)=some (val i j)) (Z:∀i j,i<n→j<k→(val i j).oneCell'=true)
  (h:∀(i j:Nat) c,i<n→(get i).cells[j]? = some c→dl M (val i j) c):dl M (.slice (some ⟨b,off,none⟩) n cap) (.bL k n get)
 |iface (t:TypeId) (v:Value) (x:V) (h:dl M v x):dl M (.iface t v) (.iface t x)
 |ew:dl M (.pointer none) .ew
 |h1:dl M .nilIface .h1
 |aO:dl M .nilFunc .aO
 |any (v:Value) (Z:v.oneCell'=true):dl M v .any
 |nI (k:Nat) (get:Nat→V):dl M (.slice none 0 0) (.nI k get)
def gH(raw x:V):Prop:=∀(M:Mem) (v:Value),dl M v raw→dl M v x
def vA(k:IntKind)(a b:Int):Int:=k.wrap (BitVec.ofInt k.bits a &&& BitVec.ofInt k.bits b).toNat
def s3(k:IntKind)(a b:Int):Int:=k.wrap (BitVec.ofInt k.bits a |||BitVec.ofInt k.bits b).toNat
def pC(k:IntKind)(a b:Int):Int:=k.wrap (BitVec.ofInt k.bits a ^^^ BitVec.ofInt k.bits b).toNat
def Ix(k:IntKind)(a b:Int):Int:=k.wrap (BitVec.ofInt k.bits a &&& ~~~BitVec.ofInt k.bits b).toNat
def qF(k:IntKind)(x y:Int):Int:=k.wrap (x*2 ^ min y.toNat k.bits)
def oz(k:IntKind)(x y:Int):Int:=x.fdiv (2 ^ min y.toNat k.bits)
def oA(y:Int):Bool:=decide (0≤y)
def Iy(op:BinOp)(k:IntKind)(x y:Int):Option (V×List Prop):=
 match op with
 |.shl=>some (.int k (qF k x y),[oA y=true])
 |.shr=>some (.int k (oz k x y),[oA y=true])
 |_=>none
def Iz(op:BinOp)(k:IntKind)(a b:Int):Option (V×List Prop):=
 match op with
 |.add=>some (.int k (k.wrap (a+b)),[])
 |.sub=>some (.int k (k.wrap (a-b)),[])
 |.mul=>some (.int k (k.wrap (a*b)),[])
 |.quo=>some (.int k (k.wrap (a.tdiv b)),[pA b=true])
 |.rem=>some (.int k (a.tmod b),[pA b=true])
 |.eql=>some (.bool (decide (a=b)),[])
 |.neq=>some (.bool (!decide (a=b)),[])
 |.lss=>some (.bool (decide (a<b)),[])
 |.leq=>some (.bool (decide (a≤b)),[])
 |.gtr=>some (.bool (decide (b<a)),[])
 |.geq=>some (.bool (decide (b≤a)),[])
 |.and=>some (.int k (vA k a b),[])
 |.or=>some (.int k (s3 k a b),[])
 |.xor=>some (.int k (pC k a b),[])
 |.andNot=>some (.int k (Ix k a b),[])
 |_=>none
def IA(op:BinOp)(a b:ap0):Option (V×List Prop):=
 match op with
 |.add=>some (.str (a++b),[bE (a.length+b.length)=true])
 |.eql=>some (.bool (decide (a=b)),[])
 |.neq=>some (.bool (!decide (a=b)),[])
 |.lss=>some (.bool (Op.bytesLess a b),[])
 |.leq=>some (.bool (Op.bytesLess a b||decide (a=b)),[])
 |.gtr=>some (.bool (!(Op.bytesLess a b||decide (a=b))),[])
 |.geq=>some (.bool (!Op.bytesLess a b),[])
 |_=>none
def isNil:lw→D→Option Bool
 |.ptr,.v .ew=>some true
 |.ptr,.ptr _ _=>some false
 |.ptr,.eY _=>some false
 |.nJ,.v .h1=>some true
 |.nJ,.v (.iface _ _)=>some false
 |.a1,.v .aO=>some true
 |.a1,.fn _ _=>some false
 |_,_=>none
def CI:lw→D→Bool
 |.ptr,.v .ew=>true
 |.nJ,.v .h1=>true
 |.a1,.v .aO=>true
 |_,_=>false
def iB:List (Option lw)→List V→List V→Option Bool
 |[],[],[]=>some true
 |some (.int _)::ks,.int k a::l,.int k' b::m=>bif decide (k=k') then(iB ks l m).map λr=>decide (a=b)&&r else none
 |some .str::ks,.str a::l,.str b::m=>(iB ks l m).map λr=>decide (a=b)&&r
 |some .bool::ks,.bool a::l,.bool b::m=>(iB ks l m).map λr=>(a == b)&&r
 |_,_,_=>none
def lY(tt:dx):Nat→List (Nat×TypeId×Nat)→List (Option lw)
 | 0,cG=>cG.map λf=>(look tt f.2.1).map (·.k)
 |d+1,cG=>cG.flatMap λf=>match look tt f.2.1 with
  |some {k:=.b9 gs,..}=>lY tt d gs
  |o=>[o.map (·.k)]
def RW(k:Option lw)(ab9:Bool)(op:BinOp)(a b:D):Option (V×List Prop):=
 match a,b with
 |.v (.int k x),.v (.int k' y)=>match Iy op k x y with
  |some z=>some z
  |none=>bif decide (k=k')then Iz op k x y else none
 |.v (.str x),.v (.str y)=>IA op x y
 |.v (.bool x),.v (.bool y)=>match k,op with
  |some .bool,.eql=>some (.bool (x == y),[])
  |some .bool,.neq=>some (.bool (!(x == y)),[])
  |_,_=>none
 |a,b=>match k with
  |some k=>bif CI k b&&ab9 then match isNil k a,op with
   |some t,.eql=>some (.bool t,[])
   |some t,.neq=>some (.bool (!t),[])
   |_,_=>none
   else none
  |none=>none
def isConst:Operand→Bool
 |.const _=>true
 |_=>false
def RX(op:UnOp)(a:V):Option V:=
 match op,a with
 |.not,.bool b=>some (.bool (!b))
 |.neg,.int k n=>some (.int k (k.wrap (0-n)))
 |_,_=>none
def yE(env:List (Nat×aZ))(b0:List (Nat×Path×D))(t:Nat):Option Bool:=
 match look b0 t with
 |some (_,.v (.bool b))=>some b
 |some _=>none
 |none=>match look env t with
  |some ⟨.v (.bool b),_⟩=>some b
  |_=>none
def under(g:di):Path→Prop→Prop
 |[],q=>q
 |(t,w)::p,q=>match yE g.env g.b0 t with
  |some b=>b=w→under g p q
  |none=>under g p q
structure kN where
 e:Option aZ
 gI:List Nat:=[]
 hs:List (Nat×List aZ):=[]
 fc:Nat:=0
 rs:List fo
 bb:List Prop:=[]
def nM(g:di):Operand→Option TypeId
 |.tmp t=>(look g.env t).bind (·.own)
 |_=>none
def ab'(t:Nat)(o:Oper):Bool:=
 match o.op with
 |.assign (.tmp u)=>Nat.beq u t
 |.store _ _ (.tmp u)=>Nat.beq u t
 |.call {callee:=.builtin .append,args,..}=>match args.toList with
  |.tmp u::_=>Nat.beq u t
  |_=>false
 |_=>false
def ab_(ops:List Oper)(dst:Option Nat):Bool:=
 match dst with
 |some t=>ops.any (ab' t)
 |none=>false
def refs:D→List Nat
 |.ptr r _=>[r]
 |.cx r _ _=>[r]
 |.fn _ fb=>fb.flatMap fun |.ptr r _=>[r] |_=>[]
 |.agg cs=>cs.flatMap fun |.ptr r _=>[r] |.cx r _ _=>[r] |.fn _ fb=>(fb.flatMap fun |.ptr r _=>[r] |_=>[]) |_=>[]
 |_=>[]
def idx(l:List Nat)(r:Nat):Option Nat:=
 match l with
 |[]=>none
 |x::l=>bif Nat.beq x r then some 0 else(idx l r).map (· + 1)
def dedup:List Nat→List Nat
 |[]=>[]
 |x::l=>bif (dedup l).any (Nat.beq x)then dedup l else x::dedup l
mutual
def ey(f:Nat→Option Nat):D→Option D
 |.v x=>some (.v x)
 |.ptr r off=>(f r).map (.ptr · off)
 |.cx r off u=>(f r).map (.cx · off u)
 |.eY x=>some (.eY x)
 |.full k n get=>some (.full k n get)
 |.fn g fb=>(kO f fb).map (.fn g)
 |.agg cs=>(kO f cs).map .agg
 |.cp cs=>(kO f cs).map .cp
def kO(f:Nat→Option Nat):List D→Option (List D)
 |[]=>some []
 |d::l=>match ey f d,kO f l with
  |some ei,some cL=>some (ei::cL)
  |_,_=>none
end
def CJ(f:Nat→Option Nat)(e:aZ):Option aZ:=(ey f e.d).map λd=>{d,own:=e.own}
def mt(f:Nat→Option Nat):List aZ→Option (List aZ)
 |[]=>some []
 |e::l=>match CJ f e,mt f l with
  |some a_,some cL=>some (a_::cL)
  |_,_=>none
def jv(f:Nat→Option Nat):List (List aZ)→Option (List (List aZ))
 |[]=>some []
 |b::l=>match mt f b,jv f l with
  |some bK,some cL=>some (bK::cL)
  |_,_=>none
def boxes(H:List (Nat×List aZ)):List Nat→Option (List (List aZ))
 |[]=>some []
 |r::l=>match look H r,boxes H l with
  |some b,some bs=>some (b::bs)
  |_,_=>none
def c8{α:Type}:Nat→List α→List (Nat×α)
 |_,[]=>[]
 |n,x::l=>(n,x)::c8 (n+1) l
def kP:List Nat→List (List aZ)→List (Nat×List aZ)
 |r::l,b::bs=>(r,b)::kP l bs
 |_,_=>[]
def mapM'{α β:Type}(f:α→Option β):List α→Option (List β)
 |[]=>some []
 |x::l=>match f x,mapM' f l with
  |some y,some ys=>some (y::ys)
  |_,_=>none
structure gg where
 call:FuncId→List D→List (Nat×TypeId)→List (List aZ)→Out→List (List aZ)→Prop
 eq:TypeId→Bool
inductive m6 where
 |go (e:kN)
 |bl (x:V) (hs:List (Nat×List aZ)) (bb:List Prop)
def nN(H:List (Nat×List aZ)):Nat→List Nat→List Nat
 | 0,l=>l
 |n+1,l=>nN H n (dedup (l++l.flatMap λr=>((look H r).getD []).flatMap λe=>refs e.d))
def mu:List Nat→Bool
 |[]=>true
 |x::l=>!l.any (Nat.beq x)&&mu l
def handed(tt:dx)(g:di)(xs:List Operand)(ts:List TypeId):List Nat→Option (List (Nat×Option Nat×TypeId))
 |[]=>some []
 |i::os=>match xs[i]?,handed tt g xs ts os with
  |some (.tmp t),some l=>match look g.env t with
   |some ⟨_,some e⟩=>bif (look g.b0 t).isNone&&l.all (λx=>!(match x.2.1 with |some u=>Nat.beq u t |none=>false) && !Nat.beq x.1 i)then some ((i,some t,e)::l)else none
   |_=>none
  |some (.const (.slice none 0 0)),some l=>match(ts[i]?).bind (look tt) with
   |some {k:=.bL e,..}=>bif l.all (λx=>!Nat.beq x.1 i)then some ((i,none,e)::l)else none
   |_=>none
  |_,_=>none
def vB(cn:gg)(tt:dx)(g:di)(p:Path)(xs:List Operand)(ts:List TypeId)(f:FuncId)(args:List D):Option m6:=
 let ρ:=nN g.H 2 (dedup (args.flatMap refs))
 match g.rs with
 |.call out cH os::rs=>
  match kO (idx ρ) args,(boxes g.H ρ).bind (jv (idx ρ)),handed tt g xs ts os with
  |some je,some H1,some hd=>bif !mu ρ || !(p.isEmpty||os.isEmpty)then none else
   let en:=hd.map λx=>(x.1,x.2.2)
   let gI:=hd.filterMap λx=>x.2.1
   match out,cH with
   |.ret d own,none=>(ey (λj=>ρ[j]?) d).map λei=>.go {e:=some {d:=ei,own},gI,rs,bb:=[cn.call f je en H1 out H1]}
   |.ret d own,some cH=>match ey (λj=>ρ[j]?) d,jv (λj=>ρ[j]?) cH with
    |some ei,some ik=>bif Nat.beq cH.length ρ.length then some (.go {e:=some {d:=ei,own},gI,hs:=kP ρ ik,rs,bb:=[cn.call f je en H1 out cH]})else none
    |_,_=>none
   |.bl x,none=>some (.bl x [] [cn.call f je en H1 out H1])
   |.bl x,some cH=>match jv (λj=>ρ[j]?) cH with
    |some ik=>bif Nat.beq cH.length ρ.length then some (.bl x (kP ρ ik) [cn.call f je en H1 out cH])else none
    |none=>none
  |_,_,_=>none
 |_=>none
def CK:V→Option TypeId→Option TypeId
 |.bL _ _ _,t=>t
 |_,_=>none
def RY(tt:dx):Nat→List (Nat×TypeId×Nat)→Nat→Option TypeId
 | 0,_,_=>none
 |d+1,cG,j=>match cG.find? λf=>Nat.ble f.1 j&&Nat.blt j (f.1+f.2.2) with
  |some f=>match look tt f.2.1 with
   |some {k:=.bL e,..}=>some e
   |some {k:=.b9 gs,..}=>RY tt d gs (j-f.1)
   |_=>none
  |none=>none
def CL(tt:dx):lw→Nat→Option TypeId
 |.b9 cG,j=>RY tt 5 cG j
 |.bL e,0=>some e
 |_,_=>none
def RZ(tt:dx)(jd:List (Nat×TypeId))(k:lw)(i:Nat):Option TypeId:=
 match CL tt k i with
 |some e=>some e
 |none=>(jd.find? λy=>Nat.beq (y.1+1) i).bind λy=>match look tt y.2 with |some {k,..}=>CL tt k 1 |none=>none
def yF(jd:List (Nat×TypeId))(id i:Nat)(x:V):D:=
 match x with
 |.ew=>match jd.find? λy=>Nat.beq y.1 i with
  |some y=>.cx id i y.2
  |none=>.v x
 |_=>.v x
def CM(tt:dx)(t:TypeId)(id:Nat):Option (List aZ):=
 match look tt t with
 |some {k:=.bL e,zero,..}=>some (zero.map λx=>{d:=.v x,own:=CK x (some e)})
 |some {k:=.b9 cG,zero,jd,..}=>some ((c8 0 zero).map fun(i,x)=>
  {d:=yF jd id i x,own:=CK x (RZ tt jd (.b9 cG) i)})
 |some {zero,..}=>some (zero.map λx=>{d:=.v x})
 |none=>none
def V.isAgg:V→Bool
 |.agg _=>true
 |_=>false
def IB:V→V
 |.bL k 0 g=>.nI k g
 |x=>x
def oB(ty:Nat→Option TypeId):Nat→List aZ→List aZ
 |_,[]=>[]
 |i,e::l=>(match e.d with
  |.v (.nI k g)=>{d:=.v (.bL k 0 g),own:=ty i}
  |_=>e)::oB ty (i+1) l
def elems(isAgg:Bool)(size:Nat):Nat→List (Nat×D)→Option (List V)
 |_,[]=>some []
 |i,(j,.v x)::cJ=>bif Nat.beq i j&&Nat.beq x.cells.length size&&(x.isAgg == isAgg) then(elems isAgg size (i+1) cJ).map (x :: ·)else none
 |_,_=>none
def qG(tt:dx)(t:TypeId)(i:Nat):TypeId:=
 match look tt t with
 |some {k:=.b9 cG,..}=>match cG[i]? with
  |some f=>f.2.1
  |none=>0
 |some {k:=.arr _ e,..}=>e
 |some {k:=.bL e,..}=>e
 |_=>0
def vC(tt:dx)(aI:eE)(id i:Nat)(d:D):aZ:=
 match d with
 |.v .ew=>{d:=yF aI.jd id i .ew}
 |.v (.nI k g)=>match RZ tt aI.jd aI.k i with
  |some T=>{d:=.v (.bL k 0 g),own:=some T}
  |none=>{d}
 |d=>{d}
def pD(tt:dx)(aI:eE)(id:Nat):Nat→List D→List aZ
 |_,[]=>[]
 |i,d::l=>vC tt aI id i d::pD tt aI id (i+1) l
def m7(g:di)(o:Oper):Option (Nat×Nat):=
 match o.dst.bind (look g.ids) with
 |some id=>bif (look g.H id).isNone&&Nat.blt id g.a8 then some (id,0)else none
 |none=>some (g.a8,1)
def R0:Nat→Nat→List (Nat×TypeId)
 | 0,_=>[]
 |f+1,c=>bif Nat.beq c 0 then[] else((c % 1000000-1) / 1000,(c % 1000000-1) % 1000)::R0 f (c / 1000000)
def marks(T:Nat):List (Nat×TypeId):=R0 8 (T / 1000000)
def marksOf:Nat→List aZ→List (Nat×TypeId)
 |_,[]=>[]
 |i,e::l=>match e.own with
  |some T=>(i,T)::marksOf (i+1) l
  |none=>marksOf (i+1) l
def rG:List (Nat×TypeId)→List (Nat×TypeId)→Bool
 |[],[]=>true
 |x::l,y::m=>Nat.beq x.1 y.1&&Nat.beq x.2 y.2&&rG l m
 |_,_=>false
def vD:List (Nat×TypeId)→Nat→Option TypeId
 |[],_=>none
 |x::l,i=>bif Nat.beq x.1 i then some x.2 else vD l i
def IC:D→Bool
 |.v (.agg _)=>true
 |.agg _=>true
 |_=>false
def oC(ms:List (Nat×TypeId)):Nat→List D→List aZ
 |_,[]=>[]
 |i,d::l=>{d,own:=vD ms i}::oC ms (i+1) l
def step1(cn:gg)(tt:dx)(ops:List Oper)(g:di)(p:Path)(o:Oper):Option m6:=
 let r:=rd g.env g.b0 p tt o.type
 let val (d:Option D):Option m6:=d.map λd=>.go {e:=some {d},rs:=g.rs}
 let yG (x:Option (V×List Prop)):Option m6:=x.map fun(x,bb)=>.go {e:=some {d:=.v x},rs:=g.rs,bb}
 let CN (raw:V) (mk:V→D) (bb:List Prop):Option m6:=match g.rs with
  |.val x::rs=>some (.go {e:=some {d:=mk x},rs,bb:=gH raw x::bb})
  |.raw::rs=>some (.go {e:=some {d:=mk raw},rs,bb:=bb})
  |_=>none
 match o.op with
 |.move x=>match r x with
  |some d=>match nM g x,x with
   |some e,.tmp t=>match g.rs with
    |.own::rs=>bif p.isEmpty then some (.go {e:=some {d,own:=some e},gI:=[t],rs})else none
    |_=>bif p.isEmpty&&ab_ ops o.dst then some (.go {e:=some {d,own:=some e},gI:=[t],rs:=g.rs})else some (.go {e:=some {d},rs:=g.rs})
   |_,_=>some (.go {e:=some {d},rs:=g.rs})
  |none=>none
 |.assign x=>match r x with
  |some d=>match nM g x,x with
   |some e,.tmp t=>bif p.isEmpty then some (.go {e:=some {d,own:=some e},gI:=[t],rs:=g.rs})else some (.go {e:=some {d},rs:=g.rs})
   |_,.const (.slice none 0 0)=>match look tt o.type with
    |some {k:=.bL e,..}=>bif p.isEmpty then some (.go {e:=some {d,own:=some e},rs:=g.rs})else some (.go {e:=some {d},rs:=g.rs})
    |_=>none
   |_,_=>some (.go {e:=some {d},rs:=g.rs})
  |none=>none
 |.pick (.tmp c) a b=>match r (.tmp c),rd g.env g.b0 ((c,true)::p) tt o.type a,rd g.env g.b0 ((c,false)::p) tt o.type b with
  |some (.v (.bool rH)),some (.v (.bool yH)),some (.v (.bool s4))=>val (some (.v (.bool (bif rH then yH else s4))))
  |_,_,_=>none
 |.alloc t=>match m7 g o with
  |some (id,fc)=>match CM tt t id with
   |some z=>some (.go {e:=some {d:=.ptr id 0},hs:=[(id,z)],fc,rs:=g.rs})
   |none=>none
  |none=>none
 |.box t x=>match r x,m7 g o,look tt t with
  |some d,some (id,fc),some aI=>bif pB d || !qD (cellsD d) || !Nat.beq (cellsD d).length aI.size then none else some (.go {e:=some {d:=.ptr id 0},hs:=[(id,pD tt aI id 0 (cellsD d))],fc,rs:=g.rs})
  |_,_,_=>none
 |.build t parts=>match look tt t,mapM' (fun(i,x)=>(rd g.env g.b0 p tt (qG tt t i) x).map λd=>(i,d)) parts.toList with
  |some {k:=.b9 cG,zero,..},some cJ=>bif cG.all (λf=>Nat.ble 1 f.2.2)then match g.rs with
   |.own::rs=>((qE (λi=>(cG[i]?).map λf=>(f.1,f.2.2)) (zero.map λx=>.v (IB x)) cJ).map lX).map λd=>.go {e:=some {d},rs}
   |_=>val ((qE (λi=>(cG[i]?).map λf=>(f.1,f.2.2)) (zero.map .v) cJ).map lX)
   else none
  |some {k:=.arr _ e,zero,..},some cJ=>match look tt e with
   |some {size,..}=>val ((qE (λi=>some (i*size,size)) (zero.map .v) cJ).map lX)
   |none=>none
  |_,_=>none
 |.buildSlice t len parts=>match look tt t,mapM' (fun(i,x)=>(rd g.env g.b0 p tt (qG tt t i) x).map λd=>(i,d)) parts.toList with
  |some {k:=.bL e,..},some cJ=>match look tt e with
   |some {k,size,..}=>
    match elems k.isAgg size 0 cJ,g.rs with
    |some xs,.val x::rs=>bif Nat.ble (len*size) 16777216&&Nat.ble 1 size&&Nat.beq xs.length len then some (.go {e:=some {d:=.v x,own:=some e},rs,bb:=[gH (.bL size len λi=>xs.getD i .ew) x]})else none
    |_,_=>none
   |none=>none
  |_,_=>none
 |.load t a=>match r a,look tt t with
  |some (
   .ptr q off),some aI=>match look g.H q with
   |some cs=>bif aI.k.isAgg then
    bif Nat.ble (off+aI.size) cs.length then match g.rs with
     |.marks c::rs=>bif p.isEmpty&&rG (marks c) (marksOf 0 ((cs.drop off).take aI.size)) then
      some (.go {e:=some {d:=lX (((cs.drop off).take aI.size).map (·.d)),own:=some c},hs:=[(q,setAt cs off (((cs.drop off).take aI.size).map λe=>{d:=e.d}))],rs})else none
     |_=>val (some (lX (((cs.drop off).take aI.size).map (·.d))))else none
    else match cs[off]? with
     |some e=>match e.own,g.rs with
      |some _,.own::rs=>bif p.isEmpty then some (.go {e:=some e,hs:=[(q,setAt cs off [{d:=e.d}])],rs})else none
      |_,_=>val (some e.d)
     |none=>none
   |none=>none
  |some (.eY x),some aI=>bif x.isAgg == aI.k.isAgg&&Nat.beq x.cells.length aI.size then val (some (.v x))else none
  |_,_=>none
 |.store t a x=>match r a,rd g.env g.b0 p tt t x,look tt t with
  |some (
   .ptr q off),some d,some aI=>match look g.H q with
   |some cs=>bif Nat.beq (cellsD d).length aI.size&&Nat.ble (off+aI.size) cs.length&&p.isEmpty && !pB d&&qD (cellsD d) then
    match x,nM g x,d with
    |.tmp u,some s,.v (.bL ..)=>some (.go {e:=none,gI:=[u],hs:=[(q,setAt cs off [{d,own:=some s}])],rs:=g.rs})
    |.const (.slice none 0 0),_,_=>match aI.k with
     |.bL s=>some (.go {e:=none,hs:=[(q,setAt cs off [{d,own:=some s}])],rs:=g.rs})
     |_=>none
    |.tmp u,some s,_=>match g.rs with
     |.marks _::rs=>bif IC d&&((marks s).all λx=>Nat.blt x.1 aI.size)then some (.go {e:=none,gI:=[u],hs:=[(q,setAt cs off (oC (marks s) 0 (cellsD d)))],rs})else none
     |_=>some (.go {e:=none,hs:=[(q,oB (λi=>CL tt aI.k (i-off)) 0 (setAt cs off ((cellsD d).map λd=>{d})))],rs:=g.rs})
    |_,_,_=>some (.go {e:=none,hs:=[(q,oB (λi=>CL tt aI.k (i-off)) 0 (setAt cs off ((cellsD d).map λd=>{d})))],rs:=g.rs})
    else none
   |none=>none
  |_,_,_=>none
 |.nilCheck x=>match r x with
  |some (.ptr q off)=>val (some (.ptr q off))
  |some (.eY x)=>val (some (.eY x))
  |_=>none
 |.binOp op t x y _=>match r x,r y with
  |some (.v (.agg xs)),some (.v (.agg ys))=>match look tt t with
   |some {k:=.b9 cG,..}=>bif cn.eq t then match op,iB (lY tt 4 cG) xs ys with
    |.eql,some r=>val (some (.v (.bool r)))
    |.neq,some r=>val (some (.v (.bool (!r))))
    |_,_=>none
    else none
   |_=>none
  |some a,some b=>yG (RW ((look tt t).map (·.k)) (isConst y) op a b)
  |_,_=>none
 |.unOp op _ x=>match r x with
  |some (.v a)=>val ((RX op a).map .v)
  |_=>none
 |.convert s t x=>match look tt s,look tt t,r x with
  |some {k:=.int _,..},some {k:=.int k,..},some (.v (.int _ n))=>val (some (.v (.int k (k.wrap n))))
  |some {k:=.str,..},some {k:=.str,..},some (.v (.str s))=>val (some (.v (.str s)))
  |some {k:=.bL e,..},some {k:=.str,..},some (.v (.bL 1 n get))=>match look tt e,g.rs with
   |some {k:=.int .u8,..},.val (.str l)::rs=>some (.go {e:=some {d:=.v (.str l)},rs,bb:=[l.length=n∧∀i,i<n→get i = .int .u8 ((l.getD i 0).toNat:Int)]})
   |_,_=>none
  |_,_,_=>none
 |.makeInterface t x=>match r x,look tt t with
  |some (.v x),some {k,..}=>match k with
   |.nJ=>none
   |_=>val (some (.v (.iface t x)))
  |_,_=>none
 |.makeFunc (.func f) first fb=>bif first.isEmpty then(mapM' r fb.toList).map λds=>.go {e:=some {d:=.fn f ds},rs:=g.rs}else none
 |.slice t x lo hi jw=>match jw,look tt t with
  |none,some {k:=.str,..}=>match r x,lo.map r,hi.map r with
   |some (.v (.str s)),none,none=>val (some (.v (.str s)))
   |some (.v (.str s)),some (some (.v (.int _ a))),none=>yG (some (.str (s.drop a.toNat),[gP a s.length=true]))
   |some (.v (.str s)),none,some (some (.v (.int _ b)))=>yG (some (.str (s.take b.toNat),[gP b s.length=true]))
   |some (.v (.str s)),some (some (.v (.int _ a))),some (some (.v (.int _ b)))=>yG (some (.str ((s.take b.toNat).drop a.toNat),[nK a b s.length=true]))
   |_,_,_=>none
  |none,some {k:=.bL e,..}=>match look tt e,r x,lo.map r,hi.map r with
   |some {size,..},some (.v (.bL k n get)),some (some (.v (.int _ a))),none=>bif Nat.beq k size then CN (.bL k (n-a.toNat) λi=>get (a.toNat+i)) .v [gP a n=true]else none
   |some {size,..},some (.v (.bL k n get)),none,some (some (.v (.int _ b)))=>bif Nat.beq k size then CN (.bL k b.toNat get) .v [gP b n=true]else none
   |some {size,..},some (.v (.bL k n get)),some (some (.v (.int _ a))),some (some (.v (.int _ b)))=>bif Nat.beq k size then CN (.bL k (b.toNat-a.toNat) λi=>get (a.toNat+i)) .v [nK a b n=true]else none
   |some {size,..},some (.v (.bL k n get)),none,none=>bif Nat.beq k size then val (some (.v (.bL k n get)))else none
   |_,_,_,_=>none
  |some _,some {k:=.bL e,..}=>match look tt e,r x,lo,hi.map r,jw.map r with
   |some {size,..},some (.v (.bL k n get)),none,some (some (.v (.int _ b))),some (some (.v (.int _ c)))=>bif Nat.beq k size then some (.go {e:=some {d:=.full k b.toNat get},rs:=g.rs,bb:=[b=c,gP b n=true]})else none
   |_,_,_,_,_=>none
  |_,_=>none
 |.fieldAddr s x f=>match r x,look tt s with
  |some (.ptr q off),some {k:=.b9 cG,..}=>match cG[f]? with
   |some (c6,_,fK)=>bif Nat.ble 1 fK then val (some (.ptr q (off+c6)))else none
   |none=>none
  |some (
   .eY (.agg cs)),some {k:=.b9 cG,..}=>match cG[f]? with
   |some (
    c6,hE,fK)=>match look tt hE with
    |some aI=>bif Nat.ble 1 fK&&Nat.ble (c6+fK) cs.length then
     bif aI.k.isAgg then val (some (.eY (.agg ((cs.drop c6).take fK))))else bif Nat.beq fK 1 then match cs[c6]? with
      |some c=>bif c.isAgg then none else val (some (.eY c))
      |none=>none
     else none
     else none
    |none=>none
   |none=>none
  |_,_=>none
 |.field s x f=>match r x,look tt s with
  |some (
   .v (.agg cs)),some {k:=.b9 cG,..}=>match cG[f]? with
   |some (c6,hE,fK)=>match look tt hE with
    |some aI=>bif Nat.ble (c6+fK) cs.length then bif aI.k.isAgg then val (some (.v (.agg ((cs.drop c6).take fK))))else match cs[c6]? with
     |some c=>val (some (.v c))
     |none=>none
     else none
    |none=>none
   |none=>none
  |some (.agg cs),some {k:=.b9 cG,..}=>match cG[f]? with
   |some (c6,hE,fK)=>match look tt hE,cs[c6]? with
    |some aI,some c=>bif aI.k.isAgg || !Nat.beq fK 1||pB c then none else val (some c)
    |_,_=>none
   |none=>none
  |_,_=>none
 |.indexAddr t x i=>match r x,r i,look tt t with
  |some (.v (.bL k n get)),some (.v (.int _ j)),some {k:=.bL e,..}=>match look tt e with
   |some {size,..}=>bif Nat.beq k size&&Nat.ble 1 size then CN (get j.toNat) .eY [aP j n=true]else none
   |none=>none
  |_,_,_=>none
 |.index t x i=>match r x,r i,look tt t with
  |some (.v (.str s)),some (.v (.int _ j)),some {k:=.str,..}=>yG (some (.int .u8 (s.getD j.toNat 0).toNat,[aP j s.length=true]))
  |_,_,_=>none
 |.typeAssert x _ t ok=>match r x,look tt t with
  |some (.v (.iface jf y)),some {k,..}=>match k with
   |.nJ=>none
   |_=>bif Nat.beq jf t then val (some (bif ok then .cp [.v y,.v (.bool true)]else .v y))else none
  |_,_=>none
 |.extract x i=>match r x with
  |some (.cp ds)=>val ds[i]?
  |_=>none
 |.call c=>match c.callee with
  |.value x=>match r x,la (rd g.env g.b0 p tt) c.args.toList c.argTypes.toList with
   |some (.fn f fb),some ds=>vB cn tt g p c.args.toList c.argTypes.toList f (ds++fb)
   |_,_=>none
  |.builtin .len=>match mapM' (λy=>r y) c.args.toList,(c.argTypes.toList[0]?).bind (look tt) with
   |some [.v (.str s)],some {k:=.str,..}=>val (some (.v (.int .i64 s.length)))
   |some [.v (.bL _ n _)],some {k:=.bL _,..}=>val (some (.v (.int .i64 n)))
   |_,_=>none
  |.builtin .append=>match c.args.toList,(c.argTypes.toList[0]?).bind (look tt),(c.argTypes.toList[1]?).bind (look tt) with
   |[.tmp t,x],some {k:=.bL e,..},some t2=>match look tt e,r (.tmp t),r x,look g.env t,g.rs with
    |some ct,some (.v (.bL k n get)),some d2,some ⟨_,some a_⟩,.val y::rs=>
     bif Nat.beq e a_&&Nat.beq k ct.size&&Nat.ble 1 ct.size&&Nat.ble 1 ct.bytes&&p.isEmpty then
      match d2,t2.k with
      |.v (.bL al m lx),.bL _=>bif Nat.beq al k then
       some (.go {e:=some {d:=.v y,own:=some e},gI:=[t],rs,bb:=[gH (.bL k (n+m) λi=>bif Nat.blt i n then get i else lx (i-n)) y,room (n+m) ct.bytes=true]})
       else none
      |.v (.str s),.str=>bif Nat.beq k 1 then
       some (.go {e:=some {d:=.v y,own:=some e},gI:=[t],rs,bb:=[gH (.bL k (n+s.length) λi=>bif Nat.blt i n then get i else .int .u8 (s.getD (i-n) 0).toNat) y,room (n+s.length) ct.bytes=true]})
       else none
      |_,_=>none
     else none
    |some ct,some (.full k n get),some d2,_,.val y::rs=>
     bif Nat.beq k ct.size&&Nat.ble 1 ct.size&&Nat.ble 1 ct.bytes&&p.isEmpty then
      match d2,t2.k with
      |.v (.bL al m lx),.bL _=>bif Nat.beq al k&&Nat.ble 1 m then
       some (.go {e:=some {d:=.v y,own:=some e},gI:=[t],rs,bb:=[gH (.bL k (n+m) λi=>bif Nat.blt i n then get i else lx (i-n)) y,room (n+m) ct.bytes=true]})
       else none
      |_,_=>none
     else none
    |_,_,_,_,_=>none
   |_,_,_=>none
  |.builtin .min=>match mapM' (λy=>r y) c.args.toList with
   |some [.v (.int k a),.v (.int al b)]=>bif decide (k=al)then val (some (.v (.int k (bif decide (b<a)then b else a))))else none
   |_=>none
  |.builtin .max=>match mapM' (λy=>r y) c.args.toList with
   |some [.v (.int k a),.v (.int al b)]=>bif decide (k=al)then val (some (.v (.int k (bif decide (a<b)then b else a))))else none
   |_=>none
  |_=>none
 |.panic x=>match r x with
  |some (.v (.iface t y))=>some (.bl (.iface t y) [] [])
  |_=>none
 |_=>none
def gu:List Nat→List (Nat×aZ)→List (Nat×aZ)
 |[],env=>env
 |t::l,env=>match look env t with
  |some e=>(t,{e with own:=none})::gu l env
  |none=>gu l env
inductive rI where
 |go (g:di)
 |bl (x:V) (st:aJ) (bb:List Prop)
def oD:List (Nat×aZ)→List (Nat×aZ)
 |[]=>[]
 |(t,e)::l=>(t,{d:=e.d})::oD l
def oE(ops:List Oper)(g:di)(o:Oper):Option Path:=
 match o.guard with
 |none=>some []
 |some (j,w)=>match(ops[j]?).bind (·.dst) with
  |some t=>match look g.b0 t with
   |some (q,.v (.bool _))=>some (q++[(t,w)])
   |some _=>none
   |none=>match look g.env t with
    |some ⟨.v (.bool _),_⟩=>some [(t,w)]
    |_=>none
  |none=>none
def vE(b0:List (Nat×Path×D))(t:Nat):Bool:=b0.all λx=>Nat.beq x.1 t||x.2.1.all λy=>!Nat.beq y.1 t
def jx(
 cn:gg) (tt:dx) (N:Nat) (ops:List Oper) (g:di) (o:Oper):Option rI:=
 match oE ops g o with
 |none=>none
 |some p=>
  match step1 cn tt ops g p o with
  |none=>none
  |some (.bl x hs bb)=>bif p.isEmpty then some (.bl x {env:=oD g.env,H:=hs++g.H,a8:=g.a8} (bb++g.bb))else none
  |some (
   .go f)=>
   let fe:di:={g with rs:=f.rs,bb:=f.bb.map (under g p)++g.bb}
   match o.dst with
   |none=>bif p.isEmpty then some (.go {fe with env:=gu f.gI g.env,H:=f.hs++g.H,a8:=g.a8+f.fc})else none
   |some t=>bif Nat.blt t N&&vE g.b0 t then
    match p with
    |[]=>some (.go {fe with
     env:=match f.e with|some e=>(t,e)::gu f.gI g.env|none=>del (gu f.gI g.env) t
     b0:=del g.b0 t,H:=f.hs++g.H,a8:=g.a8+f.fc})
    |_::_=>match f.e,f.hs,f.gI with
     |some e,[],[]=>bif p.all (λy=>!Nat.beq y.1 t)&&Nat.beq f.fc 0 then some (.go {fe with env:=del g.env t,b0:=(t,p,e.d)::del g.b0 t})else none
     |_,_,_=>none
    else none
def rJ(cn:gg)(tt:dx)(N:Nat)(ops:List Oper):List Oper→di→Option rI
 |[],g=>some (.go g)
 |o::l,g=>match jx cn tt N ops g o with
  |some (.go fe)=>rJ cn tt N ops l fe
  |x=>x
mutual
def below(n:Nat):D→Bool
 |.v _ |.eY _ |.full _ _ _=>true
 |.ptr r _=>Nat.blt r n
 |.cx r _ _=>Nat.blt r n
 |.fn _ fb=>s5 n fb
 |.agg cs |.cp cs=>s5 n cs
def s5(n:Nat):List D→Bool
 |[]=>true
 |d::l=>below n d&&s5 n l
end
def qH(n:Nat):List aZ→Bool
 |[]=>true
 |e::l=>below n e.d&&qH n l
def yI(env:List (Nat×aZ)):List Nat→Option (List (Nat×aZ))
 |[]=>some []
 |t::l=>match look env t,yI env l with
  |some e,some cL=>some ((t,e)::cL)
  |_,_=>none
def yJ(H:List (Nat×List aZ)):List Nat→Option (List (Nat×List aZ))
 |[]=>some []
 |r::l=>match look H r,yJ H l with
  |some e,some cL=>some ((r,e)::cL)
  |_,_=>none
def s6(live:List Nat)(boxes:List Nat)(n:Nat)(env:List (Nat×aZ))(H:List (Nat×List aZ))(a8:Nat):Option aJ:=
 match yI env live,yJ H boxes with
 |some m8,some H'=>bif Nat.ble n a8&&m8.all (λx=>below n x.2.d)&&H'.all (λx=>Nat.blt x.1 n&&qH n x.2)then some {env:=m8,H:=H',a8:=n}else none
 |_,_=>none
inductive Fin where
 |go (st:aJ) (bb:List Prop)
 |bl (x:V) (st:aJ) (bb:List Prop)
def dl.mono{M M':Mem}(c7:M.le M'){v:Value}{x:V}(h:dl M v x):dl M' v x:=by
 induction h with
 |int k n=>exact .int k n
 |bool b=>exact .bool b
 |str l=>exact .str l
 |agg vs cs hn Z _ bc=>exact .agg vs cs hn Z bc
 |lb k get=>exact .lb k get
 |nL a k get=>exact .nL a k get
 |bL b off k n cap get val hc hk hm Z _ bc=>exact .bL b off k n cap get val hc hk (λi j hi hj=>c7 _ _ _ (hm i j hi hj)) Z bc
 |iface t v x _ bc=>exact .iface t v x bc
 |ew=>exact .ew
 |h1=>exact .h1
 |aO=>exact .aO
 |any v Z=>exact .any v Z
 |nI k get=>exact .nI k get
inductive cz(M:Mem)(β:Nat→Option Nat):Value→D→Prop where
 |v (u:Value) (x:V) (h:dl M u x):cz M β u (.v x)
 |ptr (r off b:Nat) (h:β r=some b):cz M β (.pointer (some ⟨b,off,none⟩)) (.ptr r off)
 |ld (r off:Nat) (u:TypeId):cz M β (.pointer none) (.cx r off u)
 |cx (r off b:Nat) (u:TypeId) (h:β r=some b):cz M β (.pointer (some ⟨b,off,none⟩)) (.cx r off u)
 |eY (b off:Nat) (x:V) (val:Nat→Value) (c7:∀j,j<x.cells.length→M b (off+j)=some (val j)) (Z:∀j,j<x.cells.length→(val j).oneCell'=true)
  (h:∀(j:Nat) c,x.cells[j]? = some c→dl M (val j) c):cz M β (.pointer (some ⟨b,off,none⟩)) (.eY x)
 |full (base:Option Addr) (k n:Nat) (get:Nat→V) (h:dl M (.slice base n n) (.bL k n get)):cz M β (.slice base n n) (.full k n get)
 |fn (f:FuncId) (vs:List Value) (cs:List D) (hn:vs.length=cs.length)
  (h:∀(i:Nat) v c,vs[i]? = some v→cs[i]? = some c→cz M β v c):cz M β (.func (.func f) #[] ⟨vs⟩) (.fn f cs)
 |agg (vs:List Value) (cs:List D) (hn:vs.length=cs.length) (Z:∀v,v∈vs→v.oneCell'=true)
  (h:∀(i:Nat) v c,vs[i]? = some v→cs[i]? = some c→cz M β v c):cz M β (.agg ⟨vs⟩) (.agg cs)
 |cp (vs:List Value) (cs:List D) (hn:vs.length=cs.length)
  (h:∀(i:Nat) v c,vs[i]? = some v→cs[i]? = some c→cz M β v c):cz M β (.tuple ⟨vs⟩) (.cp cs)
def cz.mono{M M':Mem}{β:Nat→Option Nat}(c7:M.le M'){v:Value}{d:D}(h:cz M β v d):cz M' β v d:=by
 induction h with
 |v u x h=>exact .v u x (h.mono c7)
 |ptr r off b h=>exact .ptr r off b h
 |ld r off u=>exact .ld r off u
 |cx r off b u h=>exact .cx r off b u h
 |eY b off x val hm Z h=>exact .eY b off x val (λj hj=>c7 _ _ _ (hm j hj)) Z (λj c hc=>(h j c hc).mono c7)
 |full b k n get h=>exact .full b k n get (h.mono c7)
 |fn f vs cs hn _ bc=>exact .fn f vs cs hn bc
 |agg vs cs hn Z _ bc=>exact .agg vs cs hn Z bc
 |cp vs cs hn _ bc=>exact .cp vs cs hn bc
def rK{n:Nat}:∀{l:List D} {i:Nat} {d:D},s5 n l=true→l[i]? = some d→below n d=true
 |[],_,_,_,h=>by simp at h
 |d::l,0,_,hb,h=>by simp [s5]at hb;simp at h;exact h ▸ hb.1
 |d::l,i+1,_,hb,h=>by simp [s5]at hb;simp at h;exact rK hb.2 h
def cz.R1{M:Mem}{β β':Nat→Option Nat}{n:Nat}(gQ:∀r,r<n→β' r=β r){v:Value}{d:D}(h:cz M β v d):Ab.below n d=true→cz M β' v d:=by
 induction h with
 |v u x h=>intro _;exact .v u x h
 |ptr r off b h=>intro hb;exact .ptr r off b (by rw [gQ r (by simpa [Ab.below,Nat.blt_eq]using hb)];exact h)
 |ld r off u=>intro hb;exact .ld r off u
 |cx r off b u h=>intro hb;exact .cx r off b u (by rw [gQ r (by simpa [Ab.below,Nat.blt_eq]using hb)];exact h)
 |eY b off x val hm Z h=>intro _;exact .eY b off x val hm Z h
 |full b k n get h=>intro _;exact .full b k n get h
 |fn f vs cs hn _ bc=>intro hb;exact .fn f vs cs hn λi v c ay hc=>bc i v c ay hc (rK (by simpa [Ab.below]using hb) hc)
 |agg vs cs hn Z _ bc=>intro hb;exact .agg vs cs hn Z λi v c ay hc=>bc i v c ay hc (rK (by simpa [Ab.below]using hb) hc)
 |cp vs cs hn _ bc=>intro hb;exact .cp vs cs hn λi v c ay hc=>bc i v c ay hc (rK (by simpa [Ab.below]using hb) hc)
def vF{f:Nat→Option Nat}:∀{l cL:List D},kO f l=some cL→l.length=cL.length∧∀(i:Nat) d,l[i]? = some d→∃ei,cL[i]? = some ei∧ey f d=some ei
 |[],cL,h=>by simp [kO]at h;subst h;simp
 |d::l,cL,h=>by
  simp only [kO]at h;split at h<;>simp at h
  rename_i ei gv hd ag;subst h;obtain⟨Z,af⟩:=vF ag;refine⟨by simp [Z],λi x hx=>?_⟩
  cases i with
  |zero=>simp at hx;subst hx;exact⟨ei,by simp,hd⟩
  |succ i=>simp at hx;simpa using af i x hx
def cz.ey{M:Mem}{β β':Nat→Option Nat}{f:Nat→Option Nat}(gQ:∀r s b,f r=some s→β r=some b→β' s=some b){v:Value}{d:D}(h:cz M β v d):
 ∀{ei},ey f d=some ei→cz M β' v ei:=by
 induction h with
 |v u x h=>intro ei hd;simp [Ab.ey]at hd;subst hd;exact .v u x h
 |ptr r off b h=>
  intro ei hd;simp only [Ab.ey,Option.map_eq_some_iff]at hd;obtain⟨s,hs,rfl⟩:=hd;exact .ptr s off b (gQ r s b hs h)
 |ld r off u=>
  intro ei hd;simp only [Ab.ey,Option.map_eq_some_iff]at hd;obtain⟨s,hs,rfl⟩:=hd;exact .ld s off u
 |cx r off b u h=>
  intro ei hd;simp only [Ab.ey,Option.map_eq_some_iff]at hd;obtain⟨s,hs,rfl⟩:=hd;exact .cx s off b u (gQ r s b hs h)
 |eY b off x val hm Z h=>intro ei hd;simp [Ab.ey]at hd;subst hd;exact .eY b off x val hm Z h
 |full b k n get h=>intro ei hd;simp [Ab.ey]at hd;subst hd;exact .full b k n get h
 |fn f vs cs hn _ bc=>
  intro ei hd;simp only [Ab.ey,Option.map_eq_some_iff]at hd;obtain⟨cs',ee,rfl⟩:=hd;obtain⟨Z,af⟩:=vF ee;refine .fn f vs cs' (by omega) λi v c ay hc=>?_
  have hi:i<cs.length:=by have:=(List.getElem?_eq_some_iff.1 hc).1;omega
  obtain⟨d1,gh,ak⟩:=af i cs[i] (List.getElem?_eq_getElem hi);rw [hc]at gh;cases gh;exact bc i v _ ay (List.getElem?_eq_getElem hi) ak
 |agg vs cs hn Z _ bc=>
  intro ei hd;simp only [Ab.ey,Option.map_eq_some_iff]at hd;obtain⟨cs',ee,rfl⟩:=hd;obtain⟨h0,af⟩:=vF ee;refine .agg vs cs' (by omega) Z λi v c ay hc=>?_
  have hi:i<cs.length:=by have:=(List.getElem?_eq_some_iff.1 hc).1;omega
  obtain⟨d1,gh,ak⟩:=af i cs[i] (List.getElem?_eq_getElem hi);rw [hc]at gh;cases gh;exact bc i v _ ay (List.getElem?_eq_getElem hi) ak
 |cp vs cs hn _ bc=>
  intro ei hd;simp only [Ab.ey,Option.map_eq_some_iff]at hd;obtain⟨cs',ee,rfl⟩:=hd;obtain⟨Z,af⟩:=vF ee;refine .cp vs cs' (by omega) λi v c ay hc=>?_
  have hi:i<cs.length:=by have:=(List.getElem?_eq_some_iff.1 hc).1;omega
  obtain⟨d1,gh,ak⟩:=af i cs[i] (List.getElem?_eq_getElem hi);rw [hc]at gh;cases gh;exact bc i v _ ay (List.getElem?_eq_getElem hi) ak
def cz.ID{M:Mem}{β β':Nat→Option Nat}(gQ:∀r b,β r=some b→β' r=some b){v:Value}{d:D}(h:cz M β v d):cz M β' v d:=by
 induction h with
 |v u x h=>exact .v u x h
 |ptr r off b h=>exact .ptr r off b (gQ r b h)
 |ld r off u=>exact .ld r off u
 |cx r off b u h=>exact .cx r off b u (gQ r b h)
 |eY b off x val hm Z h=>exact .eY b off x val hm Z h
 |full b k n get h=>exact .full b k n get h
 |fn f vs cs hn _ bc=>exact .fn f vs cs hn bc
 |agg vs cs hn Z _ bc=>exact .agg vs cs hn Z bc
 |cp vs cs hn _ bc=>exact .cp vs cs hn bc
def cz.aca{M:Mem}{β β':Nat→Option Nat}{n:Nat}(gQ:∀r,r<n→∀b,β r=some b→β' r=some b){v:Value}{d:D}(h:cz M β v d):Ab.below n d=true→cz M β' v d:=by
 induction h with
 |v u x h=>intro _;exact .v u x h
 |ptr r off b h=>intro hb;exact .ptr r off b (gQ r (by simpa [Ab.below,Nat.blt_eq]using hb) b h)
 |ld r off u=>intro hb;exact .ld r off u
 |cx r off b u h=>intro hb;exact .cx r off b u (gQ r (by simpa [Ab.below,Nat.blt_eq]using hb) b h)
 |eY b off x val hm Z h=>intro _;exact .eY b off x val hm Z h
 |full b k n get h=>intro _;exact .full b k n get h
 |fn f vs cs hn _ bc=>intro hb;exact .fn f vs cs hn λi v c ay hc=>bc i v c ay hc (rK (by simpa [Ab.below]using hb) hc)
 |agg vs cs hn Z _ bc=>intro hb;exact .agg vs cs hn Z λi v c ay hc=>bc i v c ay hc (rK (by simpa [Ab.below]using hb) hc)
 |cp vs cs hn _ bc=>intro hb;exact .cp vs cs hn λi v c ay hc=>bc i v c ay hc (rK (by simpa [Ab.below]using hb) hc)
structure Ctx where
 s7:Mem
 F:Nat→Option Obj
 jg:Nat→Option Nat
 hq:Os×Array (Nat×ByteArray)
 ds:List Deferred:=[]
inductive Loc where
 |slot (s:Nat)
 |cell (r i:Nat)
deriving DecidableEq
def aJ.at(st:aJ):Loc→Option aZ
 |.slot s=>look st.env s
 |.cell r i=>(look st.H r).bind (·[i]?)
def ci(tmps:Array Value)(w:World)(β:Nat→Option Nat):Loc→Value
 |.slot s=>tmps.getD s undef
 |.cell r i=>match β r with
  |some b=>(w.cell? ⟨b,i,none⟩).getD undef
  |none=>undef
def jy:Value→Option Nat
 |.slice (some a) _ _=>some a.block
 |_=>none
def lf(P:Program)(F:Nat→Option Obj)(M:Mem)(w:World)(T:TypeId)(v:Value):Prop:=
 v = .slice none 0 0∨∃b n cap vs T',v = .slice (some ⟨b,0,none⟩) n cap∧n≤cap∧w.heap[b]? = some (.cells ⟨vs⟩ T' (0,0))∧cap*P.cellsOf T≤vs.length∧
  (∀o,n*P.cellsOf T≤o→M b o=none)∧F b=none∧T'=T
def jz(P:Program)(F:Nat→Option Obj)(M:Mem)(w:World)(T:TypeId):Value→Prop
 |.agg cs=>(∀x,x∈marks T→lf P F M w x.2 (cs.getD x.1 undef))∧∀x,x∈marks T→∀y,y∈marks T→x.1≠y.1→∀b,jy (cs.getD x.1 undef)=some b→jy (cs.getD y.1 undef)≠some b
 |v=>lf P F M w T v
def iC(T:TypeId):Value→Nat→Prop
 |.agg cs,b=>∃x,x∈marks T∧jy (cs.getD x.1 undef)=some b
 |v,b=>jy v=some b
def IE (P : Program) : List Nat := ["strconv.ErrSyntax", "strconv.ErrRange"].filterMap P.globalNamed
def IF:Array Value:=((List.range 20).map λi=>Value.int .u64 ((10 ^ i:Nat):Int)).toArray
def qI(P:Program)(F:Nat→Option Obj):Prop:=
 (∀g,g∈IE P→∃cs t kq fF,F g=some (.cells cs t kq)∧cs[0]? = some fF∧(fF = .nilIface∨∃ct qJ,fF = .iface ct qJ))∧
 ∀ g, P.globalNamed "internal/strconv.uint64pow10" = some g → ∃ t kq, F g = some (.cells IF t kq)
def qI.mono{P:Program}{F rL:Nat→Option Obj}(h:qI P F)(dC:∀b bb,F b=some bb→rL b=some bb):qI P rL:=⟨λg hg=>by
 obtain⟨cs,t,kq,fF,Z,af,au⟩:=h.1 g hg;exact⟨cs,t,kq,fF,dC _ _ Z,af,au⟩,λg hg=>by
 obtain⟨t,kq,Z⟩:=h.2 g hg;exact⟨t,kq,dC _ _ Z⟩⟩
def kQ(P:Program)(T:TypeId)(n:Nat)(cs:List aZ):Prop:=∀e,e∈cs→∀r off u,e.d = .cx r off u→liesAt P P.depth T (n / P.cellsOf T) off u 1=true
def acb(P:Program)(T:TypeId)(vs:List Value)(cs:List aZ):Prop:=(∀v,v∈vs→v.oneCell'=true)∧kQ P T vs.length cs
def kQ.sub{P:Program}{T:TypeId}{n:Nat}{cs cs':List aZ}(h:kQ P T n cs)(hs:∀e,e∈cs'→∃bR,bR∈cs∧bR.d=e.d):kQ P T n cs':=λe he r off u hd=>by
 obtain⟨bR,Z,af⟩:=hs e he;exact h bR Z r off u (af.trans hd)
structure bN(P:Program)(K:Ctx)(M:Mem)(β:Nat→Option Nat)(st:aJ)(tmps:Array Value)(w:World):Prop where
 eW:∀l e,st.at l=some e→cz M β (ci tmps w β l) e.d
 own:∀l e T,st.at l=some e→e.own=some T→jz P K.F M w T (ci tmps w β l)
 uniq:∀l cL e a_ T T' b,st.at l=some e→e.own=some T→st.at cL=some a_→a_.own=some T'→
  iC T (ci tmps w β l) b→iC T' (ci tmps w β cL) b→l=cL
 unbox:∀l e T b r cs,st.at l=some e→e.own=some T→iC T (ci tmps w β l) b→look st.H r=some cs→β r≠some b
 box:∀r cs,look st.H r=some cs→∃b vs T,β r=some b∧w.heap[b]? = some (.cells ⟨vs⟩ T (0,0))∧vs.length=cs.length∧(∀o,M b o=none)∧K.F b=none∧acb P T vs cs
 inj:∀r cM b cs cs',look st.H r=some cs→look st.H cM=some cs'→β r=some b→β cM=some b→r=cM
 lt:∀r b,β r=some b→r<st.a8
 mem:∀b o v,M b o=some v→w.cell? ⟨b,o,none⟩=some v
 m0:K.s7.le M
 frame:∀b bb,K.F b=some bb→w.heap[b]? = some bb∧∀o,M b o=K.s7 b o
 h2:∀r b,K.jg r=some b→β r=some b
 iD:qI P K.F
 hq:(w.os,w.output)=K.hq
def aJ.IG{st:aJ}{r i:Nat}{cs:List aZ}(h:look st.H r=some cs):st.at (.cell r i)=cs[i]? := by simp [aJ.at,h]
def yK:∀{l:List D},qD l=true→∀d,d∈l→∀r off u,d ≠ .cx r off u
 |[],h,d,hd=>by cases hd
 |x::l,h,d,hd=>by
  have af:qD l=true:=by cases x<;>first|exact h|cases h
  rcases List.mem_cons.1 hd with rfl|jO
  ·intro r off u e;subst e;cases h
  ·exact yK af d jO
def kQ.IH{P:Program}{T:TypeId}{n r:Nat}{st bZ:aJ}{cs cs':List aZ}(h:kQ P T n cs)(Z:look st.H r=some cs)(af:look bZ.H r=some cs')
 (he:∀l a_,bZ.at l=some a_→∃e,st.at l=some e∧(e.d=a_.d∨∀q off u,a_.d ≠ .cx q off u)):kQ P T n cs':=λe hm q off u hd=>by
 obtain⟨i,hi,rfl⟩:=List.getElem_of_mem hm;obtain⟨bR,g1,g2⟩:=he (.cell r i) cs'[i] (by rw [aJ.IG af];exact List.getElem?_eq_getElem hi)
 rw [aJ.IG Z]at g1;rcases g2 with g2|g2
 ·exact h bR (List.mem_of_getElem? g1) q off u (g2.trans hd)
 ·exact absurd hd (g2 q off u)
def dv{α:Type}(j:Nat)(x:α)(l:List (Nat×α))(i:Nat):look ((j,x)::l) i=if j=i then some x else look l i:=by
 by_cases h:j=i
 ·simp [look,h]
 ·have:Nat.beq j i=false:=by rw [Bool.eq_false_iff];simpa using h
  simp [look,h,this]
def pE{α:Type}(l:List (Nat×α))(t i:Nat):look (del l t) i=if t=i then none else look l i:=by
 induction l with
 |nil=>simp [del,look]
 |cons x l bc=>
  obtain⟨j,x⟩:=x;by_cases h:j=t
  ·subst h;have:Nat.beq j j=true:=by simp
   simp only [del,this,cond_true,bc,dv];by_cases af:j=i<;>simp [af]
  ·have dp:Nat.beq j t=false:=by rw [Bool.eq_false_iff];simpa using h
   simp only [del,dp,cond_false,dv,bc];by_cases af:j=i
   ·subst af;simp [Ne.symm h]
   ·simp [af]
def cell_of_heap{w:World}{b o:Nat}{vs:List Value}{T:TypeId}{nO:Nat×Nat}(h:w.heap[b]? = some (.cells ⟨vs⟩ T nO)):w.cell? ⟨b,o,none⟩=vs[o]? := by
 simp [World.cell?,h]
def lt_of_heap{w:World}{b:Nat}{bb:Obj}(h:w.heap[b]? = some bb):b<w.heap.size:=by
 rcases Nat.lt_or_ge b w.heap.size with dp|dp
 ·exact dp
 ·simp [Array.getElem?_eq_none dp]at h
def lt_of_cell{w:World}{b o:Nat}{v:Value}(h:w.cell? ⟨b,o,none⟩=some v):b<w.heap.size:=by
 unfold World.cell? at h;split at h
 ·rename_i bz;exact lt_of_heap bz
 ·cases h
def qK{w w':World}{b o:Nat}(h:w'.heap[b]? = w.heap[b]?):w'.cell? ⟨b,o,none⟩=w.cell? ⟨b,o,none⟩:=by
 simp [World.cell?,h]
section
variable {P:Program} {K:Ctx} {M M':Mem} {β β':Nat→Option Nat} {st bZ:aJ} {tmps ej:Array Value} {w w':World}
def lf.lt{F:Nat→Option Obj}{T:TypeId}{v:Value}{b:Nat}(h:lf P F M w T v)(hb:jy v=some b):b<w.heap.size:=by
 rcases h with rfl|⟨bK,n,cap,vs,T',rfl,_,bz,_⟩
 ·simp [jy]at hb
 ·simp [jy]at hb;subst hb;exact lt_of_heap bz
def lf.free{F:Nat→Option Obj}{T:TypeId}{v:Value}{b:Nat}(h:lf P F M w T v)(hb:jy v=some b):F b=none:=by
 rcases h with rfl|⟨bK,n,cap,vs,T',rfl,_,bz,_,_,dC,_⟩
 ·simp [jy]at hb
 ·simp [jy]at hb;subst hb;exact dC
def lf.congr{F:Nat→Option Obj}{T:TypeId}{v:Value}(h:lf P F M w T v)(hw:∀b,jy v=some b→w'.heap[b]? = w.heap[b]?)(c7:∀b o,jy v=some b→M' b o=M b o):
 lf P F M' w' T v:=by
 rcases h with rfl|⟨bK,n,cap,vs,T',rfl,Z,bz,af,au,dC⟩
 ·exact .inl rfl
 ·exact .inr ⟨bK,n,cap,vs,T',rfl,Z,(hw bK rfl).trans bz,af,λo aA=>(c7 bK o rfl).trans (au o aA),dC⟩
def lf.at{F:Nat→Option Obj}{T:TypeId}{v:Value}(h:lf P F M w T v):jz P F M w T v:=by
 rcases h with rfl|⟨bK,n,cap,vs,T',rfl,Z,bz,af,au,dC⟩
 ·exact .inl rfl
 ·exact .inr ⟨bK,n,cap,vs,T',rfl,Z,bz,af,au,dC⟩
def lf.vG{F rL:Nat→Option Obj}{T:TypeId}{v:Value}(h:lf P F M w T v)(dC:∀b,jy v=some b→F b=none→rL b=none):lf P rL M w T v:=by
 rcases h with rfl|⟨bK,n,cap,vs,T',rfl,Z,bz,af,au,aQ,bj⟩
 ·exact .inl rfl
 ·exact .inr ⟨bK,n,cap,vs,T',rfl,Z,bz,af,au,dC bK rfl aQ,bj⟩
def jz.cases{F:Nat→Option Obj}{T:TypeId}{v:Value}(h:jz P F M w T v):
 (∃cs,v = .agg cs)∨(lf P F M w T v∧∀b,iC T v b↔jy v=some b):=by
 cases v<;>first
  |exact .inl ⟨_,rfl⟩
  |exact .inr ⟨h,λ_=>Iff.rfl⟩
def jz.lt{F:Nat→Option Obj}{T:TypeId}{v:Value}{b:Nat}(h:jz P F M w T v)(hb:iC T v b):b<w.heap.size:=by
 rcases h.cases with⟨cs,rfl⟩|⟨Z,af⟩
 ·obtain⟨x,hx,hb⟩:=hb;exact(h.1 x hx).lt hb
 ·exact Z.lt ((af b).1 hb)
def jz.free{F:Nat→Option Obj}{T:TypeId}{v:Value}{b:Nat}(h:jz P F M w T v)(hb:iC T v b):F b=none:=by
 rcases h.cases with⟨cs,rfl⟩|⟨Z,af⟩
 ·obtain⟨x,hx,hb⟩:=hb;exact(h.1 x hx).free hb
 ·exact Z.free ((af b).1 hb)
def jz.congr{F:Nat→Option Obj}{T:TypeId}{v:Value}(h:jz P F M w T v)(hw:∀b,iC T v b→w'.heap[b]? = w.heap[b]?)(c7:∀b o,iC T v b→M' b o=M b o):
 jz P F M' w' T v:=by
 rcases h.cases with⟨cs,rfl⟩|⟨Z,af⟩
 ·exact⟨λx hx=>(h.1 x hx).congr (λb hb=>hw b ⟨x,hx,hb⟩) (λb o hb=>c7 b o ⟨x,hx,hb⟩),h.2⟩
 ·exact(Z.congr (λb hb=>hw b ((af b).2 hb)) (λb o hb=>c7 b o ((af b).2 hb))).at
def jz.vG{F rL:Nat→Option Obj}{T:TypeId}{v:Value}(h:jz P F M w T v)(dC:∀b,iC T v b→F b=none→rL b=none):jz P rL M w T v:=by
 rcases h.cases with⟨cs,rfl⟩|⟨Z,af⟩
 ·exact⟨λx hx=>(h.1 x hx).vG λb hb=>dC b ⟨x,hx,hb⟩,h.2⟩
 ·exact(Z.vG λb hb=>dC b ((af b).2 hb)).at
def jz.bL{F:Nat→Option Obj}{T:TypeId}{v:Value}{s7:Mem}{k n:Nat}{get:Nat→V}(h:jz P F M w T v){jg:Nat→Option Nat}(ay:cz s7 jg v (.v (.bL k n get))):lf P F M w T v:=by
 cases ay with|v _ _ ay=>cases ay<;>exact h
def II(h:bN P K M β st tmps w){r i:Nat}{cs:List aZ}{e:aZ}(ak:look st.H r=some cs)(hi:cs[i]? = some e):
 ∃b vs T v,β r=some b∧w.heap[b]? = some (.cells ⟨vs⟩ T (0,0))∧vs[i]? = some v∧ci tmps w β (.cell r i)=v:=by
 obtain⟨b,vs,T,hb,bz,ag,_⟩:=h.box r cs ak;have IJ:i<cs.length:=(List.getElem?_eq_some_iff.1 hi).1;have ay:vs[i]? = some vs[i]:=List.getElem?_eq_getElem (by omega)
 exact⟨b,vs,T,_,hb,bz,ay,by simp only [ci,hb,cell_of_heap bz,ay,Option.getD_some]⟩
def bN.yL(h:bN P K M β st tmps w){r b:Nat}{cs:List aZ}(ak:look st.H r=some cs)(hb:β r=some b):b<w.heap.size:=by
 obtain⟨bK,vs,T,bT,bz,_⟩:=h.box r cs ak;rw [hb]at bT;cases bT;exact lt_of_heap bz
def bN.free(h:bN P K M β st tmps w)(b:Nat)(dC:K.F b=none)(s8:∀r cs,look st.H r=some cs→β r≠some b)
 (fL:∀l e T,st.at l=some e→e.own=some T→¬ iC T (ci tmps w β l) b)
 (hw:∀bK,bK≠b→bK<w.heap.size→w'.heap[bK]? = w.heap[bK]?) (c7:M.le M') (CO:∀bK o,bK≠b→M' bK o=M bK o)
 (CP:∀o v,M' b o=some v→w'.cell? ⟨b,o,none⟩=some v) (nP:(w'.os,w'.output)=(w.os,w.output):=by rfl):bN P K M' β st tmps w':=by
 have ck:∀l e,st.at l=some e→ci tmps w' β l=ci tmps w β l:=by
  intro l e ag;cases l with
  |slot s=>rfl
  |cell r i=>
   simp only [aJ.at]at ag;cases ak:look st.H r with
   |none=>simp [ak]at ag
   |some cs=>
    obtain⟨b4,vs,T,cN,bz,_⟩:=h.box r cs ak;have ef:b4≠b:=λe=>s8 r cs ak (e ▸ cN)
    simp only [ci,cN];rw [qK (hw b4 ef (lt_of_heap bz))]
 constructor
 ·intro l e ag;rw [ck l e ag];exact(h.eW l e ag).mono c7
 ·intro l e T ag aS;rw [ck l e ag];refine(h.own l e T ag aS).congr (λb4 cN=>hw b4 ?_ ((h.own l e T ag aS).lt cN)) (λb4 o cN=>CO b4 o ?_) <;>
  ·rintro rfl;exact fL l e T ag aS cN
 ·intro l cL e a_ T T' b4 ag aS cR d' hb bT;rw [ck l e ag]at hb;rw [ck cL a_ cR]at bT;exact h.uniq l cL e a_ T T' b4 ag aS cR d' hb bT
 ·intro l e T b4 r cs ag aS hb ak;rw [ck l e ag]at hb;exact h.unbox l e T b4 r cs ag aS hb ak
 ·intro r cs ak;obtain⟨b4,vs,T,cN,bz,Z,af,au⟩:=h.box r cs ak;have ef:b4≠b:=λe=>s8 r cs ak (e ▸ cN)
  exact⟨b4,vs,T,cN,(hw b4 ef (lt_of_heap bz)).trans bz,Z,λo=>(CO b4 o ef).trans (af o),au⟩
 ·exact h.inj
 ·exact h.lt
 ·intro b4 o v ay;by_cases ef:b4=b
  ·subst ef;exact CP o v ay
  ·rw [CO b4 o ef]at ay;have:=h.mem b4 o v ay
   rw [qK (hw b4 ef (lt_of_cell this))];exact this
 ·exact Mem.le_trans h.m0 c7
 ·intro b4 bb cN;have ef:b4≠b:=by rintro rfl;rw [dC]at cN;cases cN
  obtain⟨Z,af⟩:=h.frame b4 bb cN;exact⟨(hw b4 ef (lt_of_heap Z)).trans Z,λo=>(CO b4 o ef).trans (af o)⟩
 ·exact h.h2
 ·exact h.iD
 ·exact nP.trans h.hq
def bN.grow(h:bN P K M β st tmps w)(hw:∀b,b<w.heap.size→w'.heap[b]? = w.heap[b]?)(nP:(w'.os,w'.output)=(w.os,w.output):=by rfl):bN P K M β st tmps w':=by
 have hn:∀b,w.heap.size≤b→K.F b=none:=by
  intro b hb;cases dC:K.F b with
  |none=>rfl
  |some bb=>have:=lt_of_heap (h.frame b bb dC).1;omega
 refine h.free w.heap.size (hn _ (Nat.le_refl _)) ?_ ?_ (λb _ hb=>hw b hb) (Mem.le_refl _) (λ_ _ _=>rfl) ?_ nP
 ·intro r cs ak hb;have:=h.yL ak hb;omega
 ·intro l e T ag aS hb;have:=(h.own l e T ag aS).lt hb;omega
 ·intro o v ay;have:=lt_of_cell (h.mem _ _ _ ay);omega
def bN.sub(h:bN P K M β st tmps w)(hn:bZ.a8=st.a8)
 (he:∀l a_,bZ.at l=some a_→∃e,st.at l=some e∧e.d=a_.d∧∀T,a_.own=some T→e.own=some T)
 (eL:∀r cs',look bZ.H r=some cs'→∃cs,look st.H r=some cs∧cs.length=cs'.length):bN P K M β bZ tmps w:=by
 constructor
 ·intro l a_ ag;obtain⟨e,Z,af,_⟩:=he l a_ ag;rw [←af];exact h.eW l e Z
 ·intro l a_ T ag aS;obtain⟨e,Z,_,au⟩:=he l a_ ag;exact h.own l e T Z (au T aS)
 ·intro l cL e a_ T T' b ag aS cR d';obtain⟨e1,Z,_,au⟩:=he l e ag;obtain⟨e2,mv,_,vH⟩:=he cL a_ cR;exact h.uniq l cL e1 e2 T T' b Z (au T aS) mv (vH T' d')
 ·intro l e T b r cs ag aS hb ak;obtain⟨e1,Z,_,au⟩:=he l e ag;obtain⟨s9,hr,_⟩:=eL r cs ak;exact h.unbox l e1 T b r s9 Z (au T aS) hb hr
 ·intro r cs ak;obtain⟨s9,hr,hlen⟩:=eL r cs ak;obtain⟨b,vs,T,Z,af,au,aQ,bj,cb,de⟩:=h.box r s9 hr
  exact⟨b,vs,T,Z,af,au.trans hlen,aQ,bj,cb,de.IH hr ak λl a_ ag=>by
   obtain⟨e,g1,g2,_⟩:=he l a_ ag;exact⟨e,g1,.inl g2⟩⟩
 ·intro r cM b cs cs' ak e6 hb bT;obtain⟨c1,Z,_⟩:=eL r cs ak;obtain⟨c2,af,_⟩:=eL cM cs' e6;exact h.inj r cM b c1 c2 Z af hb bT
 ·intro r b hb;rw [hn];exact h.lt r b hb
 ·exact h.mem
 ·exact h.m0
 ·exact h.frame
 ·exact h.h2
 ·exact h.iD
 ·exact h.hq
def bN.acd(h:bN P K M β st tmps w)(hn:bZ.a8=st.a8)
 (he:∀l a_,bZ.at l=some a_→∃e,st.at l=some e∧((e.d=a_.d∧∀T,a_.own=some T→e.own=some T)∨∃k g,e.d = .v (.nI k g)∧a_.d = .v (.bL k 0 g)))
 (eL:∀r cs',look bZ.H r=some cs'→∃cs,look st.H r=some cs∧cs.length=cs'.length):bN P K M β bZ tmps w:=by
 have oF:∀l e k g,st.at l=some e→e.d = .v (.nI k g)→ci tmps w β l = .slice none 0 0:=by
  intro l e k g ag hd;have:=h.eW l e ag
  rw [hd]at this;generalize ci tmps w β l=u at this ⊢
  cases this with
  |v u x hx=>cases hx;rfl
 constructor
 ·intro l a_ ag;obtain⟨e,Z,⟨af,_⟩|⟨k,g,af,au⟩⟩:=he l a_ ag
  ·rw [←af];exact h.eW l e Z
  ·rw [au,oF l e k g Z af];exact .v _ _ (.lb k g)
 ·intro l a_ T ag aS;obtain⟨e,Z,⟨_,au⟩|⟨k,g,af,au⟩⟩:=he l a_ ag
  ·exact h.own l e T Z (au T aS)
  ·rw [oF l e k g Z af];exact .inl rfl
 ·intro l cL e a_ T T' b ag aS cR d' hb bT;obtain⟨e1,Z,⟨_,au⟩|⟨k,g,af,au⟩⟩:=he l e ag
  ·obtain⟨e2,mv,⟨_,vH⟩|⟨k,g,ace,vH⟩⟩:=he cL a_ cR
   ·exact h.uniq l cL e1 e2 T T' b Z (au T aS) mv (vH T' d') hb bT
   ·rw [oF cL e2 k g mv ace]at bT;cases bT
  ·rw [oF l e1 k g Z af]at hb;cases hb
 ·intro l e T b r cs ag aS hb ak;obtain⟨s9,hr,_⟩:=eL r cs ak;obtain⟨e1,Z,⟨_,au⟩|⟨k,g,af,au⟩⟩:=he l e ag
  ·exact h.unbox l e1 T b r s9 Z (au T aS) hb hr
  ·rw [oF l e1 k g Z af]at hb;cases hb
 ·intro r cs ak;obtain⟨s9,hr,hlen⟩:=eL r cs ak;obtain⟨b,vs,T,Z,af,au,aQ,bj,cb,de⟩:=h.box r s9 hr
  exact⟨b,vs,T,Z,af,au.trans hlen,aQ,bj,cb,de.IH hr ak λl a_ ag=>by
   obtain⟨e,g1,⟨g2,_⟩|⟨k,g,_,g3⟩⟩:=he l a_ ag
   ·exact⟨e,g1,.inl g2⟩
   ·exact⟨e,g1,.inr λq off u aE=>by rw [g3]at aE;cases aE⟩⟩
 ·intro r cM b cs cs' ak e6 hb bT;obtain⟨c1,Z,_⟩:=eL r cs ak;obtain⟨c2,af,_⟩:=eL cM cs' e6;exact h.inj r cM b c1 c2 Z af hb bT
 ·intro r b hb;rw [hn];exact h.lt r b hb
 ·exact h.mem
 ·exact h.m0
 ·exact h.frame
 ·exact h.h2
 ·exact h.iD
 ·exact h.hq
structure lZ(P:Program)(K:Ctx)(M:Mem)(β:Nat→Option Nat)(st:aJ)(tmps:Array Value)(w:World)(l0:Loc)(v:Value)(T:TypeId):Prop where
 own:jz P K.F M w T v
 apart:∀l e T' b,st.at l=some e→e.own=some T'→l≠l0→iC T v b→¬ iC T' (ci tmps w β l) b
 unbox:∀b r cs,iC T v b→look st.H r=some cs→β r≠some b
def bN.put(h:bN P K M β st tmps w){t:Nat}{v:Value}{e:aZ}(bU:t<tmps.size)(ay:cz M β v e.d)
 (aA:∀T,e.own=some T→lZ P K M β st tmps w (.slot t) v T):
 bN P K M β {st with env:=(t,e)::st.env} (tmps.setIfInBounds t v) w:=by
 have ff:∀l,({st with env:=(t,e)::st.env}:aJ).at l=if l = .slot t then some e else st.at l:=by
  intro l;cases l with
  |slot s=>
   simp only [aJ.at,dv,Loc.slot.injEq];by_cases hs:t=s
   ·subst hs;simp
   ·simp [hs,Ne.symm hs]
  |cell r i=>simp [aJ.at]
 have ck:∀l,ci (tmps.setIfInBounds t v) w β l=if l = .slot t then v else ci tmps w β l:=by
  intro l;cases l with
  |slot s=>
   simp only [ci,Loc.slot.injEq];by_cases hs:s=t
   ·subst hs;simp [bU]
   ·simp [hs,Ne.symm hs]
  |cell r i=>simp [ci]
 constructor
 ·intro l e1 ag;rw [ff]at ag;rw [ck];by_cases h0:l = .slot t
  ·simp only [h0,if_true]at ag ⊢;cases ag;exact ay
  ·simp only [h0,if_false]at ag ⊢;exact h.eW l e1 ag
 ·intro l e1 T ag aS;rw [ff]at ag;rw [ck];by_cases h0:l = .slot t
  ·simp only [h0,if_true]at ag ⊢;cases ag;exact(aA T aS).own
  ·simp only [h0,if_false]at ag ⊢;exact h.own l e1 T ag aS
 ·intro l cL e1 e2 T T' b ag aS cR d' hb bT;rw [ff]at ag cR;rw [ck]at hb bT;by_cases h0:l = .slot t<;>by_cases rM:cL = .slot t
  ·rw [h0,rM]
  ·simp only [h0,rM,if_true,if_false]at ag cR hb bT;cases ag;exact absurd bT ((aA T aS).apart cL e2 T' b cR d' rM hb)
  ·simp only [h0,rM,if_true,if_false]at ag cR hb bT;cases cR;exact absurd hb ((aA T' d').apart l e1 T b ag aS h0 bT)
  ·simp only [h0,rM,if_false]at ag cR hb bT;exact h.uniq l cL e1 e2 T T' b ag aS cR d' hb bT
 ·intro l e1 T b r cs ag aS hb ak;rw [ff]at ag;rw [ck]at hb;by_cases h0:l = .slot t
  ·simp only [h0,if_true]at ag hb;cases ag;exact(aA T aS).unbox b r cs hb ak
  ·simp only [h0,if_false]at ag hb;exact h.unbox l e1 T b r cs ag aS hb ak
 ·exact h.box
 ·exact h.inj
 ·exact h.lt
 ·exact h.mem
 ·exact h.m0
 ·exact h.frame
 ·exact h.h2
 ·exact h.iD
 ·exact h.hq
def bN.drop(h:bN P K M β st tmps w){t:Nat}{v:Value}:bN P K M β {st with env:=del st.env t} (tmps.setIfInBounds t v) w:=by
 have ff:∀l,({st with env:=del st.env t}:aJ).at l=if l = .slot t then none else st.at l:=by
  intro l;cases l with
  |slot s=>
   simp only [aJ.at,pE,Loc.slot.injEq];by_cases hs:t=s
   ·subst hs;simp
   ·simp [hs,Ne.symm hs]
  |cell r i=>simp [aJ.at]
 have Z:bN P K M β {st with env:=del st.env t} tmps w:=by
  refine h.sub rfl (λl a_ ag=>?_) (λr cs ak=>⟨cs,ak,rfl⟩)
  rw [ff]at ag;by_cases h0:l = .slot t
  ·simp [h0]at ag
  ·simp only [h0,if_false]at ag;exact⟨a_,ag,rfl,λ_ h=>h⟩
 have ck:∀l e,({st with env:=del st.env t}:aJ).at l=some e→ci (tmps.setIfInBounds t v) w β l=ci tmps w β l:=by
  intro l e ag;cases l with
  |slot s=>
   have hs:t≠s:=by rintro rfl;simp [aJ.at,pE]at ag
   simp [ci,hs]
  |cell r i=>rfl
 constructor
 ·intro l e ag;rw [ck l e ag];exact Z.eW l e ag
 ·intro l e T ag aS;rw [ck l e ag];exact Z.own l e T ag aS
 ·intro l cL e a_ T T' b ag aS cR d' hb bT;rw [ck l e ag]at hb;rw [ck cL a_ cR]at bT;exact Z.uniq l cL e a_ T T' b ag aS cR d' hb bT
 ·intro l e T b r cs ag aS hb ak;rw [ck l e ag]at hb;exact Z.unbox l e T b r cs ag aS hb ak
 ·exact Z.box
 ·exact Z.inj
 ·exact Z.lt
 ·exact Z.mem
 ·exact Z.m0
 ·exact Z.frame
 ·exact Z.h2
 ·exact Z.iD
 ·exact Z.hq
def bN.acf(h:bN P K M β st tmps w){dy n':Nat}(ly:∀b,β dy≠some b)(acg:dy<n')(aoh:st.a8≤n'){vs:List Value}{T:TypeId}{cs:List aZ}(hlen:vs.length=cs.length)(gi:∀v,v∈vs→v.oneCell'=true)(hlies:kQ P T vs.length cs)
 (ay:∀(i:Nat) v e,vs[i]? = some v→cs[i]? = some e→cz M β v e.d∧∀T,e.own=some T→v = .slice none 0 0):
 bN P K M (λr=>if r=dy then some w.heap.size else β r) {st with H:=(dy,cs)::st.H,a8:=n'} tmps {w with heap:=w.heap.push (.cells ⟨vs⟩ T (0,0))}:=by
 have R2:∀r b,β r=some b→r≠dy:=λr b hb e=>ly b (e ▸ hb)
 have cN:∀r b,β r=some b→(λr=>if r=dy then some w.heap.size else β r) r=some b:=by
  intro r b hb;simp [R2 r b hb,hb]
 have fM:∀{v d},cz M β v d→cz M (λr=>if r=dy then some w.heap.size else β r) v d:=by
  intro v d hd;refine hd.ID ?_;exact cN
 have hg:=h.grow (w':={w with heap:=w.heap.push (.cells ⟨vs⟩ T (0,0))}) (λb hb=>by simp [Array.getElem?_push,Nat.ne_of_lt hb])
 have hold:∀r cs,r≠dy→look ((dy,cs)::st.H) r=look st.H r:=λr cs ef=>by simp [dv,Ne.symm ef]
 have ach:∀r cs,look st.H r=some cs→r≠dy:=λr cs ak=>by obtain⟨b,_,_,hb,_⟩:=h.box r cs ak;exact R2 r b hb
 have ck:∀l e,st.at l=some e→ci tmps {w with heap:=w.heap.push (.cells ⟨vs⟩ T (0,0))} (λr=>if r=dy then some w.heap.size else β r) l=ci tmps {w with heap:=w.heap.push (.cells ⟨vs⟩ T (0,0))} β l:=by
  intro l e ag;cases l with
  |slot s=>rfl
  |cell r i=>
   simp only [aJ.at]at ag;cases ak:look st.H r with
   |none=>simp [ak]at ag
   |some c=>simp [ci,ach r c ak]
 have R3:∀i e,cs[i]? = some e→∃v,vs[i]? = some v∧ci tmps {w with heap:=w.heap.push (.cells ⟨vs⟩ T (0,0))} (λr=>if r=dy then some w.heap.size else β r) (.cell dy i)=v:=by
  intro i e hi;have IJ:i<cs.length:=(List.getElem?_eq_some_iff.1 hi).1;have eF:vs[i]? = some vs[i]:=List.getElem?_eq_getElem (by omega)
  exact⟨_,eF,by simp [ci,World.cell?,hlen ▸ IJ]⟩
 have ff:∀l e,({st with H:=(dy,cs)::st.H,a8:=n'}:aJ).at l=some e→(∃i,l = .cell dy i∧cs[i]? = some e)∨(st.at l=some e∧∀i,l ≠ .cell dy i):=by
  intro l e ag;cases l with
  |slot s=>exact .inr ⟨ag,by simp⟩
  |cell r i=>
   by_cases ak:r=dy
   ·subst ak;simp [aJ.at,dv]at ag;exact .inl ⟨i,rfl,ag⟩
   ·refine .inr ⟨?_,by simp [ak]⟩
    simpa [aJ.at,dv,Ne.symm ak]using ag
 have jP:∀l e T',({st with H:=(dy,cs)::st.H,a8:=n'}:aJ).at l=some e→e.own=some T'→(∃i,l = .cell dy i)→ci tmps {w with heap:=w.heap.push (.cells ⟨vs⟩ T (0,0))} (λr=>if r=dy then some w.heap.size else β r) l = .slice none 0 0:=by
  rintro l e T' ag aS ⟨i,rfl⟩
  have hi:cs[i]? = some e:=by simpa [aJ.at,dv]using ag
  obtain⟨v,Z,af⟩:=R3 i e hi;rw [af];exact(ay i v e Z hi).2 T' aS
 constructor
 ·intro l e ag;rcases ff l e ag with⟨i,rfl,hi⟩|⟨aA,_⟩
  ·obtain⟨v,Z,af⟩:=R3 i e hi;rw [af];exact fM (ay i v e Z hi).1
  ·rw [ck l e aA];exact fM (hg.eW l e aA)
 ·intro l e T' ag aS;rcases ff l e ag with⟨i,kr,hi⟩|⟨aA,_⟩
  ·rw [jP l e T' ag aS ⟨i,kr⟩];exact .inl rfl
  ·rw [ck l e aA];exact hg.own l e T' aA aS
 ·intro l cL e a_ gB oG b ag aS cR d' hb bT;rcases ff l e ag with⟨i,kr,hi⟩|⟨aA,_⟩
  ·rw [jP l e gB ag aS ⟨i,kr⟩]at hb;cases hb
  ·rcases ff cL a_ cR with⟨i,kr,hi⟩|⟨kt,_⟩
   ·rw [jP cL a_ oG cR d' ⟨i,kr⟩]at bT;cases bT
   ·rw [ck l e aA]at hb;rw [ck cL a_ kt]at bT;exact hg.uniq l cL e a_ gB oG b aA aS kt d' hb bT
 ·intro l e gB b r c ag aS hb ak;rcases ff l e ag with⟨i,kr,hi⟩|⟨aA,_⟩
  ·rw [jP l e gB ag aS ⟨i,kr⟩]at hb;cases hb
  ·rw [ck l e aA]at hb
   have c':b<w.heap.size:=by
    have Z:=(h.own l e gB aA aS)
    have af:ci tmps {w with heap:=w.heap.push (.cells ⟨vs⟩ T (0,0))} β l=ci tmps w β l:=by
     cases l with
     |slot s=>rfl
     |cell r i=>
      simp only [aJ.at]at aA;cases ak:look st.H r with
      |none=>simp [ak]at aA
      |some c=>
       obtain⟨b4,m9,oG,fp,bz,_⟩:=h.box r c ak;simp only [ci,fp];rw [qK (w:=w) (by simp [Array.getElem?_push,Nat.ne_of_lt (lt_of_heap bz)])]
    rw [af]at hb;exact Z.lt hb
   by_cases jh:r=dy
   ·subst jh;simp;omega
   ·simp [jh];exact hg.unbox l e gB b r c aA aS hb (by simpa [dv,Ne.symm jh]using ak)
 ·intro r c ak;by_cases jh:r=dy
  ·subst jh;simp [dv]at ak;subst ak;refine⟨w.heap.size,vs,T,by simp,by simp,hlen,λo=>?_,?_,gi,hlies⟩
   ·cases hm:M w.heap.size o with
    |none=>rfl
    |some v=>have:=lt_of_cell (h.mem _ _ _ hm);omega
   ·cases dC:K.F w.heap.size with
    |none=>rfl
    |some bb=>have:=lt_of_heap (h.frame _ bb dC).1;omega
  ·obtain⟨b,m9,gB,Z,af,au⟩:=hg.box r c (by simpa [dv,Ne.symm jh]using ak)
   exact⟨b,m9,gB,by simp [jh,Z],af,au⟩
 ·intro r cM b c ht ak e6 hb bT;by_cases jh:r=dy<;>by_cases vI:cM=dy
  ·rw [jh,vI]
  ·simp [jh]at hb;simp [vI]at bT;have:=h.yL (by simpa [dv,Ne.symm vI]using e6) bT
   omega
  ·simp [vI]at bT;simp [jh]at hb;have:=h.yL (by simpa [dv,Ne.symm jh]using ak) hb
   omega
  ·simp [jh]at hb;simp [vI]at bT;exact h.inj r cM b c ht (by simpa [dv,Ne.symm jh]using ak) (by simpa [dv,Ne.symm vI]using e6) hb bT
 ·intro r b hb;by_cases jh:r=dy
  ·subst jh;exact acg
  ·simp [jh]at hb;have:=h.lt r b hb;simp;omega
 ·exact hg.mem
 ·exact hg.m0
 ·exact hg.frame
 ·intro r b hb;exact cN r b (h.h2 r b hb)
 ·exact hg.iD
 ·exact hg.hq
end
section
variable {P:Program} {K:Ctx} {M M':Mem} {β β':Nat→Option Nat} {st bZ:aJ} {tmps ej:Array Value} {w w':World}
def bN.CQ(h:bN P K M β st tmps w){r b:Nat}{cs:List aZ}(ak:look st.H r=some cs)(hb:β r=some b){vs vs':List Value}{T:TypeId}
 (bz:w.heap[b]? = some (.cells ⟨vs⟩ T (0,0))) {cs':List aZ} (hlen:vs'.length=cs'.length) (gi:∀v,v∈vs'→v.oneCell'=true) (hlies:kQ P T vs.length cs→kQ P T vs'.length cs') (ee:cs'.length=cs.length)
 (m':w'.heap[b]? = some (.cells ⟨vs'⟩ T (0,0))) (yM:∀bK,bK≠b→w'.heap[bK]? = w.heap[bK]?) (i0:Nat)
 (ay:∀(i:Nat) v e,vs'[i]? = some v→cs'[i]? = some e→cz M β v e.d∧∀T,e.own=some T→
  (i≠i0∧(∃bR,cs[i]? = some bR∧bR.own=some T)∧vs[i]? = some v)∨(i=i0∧lZ P K M β st tmps w (.cell r i0) v T)) (nP:(w'.os,w'.output)=(w.os,w.output):=by rfl):
 bN P K M β {st with H:=(r,cs')::st.H} tmps w':=by
 have CR:K.F b=none∧∀o,M b o=none:=by
  obtain⟨b4,_,_,Z,_,_,af,au,_⟩:=h.box r cs ak;rw [hb]at Z;cases Z;exact⟨au,af⟩
 have aci:kQ P T vs.length cs:=by
  obtain⟨b4,m9,gB,Z,af,_,_,_,_,au⟩:=h.box r cs ak;rw [hb]at Z;cases Z;rw [bz]at af;cases af;exact au
 have hQ:∀bK,bK≠b→∀o,w'.cell? ⟨bK,o,none⟩=w.cell? ⟨bK,o,none⟩:=λbK ef o=>qK (yM bK ef)
 have ef:∀cM c bK,look st.H cM=some c→β cM=some bK→cM≠r→bK≠b:=λcM c bK e6 bT ef e=>ef (h.inj cM r bK c cs e6 ak bT (e ▸ hb))
 have ff:∀l e,({st with H:=(r,cs')::st.H}:aJ).at l=some e→(∃i v,l = .cell r i∧cs'[i]? = some e∧vs'[i]? = some v∧ci tmps w' β l=v)∨(st.at l=some e∧ci tmps w' β l=ci tmps w β l∧∀i,l ≠ .cell r i):=by
  intro l e ag;cases l with
  |slot s=>exact .inr ⟨ag,rfl,by simp⟩
  |cell cM i=>
   by_cases gR:cM=r
   ·subst gR;simp [aJ.at,dv]at ag;have hi:i<cs'.length:=(List.getElem?_eq_some_iff.1 ag).1;have eF:vs'[i]? = some vs'[i]:=List.getElem?_eq_getElem (by omega)
    exact .inl ⟨i,_,rfl,ag,eF,by simp only [ci,hb,cell_of_heap m',eF,Option.getD_some]⟩
   ·have cR:st.at (.cell cM i)=some e:=by simpa [aJ.at,dv,Ne.symm gR]using ag
    refine .inr ⟨cR,?_,by simp [gR]⟩
    simp only [aJ.at]at cR;cases e6:look st.H cM with
    |none=>simp [e6]at cR
    |some c=>
     obtain⟨b4,_,_,cN,_⟩:=h.box cM c e6;simp only [ci,cN];rw [hQ b4 (ef cM c b4 e6 cN gR)]
 have fL:∀l e T,({st with H:=(r,cs')::st.H}:aJ).at l=some e→e.own=some T→
  (l ≠ .cell r i0∧(∃bR,st.at l=some bR∧bR.own=some T)∧ci tmps w' β l=ci tmps w β l)∨(l = .cell r i0∧lZ P K M β st tmps w (.cell r i0) (ci tmps w' β l) T):=by
  intro l e gB ag aS;rcases ff l e ag with⟨i,v,rfl,hi,eF,ck⟩|⟨aA,ck,il⟩
  ·rcases(ay i v e eF hi).2 gB aS with⟨acj,⟨bR,IK,ku⟩,hold⟩|⟨rfl,hn⟩
   ·refine .inl ⟨by simp [acj],⟨bR,by simp [aJ.at,ak,IK],ku⟩,?_⟩
    rw [ck];simp only [ci,hb,cell_of_heap bz,hold,Option.getD_some]
   ·exact .inr ⟨rfl,by rw [ck];exact hn⟩
  ·exact .inl ⟨il i0,⟨e,aA,aS⟩,ck⟩
 have eL:∀cM c,look ((r,cs')::st.H) cM=some c→∃ht,look st.H cM=some ht:=by
  intro cM c hc;by_cases gR:r=cM
  ·exact⟨cs,gR ▸ ak⟩
  ·exact⟨c,by simpa [dv,gR]using hc⟩
 constructor
 ·intro l e ag;rcases ff l e ag with⟨i,v,rfl,hi,eF,ck⟩|⟨aA,ck,il⟩
  ·rw [ck];exact(ay i v e eF hi).1
  ·rw [ck];exact h.eW l e aA
 ·intro l e gB ag aS;rcases fL l e gB ag aS with⟨_,⟨bR,h0,ku⟩,ck⟩|⟨rfl,hn⟩
  ·rw [ck];refine(h.own l bR gB h0 ku).congr (λb4 cN=>yM b4 ?_) (λ_ _ _=>rfl)
   rintro rfl
   exact h.unbox l bR gB b4 r cs h0 ku cN ak hb
  ·refine hn.own.congr (λb4 cN=>yM b4 ?_) (λ_ _ _=>rfl)
   rintro rfl
   exact hn.unbox b4 r cs cN ak hb
 ·intro l cL e a_ gB oG b4 ag aS cR d' cN s';rcases fL l e gB ag aS with⟨hl0,⟨bR,h0,ku⟩,ck⟩|⟨rfl,hn⟩<;>rcases fL cL a_ oG cR d' with⟨ack,⟨vJ,rM,yN⟩,pF⟩|⟨rfl,CS⟩
  ·rw [ck]at cN;rw [pF]at s';exact h.uniq l cL bR vJ gB oG b4 h0 ku rM yN cN s'
  ·rw [ck]at cN;exact absurd cN (CS.apart l bR gB b4 h0 ku hl0 s')
  ·rw [pF]at s';exact absurd s' (hn.apart cL vJ oG b4 rM yN ack cN)
  ·rfl
 ·intro l e gB b4 cM c ag aS cN e6;obtain⟨ht,jA⟩:=eL cM c e6;rcases fL l e gB ag aS with⟨_,⟨bR,h0,ku⟩,ck⟩|⟨rfl,hn⟩
  ·rw [ck]at cN;exact h.unbox l bR gB b4 cM ht h0 ku cN jA
  ·exact hn.unbox b4 cM ht cN jA
 ·intro cM c e6;by_cases gR:r=cM
  ·subst gR;simp [dv]at e6;subst e6;exact⟨b,vs',T,hb,m',hlen,CR.2,CR.1,gi,hlies aci⟩
  ·have im:look st.H cM=some c:=by simpa [dv,gR]using e6
   obtain⟨b4,m9,gB,Z,af,au⟩:=h.box cM c im;exact⟨b4,m9,gB,Z,(yM b4 (ef cM c b4 im Z (Ne.symm gR))).trans af,au⟩
 ·intro ah ao b4 c1 c2 hr im cN fp;obtain⟨R4,Z⟩:=eL ah c1 hr;obtain⟨R5,af⟩:=eL ao c2 im;exact h.inj ah ao b4 R4 R5 Z af cN fp
 ·exact h.lt
 ·intro b4 o v hm;by_cases pG:b4=b
  ·subst pG;rw [CR.2 o]at hm;cases hm
  ·rw [hQ b4 pG];exact h.mem b4 o v hm
 ·exact h.m0
 ·intro b4 bb dC;have pG:b4≠b:=by rintro rfl;rw [CR.1]at dC;cases dC
  obtain⟨Z,af⟩:=h.frame b4 bb dC;exact⟨(yM b4 pG).trans Z,af⟩
 ·exact h.h2
 ·exact h.iD
 ·exact nP.trans h.hq
def mw:∀(l:List Nat) (env:List (Nat×aZ)) (s:Nat),
 look (gu l env) s=if s∈l then(look env s).map (λe=>{e with own:=none})else look env s
 |[],env,s=>by simp [gu]
 |t::l,env,s=>by
  have bc:=mw l env s;simp only [gu];cases bU:look env t with
  |none=>
   simp only [bc];by_cases hs:s=t
   ·subst hs;simp [bU]
   ·simp [hs]
  |some e=>
   simp only [dv];by_cases hs:t=s
   ·subst hs;simp [bU]
   ·simp [hs,Ne.symm hs,bc]
def bN.gI(h:bN P K M β st tmps w)(l:List Nat):bN P K M β {st with env:=gu l st.env} tmps w:=by
 refine h.sub rfl (λgv a_ ag=>?_) (λr cs ak=>⟨cs,ak,rfl⟩)
 cases gv with
 |slot s=>
  simp only [aJ.at,mw]at ag ⊢;by_cases hs:s∈l
  ·simp only [hs,if_true,Option.map_eq_some_iff]at ag;obtain⟨e,he,rfl⟩:=ag;exact⟨e,he,rfl,by simp⟩
  ·simp only [hs,if_false]at ag;exact⟨a_,ag,rfl,λ_ h=>h⟩
 |cell r i=>exact⟨a_,ag,rfl,λ_ h=>h⟩
def bN.hand(h:bN P K M β st tmps w){s:Nat}{e:aZ}{T:TypeId}(hs:look st.env s=some e)(aS:e.own=some T)(l0:Loc):
 lZ P K M β {st with env:=gu [s] st.env} tmps w l0 (tmps.getD s undef) T:=by
 have ag:st.at (.slot s)=some e:=hs;refine⟨h.own (.slot s) e T ag aS,λl a_ T' b cR d' _ hb bT=>?_,λb r cs hb ak=>h.unbox (.slot s) e T b r cs ag aS hb ak⟩
 have eG:∃e2,st.at l=some e2∧e2.own=some T'∧l ≠ .slot s:=by
  cases l with
  |slot qL=>
   simp only [aJ.at,mw]at cR ⊢;by_cases s_:qL=s
   ·subst s_;simp at cR;obtain⟨_,_,rfl⟩:=cR;simp at d'
   ·simp [s_]at cR;exact⟨a_,cR,d',by simp [s_]⟩
  |cell r i=>exact⟨a_,cR,d',by simp⟩
 obtain⟨e2,af,acl,ef⟩:=eG;exact ef (h.uniq l (.slot s) e2 e T' T b af acl ag aS bT hb)
def bN.R6(h:bN P K M β st tmps w){r i:Nat}{cs cs':List aZ}{e:aZ}{T:TypeId}(ak:look st.H r=some cs)(hi:cs[i]? = some e)(aS:e.own=some T)
 (ee:cs'.length=cs.length) (iE:∀(j:Nat) a_,cs'[j]? = some a_→∃bR,cs[j]? = some bR∧bR.d=a_.d∧(∀T,a_.own=some T→bR.own=some T∧j≠i)) (l0:Loc):
 bN P K M β {st with H:=(r,cs')::st.H} tmps w∧lZ P K M β {st with H:=(r,cs')::st.H} tmps w l0 (ci tmps w β (.cell r i)) T:=by
 have ag:st.at (.cell r i)=some e:=by simp [aJ.at,ak,hi]
 have ff:∀l a_,({st with H:=(r,cs')::st.H}:aJ).at l=some a_→∃bR,st.at l=some bR∧bR.d=a_.d∧∀T,a_.own=some T→bR.own=some T∧l ≠ .cell r i:=by
  intro l a_ cR;cases l with
  |slot s=>exact⟨a_,cR,rfl,λT h=>⟨h,by simp⟩⟩
  |cell cM j=>
   by_cases gR:r=cM
   ·subst gR;simp [aJ.at,dv]at cR;obtain⟨bR,Z,af,au⟩:=iE j a_ cR;exact⟨bR,by simp [aJ.at,ak,Z],af,λT aS=>⟨(au T aS).1,by simp [(au T aS).2]⟩⟩
   ·refine⟨a_,by simpa [aJ.at,dv,gR]using cR,rfl,λT h=>⟨h,by simp [Ne.symm gR]⟩⟩
 have eL:∀cM c,look ((r,cs')::st.H) cM=some c→∃ht,look st.H cM=some ht∧ht.length=c.length:=by
  intro cM c hc;by_cases gR:r=cM
  ·subst gR;simp [dv]at hc;subst hc;exact⟨cs,ak,ee.symm⟩
  ·exact⟨c,by simpa [dv,gR]using hc,rfl⟩
 refine⟨h.sub rfl (λl a_ cR=>?_) eL,h.own _ e T ag aS,λl a_ T' b cR d' _ hb bT=>?_,λb cM c hb e6=>?_⟩
 ·obtain⟨bR,Z,af,au⟩:=ff l a_ cR;exact⟨bR,Z,af,λT aS=>(au T aS).1⟩
 ·obtain⟨bR,Z,_,au⟩:=ff l a_ cR;exact(au T' d').2 (h.uniq l _ bR e T' T b Z (au T' d').1 ag aS bT hb)
 ·obtain⟨ht,Z,_⟩:=eL cM c e6;exact h.unbox _ e T b cM ht ag aS hb Z
def IL(l0:Loc)(T:TypeId):lZ P K M β st tmps w l0 (.slice none 0 0) T:=
 ⟨.inl rfl,λ_ _ _ _ _ _ _ hb=>(by cases hb),λ_ _ _ hb=>(by cases hb)⟩
def R7:∀{l:List Nat} {env m8:List (Nat×aZ)},yI env l=some m8→∀s e,look m8 s=some e→look env s=some e
 |[],env,m8,h,s,e,he=>by simp [yI]at h;subst h;simp [look]at he
 |t::l,env,m8,h,s,e,he=>by
  simp only [yI]at h;split at h<;>simp at h
  rename_i e1 gv Z af;subst h;rw [dv]at he;by_cases jQ:t=s
  ·simp [jQ]at he;subst he;rw [←jQ];exact Z
  ·simp [jQ]at he;exact R7 af s e he
def IM:∀{l:List Nat} {H H':List (Nat×List aZ)},yJ H l=some H'→∀s e,look H' s=some e→look H s=some e
 |[],env,m8,h,s,e,he=>by simp [yJ]at h;subst h;simp [look]at he
 |t::l,env,m8,h,s,e,he=>by
  simp only [yJ]at h;split at h<;>simp at h
  rename_i e1 gv Z af;subst h;rw [dv]at he;by_cases jQ:t=s
  ·simp [jQ]at he;subst he;rw [←jQ];exact Z
  ·simp [jQ]at he;exact IM af s e he
def qM{α:Type}:∀{l:List (Nat×α)} {i:Nat} {x:α},look l i=some x→(i,x)∈l
 |[],_,_,h=>by simp [look]at h
 |(j,y)::l,i,x,h=>by
  rw [dv]at h;by_cases hj:j=i
  ·simp [hj]at h;subst h;simp [hj]
  ·simp [hj]at h;exact List.mem_cons_of_mem _ (qM h)
def IN{n:Nat}:∀{l:List aZ} {i:Nat} {e:aZ},qH n l=true→l[i]? = some e→below n e.d=true
 |[],_,_,_,h=>by simp at h
 |d::l,0,_,hb,h=>by simp [qH]at hb;simp at h;exact h ▸ hb.1
 |d::l,i+1,_,hb,h=>by simp [qH]at hb;simp at h;exact IN hb.2 h
def bN.s6(h:bN P K M β st tmps w){live vK:List Nat}{n:Nat}(ak:Ab.s6 live vK n st.env st.H st.a8=some bZ)(ek:∀r b,K.jg r=some b→r<n):
 ∃ β',bN P K M β' bZ tmps w:=by
 unfold Ab.s6 at ak;split at ak
 case h_2=>cases ak
 rename_i m8 H' he eL;rw [Bool.cond_eq_ite]at ak;split at ak
 case isFalse=>cases ak
 rename_i hc;cases ak;simp only [Bool.and_eq_true,List.all_eq_true,Prod.forall,Nat.blt_eq,Nat.ble_eq]at hc;obtain⟨⟨hn,acm⟩,R8⟩:=hc
 have Z:bN P K M β {env:=m8,H:=H',a8:=st.a8} tmps w:=by
  refine h.sub rfl (λl a_ ag=>?_) (λr cs ak=>⟨cs,IM eL _ _ ak,rfl⟩)
  refine⟨a_,?_,rfl,λ_ h=>h⟩
  cases l with
  |slot s=>exact R7 he _ _ ag
  |cell r i=>
   simp only [aJ.at]at ag ⊢;cases ak:look H' r with
   |none=>simp [ak]at ag
   |some c=>simp [ak]at ag;simp [IM eL _ _ ak,ag]
 have mx:∀l e,({env:=m8,H:=H',a8:=st.a8}:aJ).at l=some e→below n e.d=true∧(∀r i,l = .cell r i→r<n):=by
  intro l e ag;cases l with
  |slot s=>exact⟨acm s e (qM ag),by simp⟩
  |cell r i=>
   simp only [aJ.at]at ag;cases ak:look H' r with
   |none=>simp [ak]at ag
   |some c=>
    simp [ak]at ag;have:=R8 r c (qM ak)
    exact⟨IN this.2 ag,by rintro cM l1 h;cases h;exact this.1⟩
 refine⟨λr=>if r<n then β r else none,?_⟩
 have ck:∀l e,({env:=m8,H:=H',a8:=st.a8}:aJ).at l=some e→ci tmps w (λr=>if r<n then β r else none) l=ci tmps w β l:=by
  intro l e ag;cases l with
  |slot s=>rfl
  |cell r i=>simp [ci,(mx _ _ ag).2 r i rfl]
 have jh:∀r c,look H' r=some c→r<n:=λr c ak=>(R8 r c (qM ak)).1
 constructor
 ·intro l e ag;rw [ck l e ag];exact(Z.eW l e ag).R1 (λr ak=>by simp [ak]) (mx l e ag).1
 ·intro l e T ag aS;rw [ck l e ag];exact Z.own l e T ag aS
 ·intro l cL e a_ T T' b ag aS cR d' hb bT;rw [ck l e ag]at hb;rw [ck cL a_ cR]at bT;exact Z.uniq l cL e a_ T T' b ag aS cR d' hb bT
 ·intro l e T b r cs ag aS hb ak;rw [ck l e ag]at hb;have:=Z.unbox l e T b r cs ag aS hb ak
  simpa [jh r cs ak]using this
 ·intro r cs ak;obtain⟨b,vs,T,af,au⟩:=Z.box r cs ak;exact⟨b,vs,T,by simpa [jh r cs ak]using af,au⟩
 ·intro r cM b cs cs' ak e6 hb bT;exact Z.inj r cM b cs cs' ak e6 (by simpa [jh r cs ak]using hb) (by simpa [jh cM cs' e6]using bT)
 ·intro r b hb;by_cases c':r<n
  ·exact c'
  ·simp [c']at hb
 ·exact Z.mem
 ·exact Z.m0
 ·exact Z.frame
 ·intro r b hb;simp [ek r b hb,Z.h2 r b hb]
 ·exact Z.iD
 ·exact Z.hq
end
def kR(P:Program):TypeDesc→Option lw
 |.int k=>some (.int k)
 |.bool=>some .bool
 |.string=>some .str
 |.struct cG=>some (.b9 (cG.toList.map λf=>(f.offset,f.type,P.cellsOf f.type)))
 |.slice e=>some (.bL e)
 |.array n e=>some (.arr n e)
 |.pointer _=>some .ptr
 |.func _ _ _=>some .a1
 |.interface _=>some .nJ
 |_=>none
def ta:Value→V→Bool
 |.int k n,.int k' n'=>decide (k=k')&&decide (n=n')
 |.bool a,.bool b=>a == b
 |.string s,.str l=>decide (s.data.toList=l)
 |.slice none 0 0,.bL _ n _=>Nat.beq n 0
 |.pointer none,.ew=>true
 |.nilIface,.h1=>true
 |.nilFunc,.aO=>true
 |_,_=>false
def tb:List Value→List V→Bool
 |[],[]=>true
 |v::vs,x::xs=>ta v x&&tb vs xs
 |_,_=>false
def vL(P:Program)(inner:TypeId→List Field→Bool):Nat→List Field→Bool
 |_,[]=>true
 | i, f :: l => Nat.beq f.offset i && !decide (f.name = "_") && (match P.underlying f.type with
  |some (.int _) |some .bool |some .string=>vL P inner (i+1) l
  |some (.struct gs)=>inner f.type gs.toList&&vL P inner (i+P.cellsOf f.type) l
  |_=>false)
def qN(P:Program):Nat→List Field→Nat
 | 0,cG=>cG.length
 |d+1,cG=>(cG.map λf=>match P.underlying f.type with
  |some (.struct gs)=>qN P d gs.toList
  |_=>1).sum
def tc(P:Program):Nat→Nat→List Field→Bool
 | 0=>vL P λ_ _=>false
 |d+1=>vL P λt gs=>!P.stoodInHeld t&&Nat.beq (P.cellsOf t) (qN P d gs)&&tc P d 0 gs
def IP(P:Program)(t:TypeId):Bool:=
 match P.underlying t with
 |some (.struct cG)=>!P.stoodInHeld t && !P.eqGuardType P.depth t&&tc P 4 0 cG.toList
 |_=>false
def R9(P:Program)(t:TypeId)(aI:eE):Bool:=
 match P.info? t,P.underlying t with
 |some i,some d=>decide (kR P d=some aI.k)&&Nat.beq i.size aI.size&&Nat.beq i.bytes aI.bytes&&Nat.beq aI.zero.length aI.size &&
  aI.jd.all (λx=>liesAt P P.depth t (aI.size / P.cellsOf t) x.1 x.2 1) &&
  (match i.zero with|some z=>tb z.cells.toList aI.zero&&(match z with|.agg _=>aI.k.isAgg|.tuple _=>false|_=>!aI.k.isAgg)|none=>false)
 |_,_=>false
def e7(P:Program)(tt:dx):Bool:=tt.all λx=>R9 P x.1 x.2
def IQ{M:Mem}{v:Value}{x:V}(h:ta v x=true):dl M v x∧v.oneCell'=true:=by
 unfold ta at h;split at h<;>simp at h
 ·obtain⟨rfl,rfl⟩:=h;exact⟨.int _ _,rfl⟩
 ·subst h;exact⟨.bool _,rfl⟩
 ·rename_i s l;subst h;exact⟨by exact .str s.data.toList,rfl⟩
 ·subst h;exact⟨.lb _ _,rfl⟩
 ·exact⟨.ew,rfl⟩
 ·exact⟨.h1,rfl⟩
 ·exact⟨.aO,rfl⟩
def vM{M:Mem}:∀{vs:List Value} {xs:List V},tb vs xs=true→vs.length=xs.length∧(∀v,v∈vs→v.oneCell'=true)∧∀(i:Nat) v x,vs[i]? = some v→xs[i]? = some x→dl M v x∧ta v x=true
 |[],[],_=>by simp
 |[],_::_,h=>by simp [tb]at h
 |_::_,[],h=>by simp [tb]at h
 |v::vs,x::xs,h=>by
  simp [tb]at h;obtain⟨Z,af,au⟩:=vM (M:=M) h.2;refine⟨by simp [Z],?_,?_⟩
  ·intro u hu;rcases List.mem_cons.1 hu with rfl|hu
   ·exact(IQ (M:=M) h.1).2
   ·exact af u hu
  ·intro i u y hu cc;cases i with
   |zero=>simp at hu cc;subst hu;subst cc;exact⟨(IQ h.1).1,h.1⟩
   |succ i=>simp at hu cc;exact au i u y hu cc
structure Row(P:Program)(t:TypeId)(aI:eE) where
 info:TypeInfo
 desc:TypeDesc
 z:Value
 hi:P.info? t=some info
 hd:P.underlying t=some desc
 hk:kR P desc=some aI.k
 size:info.size=aI.size
 bytes:info.bytes=aI.bytes
 dQ:info.zero=some z
 IR:aI.zero.length=aI.size
 yO:tb z.cells.toList aI.zero=true
 jd:(aI.jd.all λx=>liesAt P P.depth t (aI.size / P.cellsOf t) x.1 x.2 1)=true
 aoi:match z with|.agg _=>aI.k.isAgg=true|.tuple _=>False|_=>aI.k.isAgg=false
theorem et{P:Program}{tt:dx}(h:e7 P tt=true){t:TypeId}{aI:eE}(bU:look tt t=some aI):Nonempty (Row P t aI):=by
 have hm:=qM bU;unfold e7 at h;rw [List.all_eq_true]at h;have:=h _ hm
 unfold R9 at this
 dsimp only at this
 split at this
 case h_2=>cases this
 rename_i i d hi hd;simp only [Bool.and_eq_true,decide_eq_true_eq,Nat.beq_eq]at this;obtain⟨⟨⟨⟨⟨Z,af⟩,au⟩,aQ⟩,mx⟩,bj⟩:=this;split at bj
 case h_2=>cases bj
 rename_i z dQ;simp only [Bool.and_eq_true]at bj
 exact⟨⟨i,d,z,hi,hd,Z,af,au,dQ,aQ,bj.1,mx,by
  have:=bj.2
  cases z<;>simp at this<;>simp [this]⟩⟩
def Row.cellsOf{P:Program}{t:TypeId}{aI:eE}(r:Row P t aI):P.cellsOf t=aI.size:=by
 simp [Program.cellsOf,r.hi,r.size]
section runs
variable {P:Program} {t:TypeId} {aI:eE} (w:World)
def Row.run_sizeOf(r:Row P t aI):(sizeOf t).run P w = .ok aI.size w:=by
 rw [Go.run_sizeOf w r.hi,r.cellsOf]
def Row.CT(r:Row P t aI):(zeroValue t).run P w = .ok r.z w:=by
 simp [zeroValue,typeInfo,r.hi,r.dQ]
def Row.run_underlying(r:Row P t aI):(underlying t).run P w = .ok r.desc w:=Go.run_underlying r.hd w
def Row.vN(r:Row P t aI):(isAgg t).run P w = .ok aI.k.isAgg w:=by
 have hk:=r.hk;simp only [isAgg,Sem.run_bind,r.run_underlying,Result.andThen_ok];cases hd:r.desc<;>simp [hd,kR]at hk<;>simp [←hk,lw.isAgg]
end runs
def fG(tmps:Array Value)(p:Path):Prop:=∀x,x∈p→tmps.getD x.1 undef = .bool x.2
structure fx(P:Program)(K:Ctx)(N:Nat)(M:Mem)(β:Nat→Option Nat)(g:di)(tmps:Array Value)(w:World):Prop where
 bu:bN P K M β {env:=g.env,H:=g.H,a8:=g.a8} tmps w
 size:tmps.size=N
 fresh:∀s id,look g.ids s=some id→look g.H id=none→∀b,β id≠some b
 cond:∀t q d,look g.b0 t=some (q,d)→(fG tmps q→cz M β (tmps.getD t undef) d)∧(¬ fG tmps q→tmps.getD t undef=undef)
def Path.acn{q p:Path}(h:q.sub p=true){tmps:Array Value}(hp:fG tmps p):fG tmps q:=by
 intro x hx;unfold Path.sub at h;rw [List.all_eq_true]at h;have:=h x hx
 unfold Path.has at this;rw [List.any_eq_true]at this;obtain⟨y,cc,l2⟩:=this;simp at l2
 have Z:=hp y cc;rw [←l2.1,←l2.2];exact Z
def aco{M:Mem}{v:Value}{x:V}(h:Iw v=some x):dl M v x:=by
 unfold Iw at h;split at h<;>simp at h<;>subst h
 ·exact .int _ _
 ·exact .bool _
 ·rename_i s;exact .str s.data.toList
 ·exact .ew
 ·exact .h1
 ·exact .aO
def d_{P:Program}{K:Ctx}{N:Nat}{M:Mem}{β:Nat→Option Nat}{g:di}{tmps:Array Value}{w:World}(h:fx P K N M β g tmps w){p:Path}(hp:fG tmps p){tt:dx}{ty:TypeId}{x:Operand}{d:D}
 (hx:rd g.env g.b0 p tt ty x=some d) {ds:List Deferred}:cz M β ((⟨tmps,ds⟩:Act).eval x) d:=by
 cases x with
 |tmp t=>
  simp only [rd]at hx;split at hx
  ·rename_i q ei hc;rw [Bool.cond_eq_ite]at hx;split at hx<;>simp at hx
   subst hx;exact(h.cond t q ei hc).1 (Path.acn (by assumption) hp)
  ·simp only [Option.map_eq_some_iff]at hx;obtain⟨e,he,rfl⟩:=hx;exact h.bu.eW (.slot t) e he
 |const v=>
  simp only [rd]at hx;split at hx
  ·rename_i heq;cases heq
  ·rename_i heq;cases heq;split at hx
   ·cases hx;exact .v _ _ (.lb _ _)
   ·cases hx
  ·rename_i heq;cases heq;simp only [Option.map_eq_some_iff]at hx;obtain⟨y,cc,rfl⟩:=hx;exact .v _ _ (aco cc)
  ·rename_i heq;cases heq
  ·rename_i heq;cases heq
 |global n=>simp [rd]at hx
 |func f=>
  simp [rd]at hx;subst hx;exact .fn f [] [] rfl (by simp)
def acp{v:Value}(h:v.oneCell'=true):v.cells = #[v]:=by
 cases v<;>first|rfl|(simp [Value.oneCell']at h)
def cz.cells{M:Mem}{β:Nat→Option Nat}{v:Value}{d:D}(h:cz M β v d)(bU:pB d=false):
 v.cells.toList.length=(cellsD d).length∧(∀u,u∈v.cells.toList→u.oneCell'=true)∧∀(i:Nat) u c,v.cells.toList[i]? = some u→(cellsD d)[i]? = some c→cz M β u c:=by
 have single:∀{v:Value} {d:D},v.cells = #[v]→cellsD d=[d]→v.oneCell'=true→cz M β v d→
  v.cells.toList.length=(cellsD d).length∧(∀u,u∈v.cells.toList→u.oneCell'=true)∧∀(i:Nat) u c,v.cells.toList[i]? = some u→(cellsD d)[i]? = some c→cz M β u c:=by
  intro v d Z af au aQ;rw [Z,af];refine⟨rfl,by simpa using au,λi u c hu hc=>?_⟩
  cases i with
  |zero=>simp at hu hc;subst hu;subst hc;exact aQ
  |succ i=>simp at hu
 cases h with
 |v u x hx=>
  cases hx with
  |agg vs cs hn Z ak=>
   refine⟨by simp [Value.cells,cellsD,V.cells,hn],by simpa [Value.cells]using Z,λi u c hu hc=>?_⟩
   simp [Value.cells]at hu;simp [cellsD,V.cells]at hc;obtain⟨a,ha,rfl⟩:=hc;exact .v _ _ (ak i u a hu ha)
  |any v Z=>exact single (acp Z) rfl Z (.v _ _ (.any _ Z))
  |_=>exact single rfl rfl rfl (.v _ _ (by constructor<;>assumption))
 |ptr r off b hb=>exact single rfl rfl rfl (.ptr r off b hb)
 |ld r off u=>exact single rfl rfl rfl (.ld r off u)
 |cx r off b u hb=>exact single rfl rfl rfl (.cx r off b u hb)
 |eY b off x val c7 Z ak=>exact single rfl rfl rfl (.eY b off x val c7 Z ak)
 |full b k n get h=>exact single rfl rfl rfl (.full b k n get h)
 |fn f vs cs hn ak=>exact single rfl rfl rfl (.fn f vs cs hn ak)
 |agg vs cs hn Z ak=>exact⟨hn,Z,ak⟩
 |cp vs cs hn ak=>simp [pB]at bU
def acq{cs:List D}:∀{xs:List V},yD cs=some xs→cs=xs.map .v:=by
 induction cs with
 |nil=>intro xs h;simp [yD]at h;subst h;rfl
 |cons d l bc=>
  intro xs h;cases d<;>simp [yD]at h
  obtain⟨ys,cc,rfl⟩:=h;simp [bc cc]
def vO{M:Mem}{β:Nat→Option Nat}{vs:List Value}{cs:List D}(hn:vs.length=cs.length)(Z:∀v,v∈vs→v.oneCell'=true)
 (h:∀(i:Nat) v c,vs[i]? = some v→cs[i]? = some c→cz M β v c):cz M β (.agg ⟨vs⟩) (lX cs):=by
 unfold lX;split
 ·rename_i xs hx;have:=acq hx
  subst this;refine .v _ _ (.agg vs xs (by simpa using hn) Z λi v c ay hc=>?_)
  have:=h i v (.v c) ay (by simp [hc])
  cases this;assumption
 ·exact .agg vs cs hn Z h
section
variable {P:Program} {K:Ctx} {N:Nat} {M:Mem} {β:Nat→Option Nat} {st:aJ} {g:di} {tmps:Array Value} {w:World} {v:Value}
def lz{k:IntKind}{n:Int}(h:cz M β v (.v (.int k n))):v = .int k n:=by
 cases h with|v u x h=>cases h;rfl
def m_{x:V}(h:cz M β v (.v x)):dl M v x:=by
 cases h with|v u x h=>exact h
def td{b:Bool}(h:cz M β v (.v (.bool b))):v = .bool b:=by
 cases h with|v u x h=>cases h;rfl
def l3{l:ap0}(h:cz M β v (.v (.str l))):v = .string ⟨⟨l⟩⟩:=by
 cases h with|v u x h=>cases h;rfl
def nQ{r off:Nat}(h:cz M β v (.ptr r off)):∃b,β r=some b∧v = .pointer (some ⟨b,off,none⟩):=by
 cases h with|ptr r off b h=>exact⟨b,h,rfl⟩
def IS{t:TypeId}{x:V}(h:cz M β v (.v (.iface t x))):∃u,v = .iface t u∧dl M u x:=by
 cases h with|v u x h=>cases h with|iface t u x h=>exact⟨u,rfl,h⟩
def acr{cs:List V}(h:cz M β v (.v (.agg cs))):∃vs:List Value,v = .agg ⟨vs⟩∧vs.length=cs.length∧(∀u,u∈vs→u.oneCell'=true)∧∀(i:Nat) u c,vs[i]? = some u→cs[i]? = some c→dl M u c:=by
 cases h with|v u x h=>cases h with|agg vs cs hn Z h=>exact⟨vs,rfl,hn,Z,h⟩
def acs{cs:List D}(h:cz M β v (.cp cs)):∃vs:List Value,v = .tuple ⟨vs⟩∧vs.length=cs.length∧∀(i:Nat) u c,vs[i]? = some u→cs[i]? = some c→cz M β u c:=by
 cases h with|cp vs cs hn h=>exact⟨vs,rfl,hn,h⟩
def R'{f:FuncId}{cs:List D}(h:cz M β v (.fn f cs)):∃vs:List Value,v = .func (.func f) #[] ⟨vs⟩∧vs.length=cs.length∧∀(i:Nat) u c,vs[i]? = some u→cs[i]? = some c→cz M β u c:=by
 cases h with|fn f vs cs hn h=>exact⟨vs,rfl,hn,h⟩
def rN{k n:Nat}{get:Nat→V}(h:cz M β v (.v (.bL k n get))):((v = .slice none 0 0∨∃a,v = .slice (some a) 0 0)∧n=0)∨
 ∃(b off cap:Nat) (val:Nat→Nat→Value),v = .slice (some ⟨b,off,none⟩) n cap∧n≤cap∧(∀i,i<n→(get i).cells.length=k)∧(∀i j,i<n→j<k→M b (off+i*k+j)=some (val i j))∧
  (∀i j,i<n→j<k→(val i j).oneCell'=true)∧(∀(i j:Nat) c,i<n→(get i).cells[j]? = some c→dl M (val i j) c):=by
 cases h with
 |v u x h=>
  cases h with
  |lb=>exact .inl ⟨.inl rfl,rfl⟩
  |nL a=>exact .inl ⟨.inr ⟨a,rfl⟩,rfl⟩
  |bL b off k n cap get val hc hk c7 Z h=>exact .inr ⟨b,off,cap,val,rfl,hc,hk,c7,Z,h⟩
def CU{x:V}(h:cz M β v (.eY x)):∃(b off:Nat) (val:Nat→Value),v = .pointer (some ⟨b,off,none⟩)∧(∀j,j<x.cells.length→M b (off+j)=some (val j))∧(∀j,j<x.cells.length→(val j).oneCell'=true)∧
 (∀(j:Nat) c,x.cells[j]? = some c→dl M (val j) c):=by
 cases h with|eY b off x val c7 Z h=>exact⟨b,off,val,rfl,c7,Z,h⟩
def te{k n:Nat}{get:Nat→V}(h:cz M β v (.v (.bL k n get))):∃a cap,v = .slice a n cap∧n≤cap:=by
 rcases rN h with⟨rfl|⟨a,rfl⟩,rfl⟩|⟨b,off,cap,val,rfl,hc,_⟩
 ·exact⟨_,_,rfl,Nat.le_refl _⟩
 ·exact⟨_,_,rfl,Nat.le_refl _⟩
 ·exact⟨_,_,rfl,hc⟩
def addr_add(b off n:Nat):(⟨b,off,none⟩:Addr).add n=⟨b,off+n,none⟩:=by
 unfold Addr.add;split<;>simp_all
def vP{x:V}(hx:x.isAgg=false):x.cells=[x]:=by
 cases x<;>first|rfl|simp [V.isAgg]at hx
def R_{x:V}{val:Nat→Value}(Z:∀j,j<x.cells.length→(val j).oneCell'=true)(h:∀(j:Nat) c,x.cells[j]? = some c→dl M (val j) c):
 dl M (bif x.isAgg then .agg ⟨(List.range x.cells.length).map val⟩else val 0) x:=by
 cases hx:x.isAgg with
 |false=>
  have:=vP hx
  simpa using h 0 x (by simp [this])
 |true=>
  cases x<;>simp [V.isAgg]at hx
  rename_i cs;refine .agg _ cs (by simp [V.cells]) ?_ ?_
  ·intro u hu;obtain⟨j,hj,rfl⟩:=List.mem_map.1 hu;exact Z j (by simpa using hj)
  ·intro i u c hu hc;simp only [List.getElem?_map,Option.map_eq_some_iff]at hu;obtain⟨j,hj,rfl⟩:=hu
   have:j=i:=by
    rw [List.getElem?_eq_some_iff]at hj;obtain⟨_,h⟩:=hj;simpa using h.symm
   subst this;exact h j c hc
def act{t:TypeId}{aI:eE}(r:Row P t aI)(CP:∀b o v,M b o=some v→w.cell? ⟨b,o,none⟩=some v){x:V}(ay:cz M β v (.eY x))(hx:x.isAgg=aI.k.isAgg)(hs:x.cells.length=aI.size):
 ∃u,(Instr.loadAt t v).run P w = .ok u w∧dl M u x:=by
 obtain⟨b,off,val,rfl,c7,Z,h⟩:=CU ay;refine⟨_,?_,R_ Z h⟩
 have ag:∀j,j<aI.size→w.cell? ((⟨b,off,none⟩:Addr).add j)=some (val j):=λj hj=>by rw [addr_add];exact CP _ _ _ (c7 j (by omega))
 cases ha:x.isAgg with
 |true=>
  rw [ha]at hx;simp [Instr.loadAt,Instr.sureAddr,loadVar,r.vN,←hx,r.run_sizeOf,run_loadCells w ⟨b,off,none⟩ aI.size val ag,hs]
 |false=>
  rw [ha]at hx;have h0:=c7 0 (by rw [vP ha];simp)
  have:=CP _ _ _ h0
  simp [Instr.loadAt,Instr.sureAddr,loadVar,r.vN,←hx,run_load];simp at this
  rw [this]
def CV{t:TypeId}{aI:eE}(r:Row P t aI){b off:Nat}{vs:List Value}{T:TypeId}{f:Nat×Nat}(bz:w.heap[b]? = some (.cells ⟨vs⟩ T f))(hle:off+aI.size≤vs.length)(ha:aI.k.isAgg=true):
 (Instr.loadAt t (.pointer (some ⟨b,off,none⟩))).run P w = .ok (.agg ⟨(vs.drop off).take aI.size⟩) w:=by
 have hlen:((vs.drop off).take aI.size).length=aI.size:=by simp;omega
 have:=run_loadCells_list (P:=P) w ⟨b,off,none⟩ ((vs.drop off).take aI.size) (λj u hj=>by
  rw [addr_add,cell_of_heap bz];rw [List.getElem?_take]at hj;split at hj
  ·simpa using hj
  ·cases hj)
 rw [hlen]at this;simp [Instr.loadAt,Instr.sureAddr,loadVar,r.vN,ha,r.run_sizeOf,this]
def IT{t:TypeId}{aI:eE}(r:Row P t aI){b off:Nat}{u:Value}(hc:w.cell? ⟨b,off,none⟩=some u)(ha:aI.k.isAgg=false):
 (Instr.loadAt t (.pointer (some ⟨b,off,none⟩))).run P w = .ok u w:=by
 simp [Instr.loadAt,Instr.sureAddr,loadVar,r.vN,ha,run_load,hc]
def IU{t:TypeId}{aI:eE}(r:Row P t aI){cG:List (Nat×TypeId×Nat)}(hk:aI.k = .b9 cG):∃gs:Array Field,r.desc = .struct gs∧cG=gs.toList.map λf=>(f.offset,f.type,P.cellsOf f.type):=by
 have:=r.hk
 rw [hk]at this;cases hd:r.desc<;>simp [hd,kR]at this
 exact⟨_,rfl,this.symm⟩
def oH{t:TypeId}{aI:eE}(r:Row P t aI){e:TypeId}(hk:aI.k = .bL e):r.desc = .slice e:=by
 have:=r.hk
 rw [hk]at this;cases hd:r.desc<;>simp [hd,kR]at this
 rw [this]
def pH{t:TypeId}{aI:eE}(r:Row P t aI)(hk:aI.k = .str):r.desc = .string:=by
 have:=r.hk
 rw [hk]at this;cases hd:r.desc<;>simp [hd,kR]at this;rfl
def yP{t:TypeId}{aI:eE}(r:Row P t aI){k:IntKind}(hk:aI.k = .int k):r.desc = .int k:=by
 have:=r.hk
 rw [hk]at this;cases hd:r.desc<;>simp [hd,kR]at this
 rw [this]
def acu{t:TypeId}{aI:eE}(r:Row P t aI){n:Nat}{e:TypeId}(hk:aI.k = .arr n e):r.desc = .array n e:=by
 have:=r.hk
 rw [hk]at this;cases hd:r.desc<;>simp [hd,kR]at this
 rw [this.1,this.2]
def Sa{s:TypeId}{aI:eE}(r:Row P s aI){cG:List (Nat×TypeId×Nat)}(hk:aI.k = .b9 cG){f c6 hE fK:Nat}(a':cG[f]? = some (c6,hE,fK))(el:1≤fK)(b off:Nat):
 (Instr.fieldAt s (.pointer (some ⟨b,off,none⟩)) f).run P w = .ok (.pointer (some ⟨b,off+c6,none⟩)) w:=by
 obtain⟨gs,hd,rfl⟩:=IU r hk;simp only [List.getElem?_map,Option.map_eq_some_iff]at a';obtain⟨fd,l4,he⟩:=a';simp only [Prod.mk.injEq]at he;obtain⟨rfl,rfl,rfl⟩:=he;have CW:gs[f]? = some fd:=by simpa using l4
 have hs:(sizeOf fd.type).run P w = .ok (P.cellsOf fd.type) w:=by
  cases hi:P.info? fd.type with
  |none=>simp [Program.cellsOf,hi]at el
  |some i=>exact Go.run_sizeOf w hi
 have ef:P.cellsOf fd.type≠0:=by omega
 simp [Instr.fieldAt,r.run_underlying,hd,CW,Instr.sureAddr,fieldPlace,hs,ef,addr_add]
def Sb{s:TypeId}{aI:eE}(r:Row P s aI){cG:List (Nat×TypeId×Nat)}(hk:aI.k = .b9 cG){f c6 hE fK:Nat}(a':cG[f]? = some (c6,hE,fK)){vQ:eE}(ao:Row P hE vQ)(vs:List Value)(hle:c6+fK≤vs.length):
 (vQ.k.isAgg=true→(Instr.field s (.agg ⟨vs⟩) f).run P w = .ok (.agg ⟨(vs.drop c6).take fK⟩) w)∧
 (vQ.k.isAgg=false→∀u,vs[c6]? = some u→(Instr.field s (.agg ⟨vs⟩) f).run P w = .ok u w):=by
 obtain⟨gs,hd,rfl⟩:=IU r hk;simp only [List.getElem?_map,Option.map_eq_some_iff]at a';obtain⟨fd,l4,he⟩:=a';simp only [Prod.mk.injEq]at he;obtain⟨rfl,rfl,rfl⟩:=he;have CW:gs[f]? = some fd:=by simpa using l4
 have el:=ao.cellsOf;refine⟨λha=>?_,λha u hu=>?_⟩
 ·simp [Instr.field,r.run_underlying,hd,CW,asAgg,part,ao.vN,ha,ao.run_sizeOf,el,List.extract_eq_take_drop]
 ·simp [Instr.field,r.run_underlying,hd,CW,asAgg,part,ao.vN,ha,hu]
def acv{t:TypeId}{aI:eE}(r:Row P t aI){e:TypeId}(hk:aI.k = .bL e){ct:eE}(dT:Row P e ct){k:IntKind}{j:Int}{b off n cap:Nat}(h0:0≤j)(Z:j<n):
 (Instr.indexAt t (.slice (some ⟨b,off,none⟩) n cap) (.int k j)).run P w = .ok (.pointer (some ⟨b,off+j.toNat*ct.size,none⟩)) w:=by
 simp [Instr.indexAt,asIntOf,r.run_underlying,oH r hk,h0,Z,dT.run_sizeOf,addr_add]
def acw{t:TypeId}{aI:eE}(r:Row P t aI)(hk:aI.k = .str){k:IntKind}{j:Int}{l:ap0}(h0:0≤j)(Z:j<l.length):
 (Instr.index t (.string ⟨⟨l⟩⟩) (.int k j)).run P w = .ok (.int .u8 (l.getD j.toNat 0).toNat) w:=by
 have c':j.toNat<l.length:=by omega
 have acx:j.toNat<(ByteArray.mk ⟨l⟩).size:=c';have hs:(ByteArray.mk ⟨l⟩)[j.toNat]? = some l[j.toNat]:=by rw [getElem?_pos (ByteArray.mk ⟨l⟩) j.toNat acx];rfl
 simp [Instr.index,asIntOf,r.run_underlying,pH r hk,h0,hs,List.getElem?_eq_getElem c']
def CX(l:ap0):(⟨⟨l⟩⟩:ByteArray).toList=l:=by
 rw [ByteArray.toList_eq]
end
section
variable {P:Program} {K:Ctx} {N:Nat} {M:Mem} {β:Nat→Option Nat} {g:di} {tmps:Array Value} {w:World} {o:Oper} {f:kN} {p:Path} {tt:dx} {cn:gg} {ops:List Oper}
def after(g:di)(f:kN):aJ:={env:=gu f.gI g.env,H:=f.hs++g.H,a8:=g.a8+f.fc}
def ip(P:Program)(K:Ctx)(M:Mem)(β:Nat→Option Nat)(g:di)(f:kN)(tmps:Array Value)(v:Value)(w':World):Prop:=
 ∃M' β',M.le M'∧(∀r b,β r=some b→β' r=some b)∧(∀r b,β' r=some b→β r=some b∨(look f.hs r).isSome=true)∧bN P K M' β' (after g f) tmps w'∧
  ∀e,f.e=some e→cz M' β' v e.d∧∀T l0,e.own=some T→lZ P K M' β' (after g f) tmps w' l0 v T
def Yields(P:Program)(K:Ctx)(M:Mem)(β:Nat→Option Nat)(g:di)(f:kN)(o:Oper)(tmps:Array Value)(w:World):Prop:=
 (∃v w',(execOp (Act.eval ⟨tmps,[]⟩) o).run P w = .ok (.value v) w'∧ip P K M β g f tmps v w')∨
 (f.e=none∧∃w',(execOp (Act.eval ⟨tmps,[]⟩) o).run P w = .ok .skip w'∧ip P K M β g f tmps undef w')∨
 (∃fn vs,(execOp (Act.eval ⟨tmps,[]⟩) o).run P w = .ok (.enter fn vs) w∧Calls P fn vs w λe w'=>∃v,e = .returned v∧ip P K M β g f tmps v w')
def e8(h:fx P K N M β g tmps w){v:Value}{d:D}(ak:(execOp (Act.eval ⟨tmps,[]⟩) o).run P w = .ok (.value v) w)(hd:cz M β v d){rs:List fo}{bb:List Prop}:
 Yields P K M β g {e:=some {d},rs,bb} o tmps w:=
 .inl ⟨v,w,ak,M,β,Mem.le_refl _,λ_ _ h=>h,λ_ _ h=>.inl h,h.bu,λe he=>by cases he;exact⟨hd,by simp⟩⟩
def iF(x:Sem Value){v:Value}{w':World}(h:x.run P w = .ok v w'):(do pure (.value (←x)):Sem Next).run P w = .ok (.value v) w':=by
 simp [h]
def CY(h:fx P K N M β g tmps w)(hp:fG tmps p){x:Operand}(aA:o.op = .move x∨o.op = .assign x){d:D}(hx:rd g.env g.b0 p tt o.type x=some d):
 Yields P K M β g {e:=some {d},rs:=g.rs} o tmps w:=
 e8 h (v:=(⟨tmps,[]⟩:Act).eval x) (by rcases aA with aA|aA<;>simp [execOp,aA]) (d_ h hp hx)
def Sc(h:fx P K N M β g tmps w)(hp:fG tmps p){t:Nat}(aA:o.op = .move (.tmp t)∨o.op = .assign (.tmp t)){d:D}(hx:rd g.env g.b0 p tt o.type (.tmp t)=some d)
 {s:TypeId} (hs:nM g (.tmp t)=some s) {rs:List fo}:Yields P K M β g {e:=some {d,own:=some s},gI:=[t],rs} o tmps w:=by
 refine .inl ⟨(⟨tmps,[]⟩:Act).eval (.tmp t),w,by rcases aA with aA|aA<;>simp [execOp,aA],M,β,Mem.le_refl _,λ_ _ h=>h,λ_ _ h=>.inl h,?_,λe he=>?_⟩
 ·have:=h.bu.gI [t];exact this
 ·cases he;refine⟨d_ h hp hx,λT l0 aS=>?_⟩
  cases aS;simp only [nM,Option.bind_eq_some_iff]at hs;obtain⟨e,he,hs⟩:=hs;exact h.bu.hand he hs l0
def acy(h:fx P K N M β g tmps w)(hp:fG tmps p)(aA:o.op = .assign (.const (.slice none 0 0))){d:D}(hx:rd g.env g.b0 p tt o.type (.const (.slice none 0 0))=some d)(s:TypeId):
 Yields P K M β g {e:=some {d,own:=some s},rs:=g.rs} o tmps w:=by
 refine .inl ⟨.slice none 0 0,w,by simp [execOp,aA,Act.eval],M,β,Mem.le_refl _,λ_ _ h=>h,λ_ _ h=>.inl h,h.bu,λe he=>?_⟩
 cases he;exact⟨d_ (ds:=[]) h hp hx,λT l0 _=>IL l0 T⟩
def acz(h:fx P K N M β g tmps w)(hp:fG tmps p){c:Nat}{a b:Operand}(aA:o.op = .pick (.tmp c) a b){rH yH s4:Bool}(hc:rd g.env g.b0 p tt o.type (.tmp c)=some (.v (.bool rH)))
 (ha:rd g.env g.b0 ((c,true)::p) tt o.type a=some (.v (.bool yH))) (hb:rd g.env g.b0 ((c,false)::p) tt o.type b=some (.v (.bool s4))):
 Yields P K M β g {e:=some {d:=.v (.bool (bif rH then yH else s4))},rs:=g.rs} o tmps w:=by
 have jA:(⟨tmps,[]⟩:Act).eval (.tmp c) = .bool rH:=td (d_ h hp hc);have Sd:tmps.getD c undef = .bool rH:=jA;cases rH with
 |true=>
  refine e8 h (v:=(⟨tmps,[]⟩:Act).eval a) (by simp [execOp,aA,jA,asBool]) ?_
  exact d_ h (p:=(c,true)::p) (λx hx=>by rcases List.mem_cons.1 hx with rfl|hx;exact Sd;exact hp x hx) ha
 |false=>
  refine e8 h (v:=(⟨tmps,[]⟩:Act).eval b) (by simp [execOp,aA,jA,asBool]) ?_
  exact d_ h (p:=(c,false)::p) (λx hx=>by rcases List.mem_cons.1 hx with rfl|hx;exact Sd;exact hp x hx) hb
def bN.IV{st:aJ}(h:bN P K M β st tmps w)(o:Nat):M w.heap.size o=none:=by
 cases hm:M w.heap.size o with
 |none=>rfl
 |some v=>have:=lt_of_cell (h.mem _ _ _ hm);omega
def Se(h:fx P K N M β g tmps w){vs:List Value}{T:TypeId}{cs:List aZ}(hlen:vs.length=cs.length)(gi:∀v,v∈vs→v.oneCell'=true)(hlies:kQ P T vs.length cs)
 (ay:∀(i:Nat) v e,vs[i]? = some v→cs[i]? = some e→cz M β v e.d∧∀T,e.own=some T→v = .slice none 0 0)
 (ak:(execOp (Act.eval ⟨tmps,[]⟩) o).run P w = .ok (.value (.pointer (some ⟨w.heap.size,0,none⟩))) {w with heap:=w.heap.push (.cells ⟨vs⟩ T (0,0))}) {id fc:Nat} (hid:m7 g o=some (id,fc)):
 Yields P K M β g {e:=some {d:=.ptr id 0},hs:=[(id,cs)],fc,rs:=g.rs} o tmps w:=by
 have a':(∀b,β id≠some b)∧id<g.a8+fc:=by
  unfold m7 at hid;split at hid
  ·rename_i aoj ag;rw [Bool.cond_eq_ite]at hid;split at hid<;>cases hid
   rename_i hc;simp only [Bool.and_eq_true,Option.isNone_iff_eq_none,Nat.blt_eq]at hc;rw [Option.bind_eq_some_iff]at ag;obtain⟨s,_,ag⟩:=ag;exact⟨h.fresh s _ ag hc.1,by omega⟩
  ·cases hid;exact⟨λb hb=>by have:=h.bu.lt _ b hb;simp at this,by omega⟩
 refine .inl ⟨_,_,ak,M,_,Mem.le_refl _,?_,?_,h.bu.acf (n':=g.a8+fc) a'.1 a'.2 (by simp) (T:=T) hlen gi hlies ay,λe he=>?_⟩
 ·intro r b hb;have ef:r≠id:=λe=>a'.1 b (e ▸ hb)
  simp [ef,hb]
 ·intro r b hb;by_cases ef:r=id
  ·exact .inr (by simp [dv,ef])
  ·simp [ef]at hb;exact .inl hb
 ·cases he;exact⟨.ptr _ _ _ (by simp),by simp⟩
def Sf{α:Type}:∀(l:List α) (n i:Nat),(c8 n l)[i]? = (l[i]?).map (n+i,·)
 |[],n,i=>by simp [c8]
 |x::l,n,0=>by simp [c8]
 |x::l,n,i+1=>by simp [c8,Sf l (n+1) i];congr 1;funext;congr 1;omega
def Sg{α:Type}:∀(l:List α) (n:Nat),(c8 n l).length=l.length
 |[],n=>rfl
 |x::l,n=>by simp [c8,Sg l (n+1)]
def Sh{x:V}{t:Option TypeId}{T:TypeId}(h:CK x t=some T):∃k n get,x = .bL k n get:=by
 cases x<;>simp [CK]at h;exact⟨_,_,_,rfl⟩
def Si(jd:List (Nat×TypeId))(id i:Nat)(x:V):yF jd id i x = .v x∨(x = .ew∧∃u,yF jd id i x = .cx id i u∧(i,u)∈jd):=by
 unfold yF;split
 ·split
  ·rename_i y cc;right
   have Z:=List.find?_some cc;have af:=List.mem_of_find?_eq_some cc;obtain⟨j,u⟩:=y;obtain rfl:j=i:=by simpa using Z
   exact⟨rfl,u,rfl,af⟩
  ·exact .inl rfl
 ·exact .inl rfl
def acA{t:TypeId}{id:Nat}{z:List aZ}(h:CM tt t id=some z):∃aI,look tt t=some aI∧z.length=aI.zero.length∧
 ∀(i:Nat) e,z[i]? = some e→∃x,aI.zero[i]? = some x∧(e.d = .v x∨(x = .ew∧∃u,e.d = .cx id i u∧(i,u)∈aI.jd))∧∀T,e.own=some T→∃k n get,x = .bL k n get:=by
 unfold CM at h;split at h<;>simp at h
 ·rename_i e fK jR zero l5 ag;subst h;refine⟨_,ag,by simp,λi a_ he=>?_⟩
  simp only [List.getElem?_map,Option.map_eq_some_iff]at he;obtain⟨x,hx,rfl⟩:=he;exact⟨x,hx,.inl rfl,λT aS=>Sh aS⟩
 ·rename_i cG fK jR zero l5 ag;subst h;refine⟨_,ag,by simp [Sg],λi a_ he=>?_⟩
  simp only [List.getElem?_map,Option.map_eq_some_iff,Sf]at he;obtain⟨_,⟨x,hx,rfl⟩,rfl⟩:=he;simp only [Nat.zero_add];exact⟨x,hx,Si l5 id i x,λT aS=>Sh aS⟩
 ·rename_i k fK jR zero l5 _ _ ag;subst h;refine⟨_,ag,by simp,λi a_ he=>?_⟩
  simp only [List.getElem?_map,Option.map_eq_some_iff]at he;obtain⟨x,hx,rfl⟩:=he;exact⟨x,hx,.inl rfl,by simp⟩
def acB(h:fx P K N M β g tmps w)(cj:e7 P tt=true){t:TypeId}(aA:o.op = .alloc t){z:List aZ}{id fc:Nat}(dQ:CM tt t id=some z)(hid:m7 g o=some (id,fc)):
 Yields P K M β g {e:=some {d:=.ptr id 0},hs:=[(id,z)],fc,rs:=g.rs} o tmps w:=by
 obtain⟨aI,ag,hlen,Sj⟩:=acA dQ;obtain⟨r⟩:=et cj ag;obtain⟨Z,af,au⟩:=vM (M:=M) r.yO;refine Se h (vs:=r.z.cells.toList) (T:=t) (by omega) af (λe he q off u hd=>?_) (λi v e ay he=>?_) ?_ hid
 ·obtain⟨i,hi,rfl⟩:=List.getElem_of_mem he;obtain⟨x,hx,jS,_⟩:=Sj i z[i] (List.getElem?_eq_getElem hi);rcases jS with jS|⟨_,aok,jS,hm⟩
  ·rw [jS]at hd;cases hd
  ·rw [jS]at hd;cases hd;have:=List.all_eq_true.1 r.jd _ hm
   have el:=r.IR;rw [show r.z.cells.toList.length=aI.size by omega]
   exact this
 ·obtain⟨x,hx,hd,fL⟩:=Sj i e he;obtain⟨aQ,bj⟩:=au i v x ay hx
  refine⟨by
   rcases hd with hd|⟨rfl,u,hd,_⟩
   ·rw [hd];exact .v _ _ aQ
   ·rw [hd];cases aQ;exact .ld _ _ _,λT aS=>?_⟩
  obtain⟨k,n,get,rfl⟩:=fL T aS;unfold ta at bj;split at bj<;>simp_all
 ·simp [execOp,aA,Instr.alloc,r.CT,newVar,newRow]
def IW(tt:dx)(aI:eE)(id:Nat):∀(l:List D) (i j:Nat),(pD tt aI id i l)[j]? = (l[j]?).map (vC tt aI id (i+j))
 |[],i,j=>by simp [pD]
 |d::l,i,0=>by simp [pD]
 |d::l,i,j+1=>by
  simp only [pD,List.getElem?_cons_succ];rw [IW tt aI id l (i+1) j,show i+1+j=i+(j+1)by omega]
def IX(tt:dx)(aI:eE)(id:Nat):∀(l:List D) (i:Nat),(pD tt aI id i l).length=l.length
 |[],i=>rfl
 |d::l,i=>by simp only [pD,List.length_cons,IX tt aI id l (i+1)]
def Sk{M:Mem}{β:Nat→Option Nat}(tt:dx)(aI:eE)(id i:Nat)(d:D)(pI:∀r o u,d ≠ .cx r o u){v:Value}(h:cz M β v d):
 cz M β v (vC tt aI id i d).d∧(∀T,(vC tt aI id i d).own=some T→v = .slice none 0 0)∧∀r o u,(vC tt aI id i d).d = .cx r o u→(o,u)∈aI.jd:=by
 unfold vC;split
 ·rcases Si aI.jd id i .ew with Z|⟨_,u,Z,af⟩
  ·simp only [Z];exact⟨h,(λT aS=>by cases aS),(λr o u e=>by cases e)⟩
  ·simp only [Z]
   cases h with|v u x hx=>cases hx with
    |ew=>exact⟨.ld _ _ _,(λT aS=>by cases aS),(λr o u e=>by cases e;exact af)⟩
 ·split
  ·cases h with|v u x hx=>cases hx with
    |nI=>exact⟨.v _ _ (.lb _ _),λ_ _=>rfl,λr o u e=>by cases e⟩
  ·exact⟨h,(λT aS=>by cases aS),(λr o u e=>by cases e)⟩
 ·exact⟨h,(λT aS=>by cases aS),λr o u e=>absurd e (pI r o u)⟩
def acC(h:fx P K N M β g tmps w)(hp:fG tmps p){t:TypeId}{x:Operand}(aA:o.op = .box t x){d:D}(hx:rd g.env g.b0 p tt o.type x=some d)(bU:pB d=false)(pI:qD (cellsD d)=true)(cj:e7 P tt=true){aI:eE}(ag:look tt t=some aI)(el:(cellsD d).length=aI.size){id fc:Nat}(hid:m7 g o=some (id,fc)):
 Yields P K M β g {e:=some {d:=.ptr id 0},hs:=[(id,pD tt aI id 0 (cellsD d))],fc,rs:=g.rs} o tmps w:=by
 obtain⟨r⟩:=et cj ag;obtain⟨Z,af,au⟩:=(d_ (ds:=[]) h hp hx).cells bU;refine Se h (vs:=((⟨tmps,[]⟩:Act).eval x).cells.toList) (T:=t) (by rw [IX];simpa using Z) af (λe he q off u hd=>?_) (λi v e ay he=>?_) ?_ hid
 ·obtain⟨i,hi,rfl⟩:=List.getElem_of_mem he;have hg:(pD tt aI id 0 (cellsD d))[i]? = some _:=List.getElem?_eq_getElem hi;rw [IW,Option.map_eq_some_iff]at hg;obtain⟨c,hc,IY⟩:=hg;rw [←IY]at hd;have vR:i<((⟨tmps,[]⟩:Act).eval x).cells.toList.length:=by rw [IX]at hi;omega
  have:=(Sk tt aI id (0+i) c (yK pI c (List.mem_of_getElem? hc)) (au i _ c (List.getElem?_eq_getElem vR) hc)).2.2 q off u hd
  have hb:=List.all_eq_true.1 r.jd _ this;rw [Z,el];exact hb
 ·rw [IW,Option.map_eq_some_iff]at he;obtain⟨c,hc,rfl⟩:=he;obtain⟨g1,g2,_⟩:=Sk tt aI id (0+i) c (yK pI c (List.mem_of_getElem? hc)) (au i v c ay hc);exact⟨g1,g2⟩
 ·simp [execOp,aA,Instr.box,newVar,newRow]
end
def na{α:Type}:∀(cs:List α) (off:Nat) (xs:List α),off+xs.length≤cs.length→(setAt cs off xs).length=cs.length∧∀(i:Nat),(setAt cs off xs)[i]? = if off≤i∧i<off+xs.length then xs[i-off]? else cs[i]?
 |[],0,[],_=>by simp [setAt]
 |[],0,x::xs,h=>by simp at h
 |[],n+1,xs,h=>by simp at h
 |c::cs,0,[],_=>by
  refine⟨by simp [setAt],λi=>?_⟩
  simp only [setAt,List.length_nil];rw [if_neg (by omega)]
 |c::cs,0,x::xs,h=>by
  obtain⟨Z,af⟩:=na cs 0 xs (by simp at h ⊢;omega)
  refine⟨by simp [setAt,Z],λi=>?_⟩
  cases i with
  |zero=>simp [setAt]
  |succ i=>
   simp only [setAt,List.getElem?_cons_succ,af i,Nat.zero_add,List.length_cons];by_cases hi:i<xs.length<;>simp [hi]
 |c::cs,n+1,xs,h=>by
  obtain⟨Z,af⟩:=na cs n xs (by simp at h ⊢;omega)
  refine⟨by simp [setAt,Z],λi=>?_⟩
  cases i with
  |zero=>simp [setAt]
  |succ i=>
   simp only [setAt,List.getElem?_cons_succ,af i];by_cases hi:n≤i∧i<n+xs.length
   ·rw [if_pos hi,if_pos (by omega)];congr 1;omega
   ·rw [if_neg hi,if_neg (by omega)]
def IZ(off:Nat):∀(l:List Value) (k:Nat) (cs:Array Value),off+k+l.length≤cs.size→
 ((l.zipIdx k).foldl (λcs (x:Value×Nat)=>cs.setIfInBounds (off+x.2) x.1) cs).size=cs.size∧
 ∀(i:Nat),((l.zipIdx k).foldl (λcs (x:Value×Nat)=>cs.setIfInBounds (off+x.2) x.1) cs)[i]? = if off+k≤i∧i<off+k+l.length then l[i-(off+k)]? else cs[i]?
 |[],k,cs,h=>by
  refine⟨rfl,λi=>?_⟩
  simp only [List.zipIdx_nil,List.foldl_nil,List.length_nil];rw [if_neg (by omega)]
 |x::l,k,cs,h=>by
  obtain⟨Z,af⟩:=IZ off l (k+1) (cs.setIfInBounds (off+k) x) (by simp at h ⊢;omega)
  simp only [List.zipIdx_cons,List.foldl_cons];refine⟨by simpa using Z,λi=>?_⟩
  rw [af i];simp only [List.length_cons]at h ⊢;by_cases au:off+(k+1)≤i∧i<off+(k+1)+l.length
  ·rw [if_pos au,if_pos (by omega)]
   obtain⟨j,rfl⟩:∃j,i=off+k+1+j:=⟨i-(off+k+1),by omega⟩
   rw [show off+k+1+j-(off+(k+1))=j by omega,show off+k+1+j-(off+k)=j+1 by omega]
   simp
  ·rw [if_neg au];by_cases aQ:i=off+k
   ·subst aQ;rw [if_pos (by omega)]
    have:off+k<cs.size:=by omega
    simp [this]
   ·rw [if_neg (by omega)]
    rw [Array.getElem?_setIfInBounds_ne (Ne.symm aQ)]
section
variable {P:Program} {K:Ctx} {N:Nat} {M:Mem} {β:Nat→Option Nat} {g:di} {tmps:Array Value} {w:World} {o:Oper} {f:kN} {p:Path} {tt:dx} {cn:gg} {ops:List Oper}
structure Cells(M:Mem)(β:Nat→Option Nat)(vs:List Value)(cs:List D):Prop where
 len:vs.length=cs.length
 one:∀v,v∈vs→v.oneCell'=true
 rep:∀(i:Nat) v c,vs[i]? = some v→cs[i]? = some c→cz M β v c
def CZ{vs:List Value}(h:∀v,v∈vs→v.oneCell'=true){i:Nat}{v:Value}(hi:vs[i]? = some v):v.oneCell'=true:=h v (List.mem_of_getElem? hi)
def Sl{vs:List Value}(h:∀(i:Nat) v,vs[i]? = some v→v.oneCell'=true):∀v,v∈vs→v.oneCell'=true:=λv ay=>by
 obtain⟨i,hi⟩:=List.getElem?_of_mem ay;exact h i v hi
def Cells.set{vs:List Value}{cs:List D}(h:Cells M β vs cs){ws:List Value}{ds:List D}(dp:Cells M β ws ds){off:Nat}(hle:off+ds.length≤cs.length){vs':List Value}(hlen:vs'.length=vs.length)
 (iq:∀(i:Nat),vs'[i]? = if off≤i∧i<off+ws.length then ws[i-off]? else vs[i]?):Cells M β vs' (setAt cs off ds):=by
 obtain⟨Z,af⟩:=na cs off ds hle;refine⟨by rw [hlen,Z,h.len],Sl λi v ay=>?_,λi v c ay hc=>?_⟩
 ·rw [iq i]at ay;split at ay
  ·exact CZ dp.one ay
  ·exact CZ h.one ay
 ·rw [iq i]at ay;rw [af i]at hc;by_cases hi:off≤i∧i<off+ds.length
  ·rw [if_pos hi]at hc;rw [if_pos (by rw [dp.len];exact hi)]at ay
   exact dp.rep _ v c ay hc
  ·rw [if_neg hi]at hc;rw [if_neg (by rw [dp.len];exact hi)]at ay
   exact h.rep _ v c ay hc
def I0{place:Nat→Option (Nat×Nat)}:∀{cJ:List (Nat×D)} {vs:List (Nat×Value)} {cs cs':List D} {cells:Array Value},vs.length=cJ.length→
 (∀(i:Nat) a b,cJ[i]? = some a→vs[i]? = some b→a.1=b.1∧cz M β b.2 a.2)→Cells M β cells.toList cs→qE place cs cJ=some cs'→
 ∃ji,Instr.fill place cells vs=some ji∧Cells M β ji.toList cs'
 |[],[],cs,cs',cells,_,_,hc,h=>by simp [qE]at h;subst h;exact⟨cells,rfl,hc⟩
 |[],_::_,_,_,_,h,_,_,_=>by simp at h
 |_::_,[],_,_,_,h,_,_,_=>by simp at h
 |(i,d)::cJ,(j,v)::vs,cs,cs',cells,hn,ak,hc,h=>by
  obtain⟨Sm,hd⟩:=ak 0 (i,d) (j,v) (by simp) (by simp)
  simp only at Sm hd
  subst Sm;simp only [qE]at h;split at h
  ·cases h
  ·rename_i off size jj;rw [Bool.cond_eq_ite]at h;split at h
   case isFalse=>cases h
   rename_i hb;simp only [Bool.and_eq_true,Nat.beq_eq,Nat.ble_eq,Bool.not_eq_true']at hb;obtain⟨⟨cN,fp⟩,I1⟩:=hb;obtain⟨Z,af,au⟩:=hd.cells I1;have el:cells.size=cs.length:=by simpa using hc.len
   have ee:v.cells.size=size:=by simpa [cN]using Z
   have a':=IZ off v.cells.toList 0 cells (by simp [ee];omega)
   have I2:v.cells.zipIdx.foldl (λcs (x:Value×Nat)=>cs.setIfInBounds (off+x.2) x.1) cells=(v.cells.toList.zipIdx 0).foldl (λcs (x:Value×Nat)=>cs.setIfInBounds (off+x.2) x.1) cells:=by
    rw [←Array.foldl_toList,Array.toList_zipIdx]
   have jA:Cells M β (v.cells.zipIdx.foldl (λcs (x:Value×Nat)=>cs.setIfInBounds (off+x.2) x.1) cells).toList (setAt cs off (cellsD d)):=by
    rw [I2];refine hc.set ⟨Z,af,au⟩ (by omega) (by simpa using a'.1) (λk=>?_)
    have:=a'.2 k
    simp only [Nat.add_zero]at this;rw [Array.getElem?_toList,this];simp only [Array.getElem?_toList]
   obtain⟨ji,yQ,oI⟩:=I0 (place:=place) (by simpa using hn) (λk a b ha hb=>ak (k+1) a b (by simpa using ha) (by simpa using hb)) jA h
   refine⟨ji,?_,oI⟩
   simp only [Instr.fill,jj];rw [if_neg (by simp;omega)]
   exact yQ
def rO{α dJ:Type}{f:α→Option dJ}:∀{l:List α} {cL:List dJ},mapM' f l=some cL→cL.length=l.length∧∀(i:Nat) a b,l[i]? = some a→cL[i]? = some b→f a=some b
 |[],cL,h=>by simp [mapM']at h;subst h;simp
 |x::l,cL,h=>by
  simp only [mapM']at h;split at h<;>simp at h
  rename_i y ys cc acD;subst h;obtain⟨Z,af⟩:=rO acD;refine⟨by simp [Z],λi a b ha hb=>?_⟩
  cases i with
  |zero=>simp at ha hb;subst ha;subst hb;exact cc
  |succ i=>simp at ha hb;exact af i a b ha hb
def Row.Sn{t:TypeId}{aI:eE}(r:Row P t aI):Cells M β r.z.cells.toList (aI.zero.map .v):=by
 obtain⟨Z,af,au⟩:=vM (M:=M) r.yO;refine⟨by simpa using Z,af,λi v c ay hc=>?_⟩
 simp only [List.getElem?_map,Option.map_eq_some_iff]at hc;obtain⟨x,hx,rfl⟩:=hc;exact .v _ _ (au i v x ay hx).1
def acE{M:Mem}{v:Value}{x:V}(h:ta v x=true):dl M v (IB x):=by
 have h0:=(IQ (M:=M) h).1;unfold ta at h;split at h<;>first|exact h0|skip
 ·rename_i k n g;have:n=0:=by simpa using h
  subst this;exact .nI _ _
 ·cases h
def Row.acF{t:TypeId}{aI:eE}(r:Row P t aI):Cells M β r.z.cells.toList (aI.zero.map λx=>.v (IB x)):=by
 obtain⟨Z,af,au⟩:=vM (M:=M) r.yO;refine⟨by simpa using Z,af,λi v c ay hc=>?_⟩
 simp only [List.getElem?_map,Option.map_eq_some_iff]at hc;obtain⟨x,hx,rfl⟩:=hc;exact .v _ _ (acE (au i v x ay hx).2)
def I3(h:fx P K N M β g tmps w)(hp:fG tmps p){ty:Nat→TypeId}{parts:Array (Nat×Operand)}{cJ:List (Nat×D)}(lA:mapM' (fun(x:Nat×Operand)=>(rd g.env g.b0 p tt (ty x.1) x.2).map λd=>(x.1,d)) parts.toList=some cJ):
 ((parts.map fun(x:Nat×Operand)=>(x.1,(⟨tmps,[]⟩:Act).eval x.2)).toList).length=cJ.length∧
 ∀(i:Nat) a b,cJ[i]? = some a→(parts.map fun(x:Nat×Operand)=>(x.1,(⟨tmps,[]⟩:Act).eval x.2)).toList[i]? = some b→a.1=b.1∧cz M β b.2 a.2:=by
 obtain⟨Z,af⟩:=rO lA;refine⟨by simpa using Z.symm,λi a b ha hb=>?_⟩
 simp only [Array.toList_map,List.getElem?_map,Option.map_eq_some_iff]at hb;obtain⟨x,hx,rfl⟩:=hb;have:=af i x a hx ha
 simp only [Option.map_eq_some_iff]at this;obtain⟨d,hd,rfl⟩:=this;exact⟨rfl,d_ h hp hd⟩
def run_places{cG:Array Field}{l:List (Nat×TypeId×Nat)}(ag:l=cG.toList.map λf=>(f.offset,f.type,P.cellsOf f.type))(hs:∀f,f∈cG.toList→1≤P.cellsOf f.type):
 (cG.mapM λf=>(do pure (f.offset,←sizeOf f.type):Sem (Nat×Nat))).run P w = .ok (cG.map λf=>(f.offset,P.cellsOf f.type)) w:=by
 obtain⟨vS⟩:=cG;rw [List.mapM_toArray]
 have key:∀(l:List Field),(∀f,f∈l→1≤P.cellsOf f.type)→(l.mapM λf=>(do pure (f.offset,←sizeOf f.type):Sem (Nat×Nat))).run P w = .ok (l.map λf=>(f.offset,P.cellsOf f.type)) w:=by
  intro l;induction l with
  |nil=>intro _;rfl
  |cons f l bc=>
   intro a';have h0:=a' f (by simp)
   have Z:(sizeOf f.type).run P w = .ok (P.cellsOf f.type) w:=by
    cases hi:P.info? f.type with
    |none=>simp [Program.cellsOf,hi]at h0
    |some i=>exact Go.run_sizeOf w hi
   simp only [List.mapM_cons,Sem.run_bind,Z,Result.andThen_ok,Sem.run_pure,bc (λf h=>a' f (by simp [h])),List.map_cons]
 simp only [Sem.run_map,key vS (by simpa using hs),Result.andThen_ok]
 simp
def So(h:fx P K N M β g tmps w)(hp:fG tmps p)(cj:e7 P tt=true){t:TypeId}{aI:eE}(ag:look tt t=some aI){cG:List (Nat×TypeId×Nat)}(hk:aI.k = .b9 cG)(nb:cG.all (λf=>Nat.ble 1 f.2.2)=true)
 {parts:Array (Nat×Operand)} (aA:o.op = .build t parts) {cJ:List (Nat×D)} (lA:mapM' (fun(x:Nat×Operand)=>(rd g.env g.b0 p tt (qG tt t x.1) x.2).map λd=>(x.1,d)) parts.toList=some cJ)
 {zs:List D} (tf:∀(r:Row P t aI),Cells M β r.z.cells.toList zs) {cs:List D} (a':qE (fun(i:Nat)=>(cG[i]?).map fun(f:Nat×TypeId×Nat)=>(f.1,f.2.2)) zs cJ=some cs) {rs:List fo}:
 Yields P K M β g {e:=some {d:=lX cs},rs} o tmps w:=by
 obtain⟨r⟩:=et cj ag;obtain⟨gs,hd,I4⟩:=IU r hk;obtain⟨Z,af⟩:=I3 h hp lA;obtain⟨cells,yQ,hc⟩:=I0 Z af (tf r) a'
 have C0:∀f,f∈gs.toList→1≤P.cellsOf f.type:=by
  intro fd l4;rw [List.all_eq_true]at nb;have:=nb (fd.offset,fd.type,P.cellsOf fd.type) (by rw [I4];exact List.mem_map.2 ⟨fd,l4,rfl⟩)
  simpa using this
 have jj:(fun(i:Nat)=>(gs.map λf=>(f.offset,P.cellsOf f.type))[i]?)=fun(i:Nat)=>(cG[i]?).map fun(f:Nat×TypeId×Nat)=>(f.1,f.2.2):=by
  funext i
  rw [I4];cases hi:gs[i]? <;> simp [hi]
 refine e8 h (v:=.agg cells) ?_ ?_
 ·simp only [execOp,aA];refine iF _ ?_;have acG:=run_places (P:=P) (w:=w) I4 C0;simp only [Instr.build,Sem.run_bind,r.CT,Result.andThen_ok,r.run_underlying,hd,acG,jj];have:Instr.fill (fun(i:Nat)=>(cG[i]?).map fun(f:Nat×TypeId×Nat)=>(f.1,f.2.2)) r.z.cells (parts.map fun(x:Nat×Operand)=>(x.1,(⟨tmps,[]⟩:Act).eval x.2)).toList=some cells:=yQ
  rw [this];rfl
 ·have:=vO hc.len hc.one hc.rep
  simpa using this
def acH(h:fx P K N M β g tmps w)(hp:fG tmps p)(cj:e7 P tt=true){t:TypeId}{aI:eE}(ag:look tt t=some aI){n:Nat}{e:TypeId}(hk:aI.k = .arr n e){ct:eE}(eG:look tt e=some ct)
 {parts:Array (Nat×Operand)} (aA:o.op = .build t parts) {cJ:List (Nat×D)} (lA:mapM' (fun(x:Nat×Operand)=>(rd g.env g.b0 p tt (qG tt t x.1) x.2).map λd=>(x.1,d)) parts.toList=some cJ)
 {cs:List D} (a':qE (λi=>some (i*ct.size,ct.size)) (aI.zero.map .v) cJ=some cs):
 Yields P K M β g {e:=some {d:=lX cs},rs:=g.rs} o tmps w:=by
 obtain⟨r⟩:=et cj ag;obtain⟨ao⟩:=et cj eG;obtain⟨Z,af⟩:=I3 h hp lA;obtain⟨cells,yQ,hc⟩:=I0 Z af (r.Sn (β:=β)) a';refine e8 h (v:=.agg cells) ?_ ?_
 ·simp only [execOp,aA];refine iF _ ?_;simp only [Instr.build,Sem.run_bind,r.CT,Result.andThen_ok,r.run_underlying,acu r hk,ao.run_sizeOf];have:Instr.fill (λi=>some (i*ct.size,ct.size)) r.z.cells (parts.map fun(x:Nat×Operand)=>(x.1,(⟨tmps,[]⟩:Act).eval x.2)).toList=some cells:=yQ
  rw [this];rfl
 ·have:=vO hc.len hc.one hc.rep
  simpa using this
end
section
variable {P:Program} {K:Ctx} {N:Nat} {M:Mem} {β:Nat→Option Nat} {g:di} {tmps:Array Value} {w:World} {o:Oper} {f:kN} {p:Path} {tt:dx} {cn:gg} {ops:List Oper}
def iG(M:Mem)(b:Nat)(lo:Nat)(vs:List Value):Mem:=λbK o=>if bK=b∧lo≤o∧o<lo+vs.length then vs[o-lo]? else M bK o
def I5{b lo:Nat}{vs:List Value}(h:∀o,lo≤o→M b o=none):M.le (iG M b lo vs):=by
 intro bK o v ay;unfold iG;split
 ·rename_i hc;obtain⟨rfl,Z,af⟩:=hc;rw [h o Z]at ay;cases ay
 ·exact ay
def C1{b lo:Nat}{vs:List Value}{i:Nat}{v:Value}(h:vs[i]? = some v):iG M b lo vs b (lo+i)=some v:=by
 have hi:i<vs.length:=(List.getElem?_eq_some_iff.1 h).1;unfold iG;rw [if_pos ⟨rfl,by omega,by omega⟩,show lo+i-lo=i by omega,h]
def acI{k:Nat}{n:Nat}{cells:List Value}(ag:cells.length=n*k){i j:Nat}(hi:i<n)(hj:j<k):cells[i*k+j]? = some (cells.getD (i*k+j) undef):=by
 have:i*k+j<cells.length:=by
  have Z:(i+1)*k≤n*k:=Nat.mul_le_mul_right k hi;rw [Nat.add_mul]at Z;omega
 simp [List.getD,List.getElem?_eq_getElem this]
def bN.newRow{st:aJ}(h:bN P K M β st tmps w){vs:List Value}{T:TypeId}{n:Nat}{w':World}(hw:w'.heap=w.heap.push (.cells ⟨vs⟩ T (0,0)))(nP:(w'.os,w'.output)=(w.os,w.output):=by rfl):
 bN P K (iG M w.heap.size 0 (vs.take n)) β st tmps w'∧M.le (iG M w.heap.size 0 (vs.take n)):=by
 have c7:M.le (iG M w.heap.size 0 (vs.take n)):=I5 λo _=>h.IV o
 refine⟨h.free w.heap.size ?_ ?_ ?_ ?_ c7 ?_ ?_ nP,c7⟩
 ·cases dC:K.F w.heap.size with
  |none=>rfl
  |some bb=>have:=lt_of_heap (h.frame _ bb dC).1;omega
 ·intro r cs ak hb;have:=h.yL ak hb;omega
 ·intro l e T ag aS hb;have:=(h.own l e T ag aS).lt hb;omega
 ·intro bK _ bT;rw [hw];simp [Array.getElem?_push,Nat.ne_of_lt bT]
 ·intro bK o bT;simp [iG,bT]
 ·intro o v ay;unfold iG at ay;split at ay
  ·rename_i hc;simp only [Nat.sub_zero]at ay;rw [List.getElem?_take]at ay;split at ay
   ·have:w'.heap[w.heap.size]? = some (.cells ⟨vs⟩ T (0,0)):=by rw [hw];simp
    rw [cell_of_heap this,ay]
   ·cases ay
  ·rw [h.IV o]at ay;cases ay
def I6{st:aJ}(h:bN P K M β st tmps w){l0:Loc}{T:TypeId}{vs:List Value}{T':TypeId}(I7:T'=T){n cap:Nat}{w':World}(hw:w'.heap=w.heap.push (.cells ⟨vs⟩ T' (0,0)))(hn:n≤cap)
 (hcap:cap*P.cellsOf T≤vs.length):lZ P K (iG M w.heap.size 0 (vs.take (n*P.cellsOf T))) β st tmps w' l0 (.slice (some ⟨w.heap.size,0,none⟩) n cap) T:=by
 have pJ:w'.heap[w.heap.size]? = some (.cells ⟨vs⟩ T' (0,0)):=by rw [hw];simp
 refine⟨.inr ⟨w.heap.size,n,cap,vs,T',rfl,hn,pJ,hcap,λo aA=>?_,?_,I7⟩,?_,?_⟩
 ·have hle:n*P.cellsOf T≤vs.length:=Nat.le_trans (Nat.mul_le_mul_right _ hn) hcap;unfold iG;rw [if_neg,h.IV o]
  rintro ⟨_,_,au⟩
  simp only [List.length_take]at au;omega
 ·cases dC:K.F w.heap.size with
  |none=>rfl
  |some bb=>have:=lt_of_heap (h.frame _ bb dC).1;omega
 ·intro l e oG b ag aS _ hb bT;simp [iC,jy]at hb;subst hb
  have hold:ci tmps w' β l=ci tmps w β l:=by
   cases l with
   |slot s=>rfl
   |cell r i=>
    simp only [aJ.at]at ag;cases ak:look st.H r with
    |none=>simp [ak]at ag
    |some cs=>
     obtain⟨b4,m9,gB,cN,bz,_⟩:=h.box r cs ak;simp only [ci,cN];rw [qK (w:=w) (by rw [hw];simp [Array.getElem?_push,Nat.ne_of_lt (lt_of_heap bz)])]
  rw [hold]at bT;have:=(h.own l e oG ag aS).lt bT
  omega
 ·intro b r cs hb ak bT;simp [iC,jy]at hb;subst hb;have:=h.yL ak bT
  omega
def Sp{size:Nat}:∀(l:List (Nat×Value)) (m:Nat) (cells:Array Value),(∀(i:Nat) x,l[i]? = some x→x.1=m+i∧x.2.cells.size=size)→(m+l.length)*size≤cells.size→
 ∃ji,Instr.fill (λi=>some (i*size,size)) cells l=some ji∧ji.size=cells.size∧(∀i,i<m*size→ji[i]? = cells[i]?)∧
  ∀(i:Nat) x (j:Nat) u,l[i]? = some x→x.2.cells[j]? = some u→ji[(m+i)*size+j]? = some u
 |[],m,cells,_,_=>⟨cells,rfl,rfl,λ_ _=>rfl,by simp⟩
 |(a,v)::l,m,cells,ag,hle=>by
  obtain⟨ha,el⟩:=ag 0 (a,v) (by simp)
  simp only [Nat.add_zero]at ha;simp only at el
  subst ha
  have aol:a*size+size≤cells.size:=by
   have Z:(a+1)*size≤(a+((a,v)::l).length)*size:=Nat.mul_le_mul_right _ (by simp)
   rw [Nat.add_mul,Nat.one_mul]at Z;omega
  have a':=IZ (a*size) v.cells.toList 0 cells (by simp [el];omega)
  have I2:v.cells.zipIdx.foldl (λcs (x:Value×Nat)=>cs.setIfInBounds (a*size+x.2) x.1) cells=(v.cells.toList.zipIdx 0).foldl (λcs (x:Value×Nat)=>cs.setIfInBounds (a*size+x.2) x.1) cells:=by
   rw [←Array.foldl_toList,Array.toList_zipIdx]
  rw [←I2]at a';generalize jB:v.cells.zipIdx.foldl (λcs (x:Value×Nat)=>cs.setIfInBounds (a*size+x.2) x.1) cells=c1 at a'
  obtain⟨ji,Z,af,au,aQ⟩:=Sp l (a+1) c1 (λi x hx=>by
   obtain⟨Z,af⟩:=ag (i+1) x (by simpa using hx)
   exact⟨by omega,af⟩) (by rw [a'.1];simpa [Nat.add_assoc,Nat.add_comm 1]using hle)
  refine⟨ji,?_,by rw [af,a'.1],λi hi=>?_,λi x j u hx hu=>?_⟩
  ·simp only [Instr.fill];rw [if_neg (by simp [el];omega)]
   have:v.cells.zipIdx.foldl (λcs (c,j)=>cs.setIfInBounds (a*size+j) c) cells=c1:=jB
   rw [this];exact Z
  ·rw [au i (by rw [Nat.add_mul];omega),a'.2 i,if_neg (by omega)]
  ·cases i with
   |zero=>
    simp at hx;subst hx
    simp only at hu
    have hj:j<size:=by rw [←el];exact(Array.getElem?_eq_some_iff.1 hu).1
    rw [Nat.add_zero,au _ (by rw [Nat.add_mul,Nat.one_mul];omega),a'.2,if_pos (by simp [el];omega)]
    simpa using hu
   |succ i=>
    have:=aQ i x j u (by simpa using hx) hu
    rw [show a+(i+1)=a+1+i by omega];exact this
def Sq{Sr:Bool}{size:Nat}:∀{cJ:List (Nat×D)} {n:Nat} {xs:List V},elems Sr size n cJ=some xs→xs.length=cJ.length∧
 ∀(i:Nat) y x,cJ[i]? = some y→xs[i]? = some x→y=(n+i,.v x)∧x.cells.length=size∧x.isAgg=Sr
 |[],n,xs,h=>by simp [elems]at h;subst h;simp
 |(j,d)::cJ,n,xs,h=>by
  cases d<;>simp only [elems]at h<;>try cases h
  rename_i fq;rw [Bool.cond_eq_ite]at h;split at h
  case isFalse=>cases h
  rename_i hb;simp only [Bool.and_eq_true,Nat.beq_eq,beq_iff_eq]at hb;obtain⟨⟨cN,fp⟩,I1⟩:=hb;simp only [Option.map_eq_some_iff]at h;obtain⟨ys,cc,rfl⟩:=h;obtain⟨Z,af⟩:=Sq cc;refine⟨by simp [Z],λi y x hi hx=>?_⟩
  cases i with
  |zero=>simp at hi hx;subst hi;subst hx;exact⟨by simp [cN],fp,I1⟩
  |succ i=>
   simp at hi hx
   obtain⟨au,aQ⟩:=af i y x hi hx;exact⟨by rw [au];simp;omega,aQ⟩
def acJ(h:fx P K N M β g tmps w)(hp:fG tmps p)(cj:e7 P tt=true){t e:TypeId}{aI ct:eE}(ag:look tt t=some aI)(hk:aI.k = .bL e)(eG:look tt e=some ct){len:Nat}
 {parts:Array (Nat×Operand)} (aA:o.op = .buildSlice t len parts) {cJ:List (Nat×D)} (lA:mapM' (fun(x:Nat×Operand)=>(rd g.env g.b0 p tt (qG tt t x.1) x.2).map λd=>(x.1,d)) parts.toList=some cJ)
 {xs:List V} (hx:elems ct.k.isAgg ct.size 0 cJ=some xs) (hlen:xs.length=len) (_hs:1≤ct.size) (hb:len*ct.size≤16777216) {x:V} (ay:gH (.bL ct.size len λi=>xs.getD i .ew) x) {rs:List fo} {bb:List Prop}:
 Yields P K M β g {e:=some {d:=.v x,own:=some e},rs,bb} o tmps w:=by
 obtain⟨r⟩:=et cj ag;obtain⟨dT⟩:=et cj eG;obtain⟨Z,af⟩:=I3 h hp lA;obtain⟨aom,I8⟩:=Sq hx;generalize qO:(parts.map fun(x:Nat×Operand)=>(x.1,(⟨tmps,[]⟩:Act).eval x.2))=pa at Z af
 generalize my:pa.toList=vs at Z af
 have jj:vs.length=len:=by omega
 have hQ:∀(i:Nat) b,vs[i]? = some b→∃x,xs[i]? = some x∧b.1=i∧dl M b.2 x∧x.cells.length=ct.size:=by
  intro i b hi;have IJ:i<vs.length:=(List.getElem?_eq_some_iff.1 hi).1;have ha:cJ[i]? = some cJ[i]:=List.getElem?_eq_getElem (by omega)
  have l6:xs[i]? = some xs[i]:=List.getElem?_eq_getElem (by omega)
  obtain⟨au,aQ,_⟩:=I8 i _ _ ha l6;obtain⟨bj,cb⟩:=af i _ b ha hi;rw [au]at bj cb;exact⟨_,l6,by simpa using bj.symm,m_ cb,aQ⟩
 have oI:∀(i:Nat) b,vs[i]? = some b→∃x,xs[i]? = some x∧b.1=i∧b.2.cells.size=ct.size∧(∀u,u∈b.2.cells.toList→u.oneCell'=true)∧∀(j:Nat) u c,b.2.cells.toList[j]? = some u→x.cells[j]? = some c→dl M u c:=by
  intro i b hi;obtain⟨x,au,aQ,bj,cb⟩:=hQ i b hi;obtain⟨de,dR,gS⟩:=(cz.v (β:=β) _ _ bj).cells rfl;refine⟨x,au,aQ,by simp [cellsD]at de;omega,dR,λj u c hu hc=>?_⟩
  exact m_ (gS j u (.v c) hu (by simp [cellsD,hc]))
 obtain⟨ji,vT,rP,aon,acK⟩:=Sp (size:=ct.size) vs 0 ((Array.range (len*ct.size)).map λi=>dT.z.cells[i % dT.z.cells.size]!) (λi x hi=>by
  obtain⟨y,au,aQ,bj,_⟩:=oI i x hi;exact⟨by omega,bj⟩) (by simp [jj])
 have el:ji.size=len*ct.size:=by rw [rP];simp
 have iq:∀i j,i<len→j<ct.size→∃b u,vs[i]? = some b∧b.2.cells.toList[j]? = some u∧ji.toList[i*ct.size+j]? = some u:=by
  intro i j hi hj;have eF:vs[i]? = some vs[i]:=List.getElem?_eq_getElem (by omega)
  obtain⟨y,au,aQ,bj,_⟩:=oI i _ eF;have hu:vs[i].2.cells[j]? = some vs[i].2.cells[j]:=Array.getElem?_eq_getElem (by omega)
  refine⟨vs[i],vs[i].2.cells[j],eF,(Array.getElem?_toList ..).trans hu,?_⟩
  have:=acK i _ j _ eF hu
  simpa using this
 have eM:(execOp (Act.eval ⟨tmps,[]⟩) o).run P w = .ok (.value (.slice (some ⟨w.heap.size,0,none⟩) len len)) {w with heap:=w.heap.push (.cells ⟨ji.toList⟩ e (0,0))}:=by
  simp only [execOp,aA];refine iF _ ?_;have bT:¬ (16777216<len*ct.size):=by omega
  have acL:(parts.map fun(x:Nat×Operand)=>match x with|(i,x)=>(i,(⟨tmps,[]⟩:Act).eval x))=pa:=qO
  rw [acL];simp only [Instr.buildSlice,Sem.run_bind,r.run_underlying,oH r hk,Result.andThen_ok,dT.run_sizeOf];by_cases h0:len*ct.size=0
  ·have bR:∀f:Nat→Value,(Array.range (len*ct.size)).map f = #[]:=by intro f;rw [h0];simp
   rw [bR]at vT;have e1:∀f:Nat→Value,(Array.range 0).map f = #[]:=by intro f;simp
   simp [h0,my,e1,vT,newRow]
  ·simp [h0,bT,dT.CT,my,vT,newRow]
 obtain⟨cW,hle⟩:=h.bu.newRow (w':={w with heap:=w.heap.push (.cells ⟨ji.toList⟩ e (0,0))}) (T:=e) (vs:=ji.toList) (n:=len*ct.size) rfl;have yR:ji.toList.take (len*ct.size)=ji.toList:=List.take_of_length_le (by simp [el])
 refine .inl ⟨_,_,eM,_,β,hle,λ_ _ h=>h,λ_ _ h=>.inl h,cW,λe1 he=>?_⟩
 cases he;refine⟨.v _ _ (ay _ _ (.bL _ 0 ct.size len len _ (λi j=>ji.toList.getD (i*ct.size+j) undef) (Nat.le_refl _) ?_ ?_ ?_ ?_)),λT l0 aS=>?_⟩
 ·intro i hi;have l6:xs[i]? = some xs[i]:=List.getElem?_eq_getElem (by omega)
  have ha:cJ[i]? = some cJ[i]:=List.getElem?_eq_getElem (by omega)
  simp only [List.getD,l6,Option.getD_some];exact(I8 i _ _ ha l6).2.1
 ·intro i j hi hj;obtain⟨b,u,_,_,hu⟩:=iq i j hi hj;rw [yR,Nat.zero_add];have:=C1 (M:=M) (b:=w.heap.size) (lo:=0) hu
  simpa [List.getD,hu]using this
 ·intro i j hi hj;obtain⟨b,u,cN,I9,hu⟩:=iq i j hi hj;obtain⟨y,_,_,_,cb,_⟩:=oI i b cN;simp only [List.getD,hu,Option.getD_some];exact CZ cb I9
 ·intro i j c hi hc;have l6:xs[i]? = some xs[i]:=List.getElem?_eq_getElem (by omega)
  simp only [List.getD,l6,Option.getD_some]at hc
  have hj:j<ct.size:=by
   have ha:cJ[i]? = some cJ[i]:=List.getElem?_eq_getElem (by omega)
   rw [←(I8 i _ _ ha l6).2.1];exact(List.getElem?_eq_some_iff.1 hc).1
  obtain⟨b,u,cN,I9,hu⟩:=iq i j hi hj;obtain⟨y,cc,_,_,_,de⟩:=oI i b cN;rw [l6]at cc;cases cc;simp only [List.getD,hu,Option.getD_some];exact(de j u c I9 hc).mono hle
 ·cases aS;have:=I6 (l0:=l0) (T:=e) h.bu (vs:=ji.toList) (T':=e) (n:=len) (cap:=len) (w':={w with heap:=w.heap.push (.cells ⟨ji.toList⟩ e (0,0))}) rfl rfl (Nat.le_refl _) (by rw [dT.cellsOf];simp [el])
  rw [dT.cellsOf]at this;exact this
end
section
variable {P:Program} {K:Ctx} {N:Nat} {M:Mem} {β:Nat→Option Nat} {g:di} {tmps:Array Value} {w:World} {o:Oper} {f:kN} {p:Path} {tt:dx} {cn:gg} {ops:List Oper}
def acM(h:fx P K N M β g tmps w)(hp:fG tmps p)(cj:e7 P tt=true){t:TypeId}{aI:eE}(ag:look tt t=some aI){a:Operand}(aA:o.op = .load t a){q off:Nat}(ha:rd g.env g.b0 p tt o.type a=some (.ptr q off))
 {cs:List aZ} (aE:look g.H q=some cs) (hv:aI.k.isAgg=true) (hle:off+aI.size≤cs.length):
 Yields P K M β g {e:=some {d:=lX (((cs.drop off).take aI.size).map (·.d))},rs:=g.rs} o tmps w:=by
 obtain⟨r⟩:=et cj ag;obtain⟨b,hb,ay⟩:=nQ (d_ (ds:=[]) h hp ha);obtain⟨bK,vs,T,bT,bz,hlen,_,_,gi,kr⟩:=h.bu.box q cs aE;rw [hb]at bT;cases bT;have eM:=CV (P:=P) (w:=w) r (off:=off) bz (by omega) hv
 refine e8 h (v:=.agg ⟨(vs.drop off).take aI.size⟩) ?_ ?_
 ·simp only [execOp,aA];rw [ay];exact iF _ eM
 ·refine vO (by simp;omega) (λv ay=>gi v (List.mem_of_mem_drop (List.mem_of_mem_take ay))) (λi v c ay hc=>?_)
  rw [List.getElem?_map,Option.map_eq_some_iff]at hc;obtain⟨e,he,rfl⟩:=hc;rw [List.getElem?_take]at ay he;split at ay
  ·rename_i hi;rw [if_pos hi,List.getElem?_drop]at he;rw [List.getElem?_drop]at ay;have:=h.bu.eW (.cell q (off+i)) e (by simp [aJ.at,aE,he])
   simpa [ci,hb,cell_of_heap bz,ay]using this
  ·cases ay
def acN(h:fx P K N M β g tmps w)(hp:fG tmps p)(cj:e7 P tt=true){t:TypeId}{aI:eE}(ag:look tt t=some aI){a:Operand}(aA:o.op = .load t a){q off:Nat}(ha:rd g.env g.b0 p tt o.type a=some (.ptr q off))
 {cs:List aZ} (aE:look g.H q=some cs) (hv:aI.k.isAgg=false) {e:aZ} (he:cs[off]? = some e):
 Yields P K M β g {e:=some {d:=e.d},rs:=g.rs} o tmps w:=by
 obtain⟨r⟩:=et cj ag;obtain⟨b,hb,ay⟩:=nQ (d_ (ds:=[]) h hp ha);obtain⟨bK,vs,T,v,bT,bz,eF,ck⟩:=II h.bu aE he;rw [hb]at bT;cases bT;have hc:w.cell? ⟨b,off,none⟩=some v:=by rw [cell_of_heap bz,eF]
 refine e8 h (v:=v) ?_ ?_
 ·simp only [execOp,aA];rw [ay];exact iF _ (IT (P:=P) r hc hv)
 ·have:=h.bu.eW (.cell q off) e (by simp [aJ.at,aE,he])
  rwa [ck]at this
def Ss{cs:List aZ}{off:Nat}{e:aZ}(c':off<cs.length)(i:Nat):(setAt cs off [e])[i]? = if i=off then some e else cs[i]? := by
 rw [(na cs off [e] (by simp;omega)).2 i]
 by_cases hi:i=off
 ·subst hi;simp
 ·rw [if_neg (by simp;omega),if_neg hi]
def acO(h:fx P K N M β g tmps w)(hp:fG tmps p)(cj:e7 P tt=true){t:TypeId}{aI:eE}(ag:look tt t=some aI){a:Operand}(aA:o.op = .load t a){q off:Nat}(ha:rd g.env g.b0 p tt o.type a=some (.ptr q off))
 {cs:List aZ} (aE:look g.H q=some cs) (hv:aI.k.isAgg=false) {e:aZ} (he:cs[off]? = some e) {s:TypeId} (hs:e.own=some s) {rs:List fo}:
 Yields P K M β g {e:=some e,hs:=[(q,setAt cs off [{d:=e.d}])],rs} o tmps w:=by
 obtain⟨r⟩:=et cj ag;obtain⟨b,hb,ay⟩:=nQ (d_ (ds:=[]) h hp ha);obtain⟨bK,vs,T,v,bT,bz,eF,ck⟩:=II h.bu aE he;rw [hb]at bT;cases bT;have hc:w.cell? ⟨b,off,none⟩=some v:=by rw [cell_of_heap bz,eF]
 have c':off<cs.length:=(List.getElem?_eq_some_iff.1 he).1
 have iE:=λl0=>h.bu.R6 aE he hs (cs':=setAt cs off [{d:=e.d}]) (na cs off _ (by simp;omega)).1 (λj a_ hj=>by
  rw [Ss c']at hj;by_cases I':j=off
  ·subst I';simp at hj;subst hj;exact⟨e,he,rfl,by simp⟩
  ·rw [if_neg I']at hj;exact⟨a_,hj,rfl,λT aS=>⟨aS,I'⟩⟩) l0
 refine .inl ⟨v,w,?_,M,β,Mem.le_refl _,λ_ _ h=>h,λ_ _ h=>.inl h,(iE (.slot 0)).1,λe1 oJ=>?_⟩
 ·simp only [execOp,aA];rw [ay];exact iF _ (IT (P:=P) r hc hv)
 ·cases oJ;refine⟨?_,λT l0 aS=>?_⟩
  ·have:=h.bu.eW (.cell q off) e (by simp [aJ.at,aE,he])
   rwa [ck]at this
  ·rw [hs]at aS;cases aS;have:=(iE l0).2
   rwa [ck]at this
def acP(h:fx P K N M β g tmps w)(hp:fG tmps p)(cj:e7 P tt=true){t:TypeId}{aI:eE}(ag:look tt t=some aI){a:Operand}(aA:o.op = .load t a){x:V}(ha:rd g.env g.b0 p tt o.type a=some (.eY x))
 (hv:x.isAgg=aI.k.isAgg) (hs:x.cells.length=aI.size):Yields P K M β g {e:=some {d:=.v x},rs:=g.rs} o tmps w:=by
 obtain⟨r⟩:=et cj ag;obtain⟨u,Z,af⟩:=act (w:=w) r h.bu.mem (d_ (ds:=[]) h hp ha) hv hs;exact e8 h (v:=u) (by simp only [execOp,aA];exact iF _ Z) (.v _ _ af)
def I_{t:TypeId}{aI:eE}(r:Row P t aI){b off:Nat}{vs:List Value}{T:TypeId}(bz:w.heap[b]? = some (.cells ⟨vs⟩ T (0,0))){v:Value}(hs:v.cells.size=aI.size)(gi:∀u,u∈v.cells.toList→u.oneCell'=true)
 (hle:off+aI.size≤vs.length):(Instr.storeAt t (.pointer (some ⟨b,off,none⟩)) v).run P w = .ok () (w.setRow b (vs.take off++v.cells.toList++vs.drop (off+aI.size)).toArray):=by
 have:=run_storeCells_at P b off T v.cells.toList 0 ⟨vs⟩ w bz (by simpa [hs]using hle) gi
 simp only [Nat.add_zero,Array.length_toList,hs]at this;simp [Instr.storeAt,Instr.sureAddr,storeVar,r.run_sizeOf,hs,this]
def yS{vs us:List Value}{off:Nat}(hle:off+us.length≤vs.length)(i:Nat):(vs.take off++us++vs.drop (off+us.length))[i]? = if off≤i∧i<off+us.length then us[i-off]? else vs[i]? := by
 have bU:(vs.take off).length=off:=by simp;omega
 by_cases Z:i<off
 ·rw [if_neg (by omega),List.append_assoc,List.getElem?_append_left (by omega),List.getElem?_take,if_pos Z]
 ·by_cases af:i<off+us.length
  ·rw [if_pos (by omega),List.append_assoc,List.getElem?_append_right (by omega),bU,List.getElem?_append_left (by omega)]
  ·rw [if_neg (by omega),List.getElem?_append_right (by simp;omega),List.getElem?_drop]
   congr 1
   simp;omega
def tg{vs us:List Value}{off:Nat}(hle:off+us.length≤vs.length):(vs.take off++us++vs.drop (off+us.length)).length=vs.length:=by
 simp;omega
def Ja{vs us:List Value}{off:Nat}(Z:∀v,v∈vs→v.oneCell'=true)(af:∀v,v∈us→v.oneCell'=true):∀v,v∈vs.take off++us++vs.drop (off+us.length)→v.oneCell'=true:=by
 intro v ay;rcases List.mem_append.1 ay with ay|ay
 ·rcases List.mem_append.1 ay with ay|ay
  ·exact Z v (List.mem_of_mem_take ay)
  ·exact af v ay
 ·exact Z v (List.mem_of_mem_drop ay)
def Jb{v:Value}{t:TypeId}{a x:Operand}(aA:o.op = .store t a x)(hx:(⟨tmps,[]⟩:Act).eval x=v){hy:Value}(ha:(⟨tmps,[]⟩:Act).eval a=hy){w':World}(h:(Instr.storeAt t hy v).run P w = .ok () w'):
 (execOp (Act.eval ⟨tmps,[]⟩) o).run P w = .ok .skip w':=by
 simp only [execOp,aA,hx,ha];simp [h]
def kQ.set{T:TypeId}{n:Nat}{cs ds:List aZ}{off:Nat}(h:kQ P T n cs)(hn:∀e,e∈ds→∀r o u,e.d ≠ .cx r o u)(hle:off+ds.length≤cs.length):kQ P T n (setAt cs off ds):=λe he r o u hd=>by
 obtain⟨i,hi,rfl⟩:=List.getElem_of_mem he;have hg:(setAt cs off ds)[i]? = some (setAt cs off ds)[i]:=List.getElem?_eq_getElem hi;rw [(na cs off ds hle).2 i]at hg;split at hg
 ·exact absurd hd (hn _ (List.mem_of_getElem? hg) r o u)
 ·exact h _ (List.mem_of_getElem? hg) r o u hd
def acQ(h:fx P K N M β g tmps w)(hp:fG tmps p)(cj:e7 P tt=true){t:TypeId}{aI:eE}(ag:look tt t=some aI){a x:Operand}(aA:o.op = .store t a x){q off:Nat}(ha:rd g.env g.b0 p tt o.type a=some (.ptr q off))
 {cs:List aZ} (aE:look g.H q=some cs) {d:D} (hx:rd g.env g.b0 p tt t x=some d) (bU:pB d=false) (pI:qD (cellsD d)=true) (hs:(cellsD d).length=aI.size) (hle:off+aI.size≤cs.length):
 Yields P K M β g {e:=none,hs:=[(q,setAt cs off ((cellsD d).map λd=>{d}))],rs:=g.rs} o tmps w:=by
 obtain⟨r⟩:=et cj ag;obtain⟨b,hb,ay⟩:=nQ (d_ (ds:=[]) h hp ha);obtain⟨bK,vs,T,bT,bz,hlen,_,_,gi,kr⟩:=h.bu.box q cs aE;rw [hb]at bT;cases bT;obtain⟨Z,af,au⟩:=(d_ (ds:=[]) h hp hx).cells bU;generalize hu:(⟨tmps,[]⟩:Act).eval x=u at Z af au
 have St:u.cells.size=aI.size:=by simp at Z;omega
 have pK:u.cells.toList.length=aI.size:=by simpa using St
 have eM:=I_ (P:=P) r (off:=off) bz St af (by omega)
 rw [←pK]at eM;refine .inr (.inl ⟨rfl,_,Jb aA hu ay eM,M,β,Mem.le_refl _,λ_ _ h=>h,λ_ _ h=>.inl h,?_,λe he=>by cases he⟩)
 have kS:=na cs off ((cellsD d).map λd=>({d}:aZ)) (by simp;omega)
 refine h.bu.CQ aE hb bz (vs':=vs.take off++u.cells.toList++vs.drop (off+u.cells.toList.length)) (by rw [tg (by omega),kS.1,hlen]) (Ja gi af) (λ_=>by
  rw [tg (by omega)]
  refine kr.set (λe he=>?_) (by simp;omega)
  obtain⟨c,hc,rfl⟩:=List.mem_map.1 he;exact yK pI c hc) kS.1
  (setRow_heap w b _ _ T (0,0) bz) (λbK ef=>setRow_other w b bK _ ef) cs.length (λi v e eF iH=>?_)
 rw [yS (by omega)]at eF
 rw [kS.2]at iH;simp only [List.length_map]at iH;by_cases hi:off≤i∧i<off+aI.size
 ·rw [if_pos (by omega)]at eF
  rw [if_pos (by omega),List.getElem?_map,Option.map_eq_some_iff]at iH
  obtain⟨c,hc,rfl⟩:=iH;exact⟨au _ v c eF hc,by simp⟩
 ·rw [if_neg (by omega)]at eF
  rw [if_neg (by omega)]at iH
  have Jc:i<cs.length:=(List.getElem?_eq_some_iff.1 iH).1;refine⟨?_,λT aS=>.inl ⟨by omega,⟨e,iH,aS⟩,eF⟩⟩
  have:=h.bu.eW (.cell q i) e (by simp [aJ.at,aE,iH])
  simpa [ci,hb,cell_of_heap bz,eF]using this
def Su(ty:Nat→Option TypeId):∀(l:List aZ) (n:Nat),(oB ty n l).length=l.length∧∀(i:Nat) a_,(oB ty n l)[i]? = some a_→∃e,l[i]? = some e∧((e.d=a_.d∧∀T,a_.own=some T→e.own=some T)∨∃k g,e.d = .v (.nI k g)∧a_.d = .v (.bL k 0 g))
 |[],n=>by simp [oB]
 |e::l,n=>by
  obtain⟨Z,af⟩:=Su ty l (n+1);refine⟨by simp [oB,Z],λi a_ he=>?_⟩
  cases i with
  |zero=>
   simp only [oB,List.getElem?_cons_zero,Option.some.injEq]at he;refine⟨e,rfl,?_⟩
   split at he
   ·rename_i k g hd;subst he;exact .inr ⟨k,g,hd,rfl⟩
   ·subst he;exact .inl ⟨rfl,λ_ h=>h⟩
  |succ i=>simp only [oB,List.getElem?_cons_succ]at he ⊢;exact af i a_ he
def Sv(h:fx P K N M β g tmps w)(hp:fG tmps p)(cj:e7 P tt=true){t:TypeId}{aI:eE}(ag:look tt t=some aI){a x:Operand}(aA:o.op = .store t a x){q off:Nat}(ha:rd g.env g.b0 p tt o.type a=some (.ptr q off))
 {cs:List aZ} (aE:look g.H q=some cs) {d:D} (hx:rd g.env g.b0 p tt t x=some d) (bU:pB d=false) (pI:qD (cellsD d)=true) (hs:(cellsD d).length=aI.size) (hle:off+aI.size≤cs.length) (ty:Nat→Option TypeId):
 Yields P K M β g {e:=none,hs:=[(q,oB ty 0 (setAt cs off ((cellsD d).map λd=>{d})))],rs:=g.rs} o tmps w:=by
 have up:∀{M':Mem} {β':Nat→Option Nat} {v:Value} {w':World},ip P K M β g {e:=none,hs:=[(q,setAt cs off ((cellsD d).map λd=>{d}))],rs:=g.rs} tmps v w'→
  ip P K M β g {e:=none,hs:=[(q,oB ty 0 (setAt cs off ((cellsD d).map λd=>{d})))],rs:=g.rs} tmps v w':=by
  rintro M' β' v w' ⟨th,qP,Z,af,au,aQ,_⟩
  refine⟨th,qP,Z,af,λr b hb=>?_,?_,λe he=>by cases he⟩
  ·rcases au r b hb with bj|bj
   ·exact .inl bj
   ·right
    simp only [dv]at bj ⊢;split at bj
    ·rename_i nc;simp [nc]
    ·cases bj
  ·obtain⟨g1,g2⟩:=Su ty (setAt cs off ((cellsD d).map λd=>({d}:aZ))) 0
   refine aQ.acd rfl (λl a_ cR=>?_) (λr cs' ak=>?_)
   ·cases l with
    |slot s=>exact⟨a_,cR,.inl ⟨rfl,λ_ h=>h⟩⟩
    |cell r i=>
     simp only [aJ.at,after,List.cons_append,List.nil_append,dv]at cR ⊢;by_cases nc:q=r
     ·simp only [nc,if_true,Option.bind_some]at cR ⊢;exact g2 i a_ cR
     ·simp only [nc,if_false]at cR ⊢;exact⟨a_,cR,.inl ⟨rfl,λ_ h=>h⟩⟩
   ·simp only [after,List.cons_append,List.nil_append,dv]at ak ⊢;by_cases nc:q=r
    ·simp only [nc,if_true,Option.some.injEq]at ak ⊢;subst ak;exact⟨_,rfl,g1.symm⟩
    ·simp only [nc,if_false]at ak ⊢;exact⟨cs',ak,rfl⟩
 rcases acQ h hp cj ag aA ha aE hx bU pI hs hle with⟨v,w',Z,af⟩|⟨h0,w',Z,af⟩|⟨fn,vs,Z,af⟩
 ·exact .inl ⟨v,w',Z,up (M':=M) (β':=β) af⟩
 ·exact .inr (.inl ⟨h0,w',Z,up (M':=M) (β':=β) af⟩)
 ·exact .inr (.inr ⟨fn,vs,Z,af.mono λe w' ⟨v,au,aQ⟩=>⟨v,au,up (M':=M) (β':=β) aQ⟩⟩)
def Sw(h:fx P K N M β g tmps w)(hp:fG tmps p)(cj:e7 P tt=true){t:TypeId}{aI:eE}(ag:look tt t=some aI){a x:Operand}(aA:o.op = .store t a x){q off:Nat}(ha:rd g.env g.b0 p tt o.type a=some (.ptr q off))
 {cs:List aZ} (aE:look g.H q=some cs) {k n:Nat} {get:Nat→V} (hx:rd g.env g.b0 p tt t x=some (.v (.bL k n get))) (hs:aI.size=1) (hle:off+aI.size≤cs.length) {s:TypeId} {l:List Nat}
 (fL:lZ P K M β {env:=gu l g.env,H:=g.H,a8:=g.a8} tmps w (.cell q off) ((⟨tmps,[]⟩:Act).eval x) s):
 Yields P K M β g {e:=none,gI:=l,hs:=[(q,setAt cs off [{d:=.v (.bL k n get),own:=some s}])],rs:=g.rs} o tmps w:=by
 obtain⟨r⟩:=et cj ag;obtain⟨b,hb,ay⟩:=nQ (d_ (ds:=[]) h hp ha);have nR:=h.bu.gI l;obtain⟨bK,vs,T,bT,bz,hlen,_,_,gi,kr⟩:=h.bu.box q cs aE;rw [hb]at bT;cases bT;have kT:=d_ (ds:=[]) h hp hx;generalize hu:(⟨tmps,[]⟩:Act).eval x=u at kT fL
 have yT:u.cells = #[u]∧u.oneCell'=true:=by
  obtain⟨a,cap,rfl,_⟩:=te kT;exact⟨rfl,rfl⟩
 have eM:=I_ (P:=P) r (off:=off) bz (v:=u) (by rw [yT.1,hs];rfl) (by rw [yT.1];simpa using yT.2) (by omega)
 rw [yT.1,hs]at eM;have c':off<cs.length:=by omega
 refine .inr (.inl ⟨rfl,_,Jb aA hu ay eM,M,β,Mem.le_refl _,λ_ _ h=>h,λ_ _ h=>.inl h,?_,λe he=>by cases he⟩)
 refine nR.CQ (st:={env:=gu l g.env,H:=g.H,a8:=g.a8}) aE hb bz (vs':=vs.take off++[u]++vs.drop (off+1)) (by rw [show off+1=off+[u].length by rfl,tg (by simp;omega),(na cs off _ (by simp;omega)).1,hlen])
  (Ja (us:=[u]) gi (by simpa using yT.2)) (λ_=>by
   rw [show off+1=off+[u].length by rfl,tg (by simp;omega)]
   refine kr.set (λe he=>?_) (by simp;omega)
   obtain rfl:=List.mem_singleton.1 he;exact λ_ _ _ e=>by cases e) (na cs off _ (by simp;omega)).1 (setRow_heap w b _ _ T (0,0) bz) (λbK ef=>setRow_other w b bK _ ef) off (λi v e eF iH=>?_)
 rw [show off+1=off+[u].length by rfl,yS (by simp;omega)]at eF
 rw [Ss c']at iH;by_cases hi:i=off
 ·subst hi;simp at eF iH
  subst eF;subst iH;refine⟨kT,λT aS=>.inr ⟨rfl,?_⟩⟩
  cases aS;exact fL
 ·rw [if_neg hi]at iH;rw [if_neg (by simp;omega)]at eF
  refine⟨?_,λT aS=>.inl ⟨hi,⟨e,iH,aS⟩,eF⟩⟩
  have:=h.bu.eW (.cell q i) e (by simp [aJ.at,aE,iH])
  simpa [ci,hb,cell_of_heap bz,eF]using this
end
section
variable {P:Program} {K:Ctx} {M:Mem} {β:Nat→Option Nat} {st:aJ} {tmps:Array Value} {w:World}
def bN.Sx(h:bN P K M β st tmps w){r off size T b:Nat}{cs cs':List aZ}{vs:List Value}{dx:TypeId}(ak:look st.H r=some cs)(hb:β r=some b)(bz:w.heap[b]? = some (.cells ⟨vs⟩ dx (0,0)))
 (gi:∀v,v∈vs→v.oneCell'=true) (hlen:vs.length=cs.length)
 (hm:∀x,x∈marks T→x.1<size∧∃e,cs[off+x.1]? = some e∧e.own=some x.2)
 (ee:cs'.length=cs.length) (iE:∀(j:Nat) a_,cs'[j]? = some a_→∃bR,cs[j]? = some bR∧bR.d=a_.d∧(∀U,a_.own=some U→bR.own=some U∧∀x,x∈marks T→j≠off+x.1)) (l0:Loc):
 bN P K M β {st with H:=(r,cs')::st.H} tmps w∧lZ P K M β {st with H:=(r,cs')::st.H} tmps w l0 (.agg ⟨(vs.drop off).take size⟩) T:=by
 have ff:∀l a_,({st with H:=(r,cs')::st.H}:aJ).at l=some a_→∃bR,st.at l=some bR∧bR.d=a_.d∧∀U,a_.own=some U→bR.own=some U∧∀x,x∈marks T→l ≠ .cell r (off+x.1):=by
  intro l a_ cR;cases l with
  |slot s=>exact⟨a_,cR,rfl,λU h=>⟨h,λ_ _=>by simp⟩⟩
  |cell cM j=>
   by_cases gR:r=cM
   ·subst gR;simp [aJ.at,dv]at cR;obtain⟨bR,Z,af,au⟩:=iE j a_ cR;exact⟨bR,by simp [aJ.at,ak,Z],af,λU hz=>⟨(au U hz).1,λx hx=>by simp [(au U hz).2 x hx]⟩⟩
   ·refine⟨a_,by simpa [aJ.at,dv,gR]using cR,rfl,λU h=>⟨h,λ_ _=>by simp [Ne.symm gR]⟩⟩
 have eL:∀cM c,look ((r,cs')::st.H) cM=some c→∃ht,look st.H cM=some ht∧ht.length=c.length:=by
  intro cM c hc;by_cases gR:r=cM
  ·subst gR;simp [dv]at hc;subst hc;exact⟨cs,ak,ee.symm⟩
  ·exact⟨c,by simpa [dv,gR]using hc,rfl⟩
 -- C2 aoo at a mark
 have mk:∀x,x∈marks T→∃e,st.at (.cell r (off+x.1))=some e∧e.own=some x.2∧ci tmps w β (.cell r (off+x.1))=(Array.mk ((vs.drop off).take size)).getD x.1 undef∧lf P K.F M w x.2 ((Array.mk ((vs.drop off).take size)).getD x.1 undef)∧
  ∀b4,iC x.2 (ci tmps w β (.cell r (off+x.1))) b4↔jy ((Array.mk ((vs.drop off).take size)).getD x.1 undef)=some b4:=by
  intro x hx;obtain⟨c',e,he,aS⟩:=hm x hx;have ag:st.at (.cell r (off+x.1))=some e:=by simp [aJ.at,ak,he]
  have Jd:off+x.1<vs.length:=by rw [hlen];exact(List.getElem?_eq_some_iff.1 he).1
  have ay:ci tmps w β (.cell r (off+x.1))=vs[off+x.1]:=by simp only [ci,hb,cell_of_heap bz,List.getElem?_eq_getElem Jd,Option.getD_some]
  have hg:(Array.mk ((vs.drop off).take size)).getD x.1 undef=vs[off+x.1]:=by
   have:((vs.drop off).take size)[x.1]? = some vs[off+x.1]:=by rw [List.getElem?_take,if_pos c',List.getElem?_drop,List.getElem?_eq_getElem Jd]
   simp [Array.getD_eq_getD_getElem?,this]
  have aA:=h.own _ e x.2 ag aS;have Z:=gi vs[off+x.1] (List.getElem_mem Jd);refine⟨e,ag,aS,ay.trans hg.symm,?_,?_⟩
  ·rw [hg];rw [ay]at aA;rcases aA.cases with⟨c,hc⟩|⟨af,_⟩
   ·rw [hc]at Z;cases Z
   ·exact af
  ·rw [hg];rw [ay]at aA ⊢;rcases aA.cases with⟨c,hc⟩|⟨_,af⟩
   ·rw [hc]at Z;cases Z
   ·exact af
 refine⟨h.sub rfl (λl a_ cR=>?_) eL,⟨λx hx=>?_,λx hx y cc l2 b4 Z af=>?_⟩,λl a_ T' b4 cR d' _ cN bT=>?_,λb4 cM c cN e6=>?_⟩
 ·obtain⟨bR,Z,af,au⟩:=ff l a_ cR;exact⟨bR,Z,af,λT aS=>(au T aS).1⟩
 ·obtain⟨_,_,_,_,Z,_⟩:=mk x hx;exact Z
 ·obtain⟨e1,a7,a2,_,_,a3⟩:=mk x hx;obtain⟨e2,c1,c2,_,_,c3⟩:=mk y cc;have:=h.uniq _ _ e1 e2 x.2 y.2 b4 a7 a2 c1 c2 ((a3 b4).2 Z) ((c3 b4).2 af)
  simp only [Loc.cell.injEq]at this;omega
 ·obtain⟨x,hx,cN⟩:=cN;obtain⟨e1,a7,a2,_,_,a3⟩:=mk x hx;obtain⟨bR,Z,_,au⟩:=ff l a_ cR;exact(au T' d').2 x hx (h.uniq l _ bR e1 T' x.2 b4 Z (au T' d').1 a7 a2 bT ((a3 b4).2 cN))
 ·obtain⟨x,hx,cN⟩:=cN;obtain⟨e1,a7,a2,_,_,a3⟩:=mk x hx;obtain⟨ht,Z,_⟩:=eL cM c e6;exact h.unbox _ e1 x.2 b4 cM ht a7 a2 ((a3 b4).2 cN) Z
def bN.acR(h:bN P K M β st tmps w){s r off T:Nat}{e:aZ}{cs cs':List aZ}{us:List Value}(hs:look st.env s=some e)(aS:e.own=some T)(hu:tmps.getD s undef = .agg ⟨us⟩)
 (ak:look st.H r=some cs) (ay:∀x,x∈marks T→ci tmps w β (.cell r (off+x.1))=(Array.mk us).getD x.1 undef) (ee:cs'.length=cs.length)
 (gi:∀x,x∈marks T→∀c,(Array.mk us).getD x.1 undef ≠ .agg c)
 (iE:∀(j:Nat) a_,cs'[j]? = some a_→∃bR,cs[j]? = some bR∧bR.d=a_.d∧∀U,a_.own=some U→bR.own=some U∨∃x,x∈marks T∧j=off+x.1∧U=x.2):
 bN P K M β {st with env:=gu [s] st.env,H:=(r,cs')::st.H} tmps w:=by
 have ag:st.at (.slot s)=some e:=hs;have aA:=h.own (.slot s) e T ag aS;have ck:ci tmps w β (.slot s) = .agg ⟨us⟩:=hu;rw [ck]at aA
 have ff:∀l a_,({st with env:=gu [s] st.env,H:=(r,cs')::st.H}:aJ).at l=some a_→∃bR,st.at l=some bR∧bR.d=a_.d∧∀U,a_.own=some U→(bR.own=some U∧l ≠ .slot s)∨∃x,x∈marks T∧l = .cell r (off+x.1)∧U=x.2:=by
  intro l a_ cR;cases l with
  |slot qL=>
   simp only [aJ.at,mw]at cR ⊢;by_cases s_:qL=s
   ·subst s_;simp at cR
    obtain⟨e1,Z,rfl⟩:=cR;exact⟨e1,Z,rfl,λU hz=>by simp at hz⟩
   ·simp [s_]at cR;exact⟨a_,cR,rfl,λU hz=>.inl ⟨hz,by simp [s_]⟩⟩
  |cell cM j=>
   by_cases gR:r=cM
   ·subst gR;simp [aJ.at,dv]at cR;obtain⟨bR,Z,af,au⟩:=iE j a_ cR;refine⟨bR,by simp [aJ.at,ak,Z],af,λU hz=>?_⟩
    rcases au U hz with aQ|⟨x,hx,aQ,bj⟩
    ·exact .inl ⟨aQ,by simp⟩
    ·exact .inr ⟨x,hx,by rw [aQ],bj⟩
   ·exact⟨a_,by simpa [aJ.at,dv,gR]using cR,rfl,λU hz=>.inl ⟨hz,by simp⟩⟩
 have eL:∀cM c,look ((r,cs')::st.H) cM=some c→∃ht,look st.H cM=some ht∧ht.length=c.length:=by
  intro cM c hc;by_cases gR:r=cM
  ·subst gR;simp [dv]at hc;subst hc;exact⟨cs,ak,ee.symm⟩
  ·exact⟨c,by simpa [dv,gR]using hc,rfl⟩
 have C3:∀x,x∈marks T→∀b4,iC x.2 ((Array.mk us).getD x.1 undef) b4↔jy ((Array.mk us).getD x.1 undef)=some b4:=by
  intro x hx b4;have:=gi x hx
  generalize (Array.mk us).getD x.1 undef=v at this
  cases v<;>first
   |exact Iff.rfl
   |exact absurd rfl (this _)
 have Je:∀x,x∈marks T→∀b4,jy ((Array.mk us).getD x.1 undef)=some b4→iC T (ci tmps w β (.slot s)) b4:=λx hx b4 cN=>by rw [ck];exact⟨x,hx,cN⟩
 -- lg state aop any marks, first
 have base:bN P K M β {st with env:=gu [s] st.env,H:=(r,cs')::st.H} tmps w↔True:=by
  refine⟨λ_=>trivial,λ_=>?_⟩
  constructor
  ·intro l a_ cR;obtain⟨bR,Z,af,_⟩:=ff l a_ cR;rw [←af];exact h.eW l bR Z
  ·intro l a_ U cR hz;obtain⟨bR,Z,_,au⟩:=ff l a_ cR;rcases au U hz with⟨aQ,_⟩|⟨x,hx,rfl,rfl⟩
   ·exact h.own l bR U Z aQ
   ·rw [ay x hx];exact(aA.1 x hx).at
  ·intro l cL e1 e2 U C4 b4 fr hz eG Sy cN fp;obtain⟨f1,g1,_,cS⟩:=ff l e1 fr;obtain⟨f2,g2,_,al⟩:=ff cL e2 eG;rcases cS U hz with⟨m1,Sz⟩|⟨x,hx,rfl,rfl⟩
   ·rcases al C4 Sy with⟨m2,SA⟩|⟨y,cc,rfl,rfl⟩
    ·exact h.uniq l cL f1 f2 U C4 b4 g1 m1 g2 m2 cN fp
    ·rw [ay y cc,C3 y cc]at fp;exact absurd (h.uniq l (.slot s) f1 e U T b4 g1 m1 ag aS cN (Je y cc b4 fp)) Sz
   ·rw [ay x hx,C3 x hx]at cN;rcases al C4 Sy with⟨m2,SA⟩|⟨y,cc,rfl,rfl⟩
    ·exact absurd (h.uniq cL (.slot s) f2 e C4 T b4 g2 m2 ag aS fp (Je x hx b4 cN)) SA
    ·rw [ay y cc,C3 y cc]at fp;by_cases l2:x.1=y.1
     ·rw [l2]
     ·exact absurd fp (aA.2 x hx y cc l2 b4 cN)
  ·intro l e1 U b4 cM c fr hz cN e6;obtain⟨f1,g1,_,cS⟩:=ff l e1 fr;obtain⟨ht,Z,_⟩:=eL cM c e6;rcases cS U hz with⟨m1,Sz⟩|⟨x,hx,rfl,rfl⟩
   ·exact h.unbox l f1 U b4 cM ht g1 m1 cN Z
   ·rw [ay x hx,C3 x hx]at cN;exact h.unbox (.slot s) e T b4 cM ht ag aS (Je x hx b4 cN) Z
  ·intro cM c e6;obtain⟨ht,hr,hlen⟩:=eL cM c e6;obtain⟨b4,vs,gB,Z,af,au,aQ,bj,cb,de⟩:=h.box cM ht hr
   exact⟨b4,vs,gB,Z,af,au.trans hlen,aQ,bj,cb,de.IH hr e6 λl a_ ag=>by
    obtain⟨e,g1,g2,_⟩:=ff l a_ ag;exact⟨e,g1,.inl g2⟩⟩
  ·intro ah ao b4 c1 c2 hr im cN fp;obtain⟨d1,Z,_⟩:=eL ah c1 hr;obtain⟨d2,af,_⟩:=eL ao c2 im;exact h.inj ah ao b4 d1 d2 Z af cN fp
  ·exact h.lt
  ·exact h.mem
  ·exact h.m0
  ·exact h.frame
  ·exact h.h2
  ·exact h.iD
  ·exact h.hq
 exact base.2 trivial
end
def yU:∀(l:List aZ) (i:Nat) (x:Nat×TypeId),x∈marksOf i l→i≤x.1∧∃e,l[x.1-i]? = some e∧e.own=some x.2
 |[],i,x,h=>by simp [marksOf]at h
 |e::l,i,x,h=>by
  have next:x∈marksOf (i+1) l→i≤x.1∧∃a_,(e::l)[x.1-i]? = some a_∧a_.own=some x.2:=λh=>by
   obtain⟨Z,a_,af,au⟩:=yU l (i+1) x h;refine⟨by omega,a_,?_,au⟩
   rw [show x.1-i=(x.1-(i+1))+1 by omega,List.getElem?_cons_succ];exact af
  unfold marksOf at h;split at h
  ·rename_i T aS;rcases List.mem_cons.1 h with rfl|h
   ·exact⟨Nat.le_refl _,e,by simp,aS⟩
   ·exact next h
  ·exact next h
def Jf:∀{l m:List (Nat×TypeId)},rG l m=true→l=m
 |[],[],_=>rfl
 |x::l,y::m,h=>by
  simp only [rG,Bool.and_eq_true,Nat.beq_eq]at h;rw [Jf h.2];obtain⟨a,b⟩:=x;obtain⟨c,d⟩:=y;simp only at h
  rw [h.1.1,h.1.2]
 |[],_::_,h=>by simp [rG]at h
 |_::_,[],h=>by simp [rG]at h
def SB:∀{ms:List (Nat×TypeId)} {i:Nat} {U:TypeId},vD ms i=some U→∃x,x∈ms∧x.1=i∧U=x.2
 |[],i,U,h=>by simp [vD]at h
 |x::l,i,U,h=>by
  unfold vD at h;rw [Bool.cond_eq_ite]at h;split at h
  ·rename_i hx;cases h;exact⟨x,by simp,by simpa using hx,rfl⟩
  ·obtain⟨y,cc,Z,af⟩:=SB h;exact⟨y,by simp [cc],Z,af⟩
def SC(ms:List (Nat×TypeId)):∀(ds:List D) (i:Nat),(oC ms i ds).length=ds.length∧∀(j:Nat),(oC ms i ds)[j]? = (ds[j]?).map λd=>{d,own:=vD ms (i+j)}
 |[],i=>by simp [oC]
 |d::ds,i=>by
  obtain⟨Z,af⟩:=SC ms ds (i+1);refine⟨by simp [oC,Z],λj=>?_⟩
  cases j with
  |zero=>simp [oC]
  |succ j=>simp only [oC,List.getElem?_cons_succ];rw [af j,show i+1+j=i+(j+1)by omega]
def acS{M:Mem}{β:Nat→Option Nat}{v:Value}{d:D}(h:cz M β v d)(hd:IC d=true):∃us,v = .agg ⟨us⟩:=by
 cases h<;>first
  |(cases hd;done)
  |(rename_i hx;cases hx<;>first |(cases hd;done) |exact⟨_,rfl⟩)
  |exact⟨_,rfl⟩
section
variable {P:Program} {K:Ctx} {N:Nat} {M:Mem} {β:Nat→Option Nat} {g:di} {tmps:Array Value} {w:World} {o:Oper} {p:Path} {tt:dx}
def acT(h:fx P K N M β g tmps w)(hp:fG tmps p)(cj:e7 P tt=true){t:TypeId}{aI:eE}(ag:look tt t=some aI){a:Operand}(aA:o.op = .load t a){q off:Nat}(ha:rd g.env g.b0 p tt o.type a=some (.ptr q off))
 {cs:List aZ} (aE:look g.H q=some cs) (hv:aI.k.isAgg=true) (hle:off+aI.size≤cs.length) {c:Nat} (hm:rG (marks c) (marksOf 0 ((cs.drop off).take aI.size))=true) {rs:List fo}:
 Yields P K M β g {e:=some {d:=lX (((cs.drop off).take aI.size).map (·.d)),own:=some c},hs:=[(q,setAt cs off (((cs.drop off).take aI.size).map λe=>{d:=e.d}))],rs} o tmps w:=by
 obtain⟨r⟩:=et cj ag;obtain⟨b,hb,ay⟩:=nQ (d_ (ds:=[]) h hp ha);obtain⟨bK,vs,T,bT,bz,hlen,_,_,gi,kr⟩:=h.bu.box q cs aE;rw [hb]at bT;cases bT;have eM:=CV (P:=P) (w:=w) r (off:=off) bz (by omega) hv
 have pL:=Jf hm;have jj:((cs.drop off).take aI.size).length=aI.size:=by simp;omega
 have kS:=na cs off (((cs.drop off).take aI.size).map λe=>({d:=e.d}:aZ)) (by rw [List.length_map,jj];exact hle)
 have pM:∀j,j<aI.size→((cs.drop off).take aI.size)[j]? = cs[off+j]? := λj hj=>by rw [List.getElem?_take,if_pos hj,List.getElem?_drop]
 have iE:=λl0=>h.bu.Sx (T:=c) (size:=aI.size) (off:=off) aE hb bz gi hlen (cs':=setAt cs off (((cs.drop off).take aI.size).map λe=>{d:=e.d})) (λx hx=>by
  rw [pL]at hx;obtain⟨_,e,af,au⟩:=yU _ 0 x hx;rw [Nat.sub_zero]at af;have c':x.1<aI.size:=by rw [←jj];exact(List.getElem?_eq_some_iff.1 af).1
  exact⟨c',e,by rw [←pM x.1 c'];exact af,au⟩) kS.1 (λj a_ hj=>by
  rw [kS.2]at hj;rw [List.length_map,jj]at hj;by_cases hi:off≤j∧j<off+aI.size
  ·rw [if_pos hi,List.getElem?_map,Option.map_eq_some_iff]at hj;obtain⟨bR,Z,rfl⟩:=hj;rw [pM _ (by omega),show off+(j-off)=j by omega]at Z
   exact⟨bR,Z,rfl,λU hz=>by cases hz⟩
  ·rw [if_neg hi]at hj;refine⟨a_,hj,rfl,λU hz=>⟨hz,λx hx acU=>?_⟩⟩
   rw [pL]at hx;obtain⟨_,e,af,_⟩:=yU _ 0 x hx;rw [Nat.sub_zero]at af;have c':x.1<aI.size:=by rw [←jj];exact(List.getElem?_eq_some_iff.1 af).1
   omega) l0
 refine .inl ⟨.agg ⟨(vs.drop off).take aI.size⟩,w,?_,M,β,Mem.le_refl _,λ_ _ h=>h,λ_ _ h=>.inl h,(iE (.slot 0)).1,λe1 oJ=>?_⟩
 ·simp only [execOp,aA];rw [ay];exact iF _ eM
 ·cases oJ;refine⟨?_,λT l0 aS=>?_⟩
  ·refine vO (by simp;omega) (λv ay=>gi v (List.mem_of_mem_drop (List.mem_of_mem_take ay))) (λi v c ay hc=>?_)
   rw [List.getElem?_map,Option.map_eq_some_iff]at hc;obtain⟨e,he,rfl⟩:=hc;rw [List.getElem?_take]at ay he;split at ay
   ·rename_i hi;rw [if_pos hi,List.getElem?_drop]at he;rw [List.getElem?_drop]at ay;have:=h.bu.eW (.cell q (off+i)) e (by simp [aJ.at,aE,he])
    simpa [ci,hb,cell_of_heap bz,ay]using this
   ·cases ay
  ·cases aS;exact(iE l0).2
def acV(h:fx P K N M β g tmps w)(hp:fG tmps p)(cj:e7 P tt=true){t:TypeId}{aI:eE}(ag:look tt t=some aI){a:Operand}{u:Nat}(aA:o.op = .store t a (.tmp u)){q off:Nat}(ha:rd g.env g.b0 p tt o.type a=some (.ptr q off))
 {cs:List aZ} (aE:look g.H q=some cs) {d:D} (hx:rd g.env g.b0 p tt t (.tmp u)=some d) (bU:pB d=false) (pI:qD (cellsD d)=true) (hs:(cellsD d).length=aI.size) (hle:off+aI.size≤cs.length)
 (hv:IC d=true) {vU:aZ} {s:TypeId} (ti:look g.env u=some vU) (aS:vU.own=some s) (nS:∀x,x∈marks s→x.1<aI.size) {rs:List fo}:
 Yields P K M β g {e:=none,gI:=[u],hs:=[(q,setAt cs off (oC (marks s) 0 (cellsD d)))],rs} o tmps w:=by
 obtain⟨r⟩:=et cj ag;obtain⟨b,hb,ay⟩:=nQ (d_ (ds:=[]) h hp ha);obtain⟨bK,vs,T,bT,bz,hlen,_,_,gi,kr⟩:=h.bu.box q cs aE;rw [hb]at bT;cases bT;have fM:=d_ (ds:=[]) h hp hx;obtain⟨us,Jg⟩:=acS fM hv;obtain⟨Z,af,au⟩:=fM.cells bU;rw [Jg]at Z af au;have C5:(Value.agg ⟨us⟩).cells.toList=us:=rfl;rw [C5]at af
 have pK:us.length=aI.size:=by
  have:(Value.agg ⟨us⟩).cells.toList.length=(cellsD d).length:=by simpa using Z
  rw [C5]at this;omega
 have eM:=I_ (P:=P) r (off:=off) bz (v:=.agg ⟨us⟩) pK af (by omega)
 rw [C5,←pK]at eM;have kS:=na cs off ((cellsD d).map λd=>({d}:aZ)) (by simp;omega)
 have Jh:=SC (marks s) (cellsD d) 0;have SD:=na cs off (oC (marks s) 0 (cellsD d)) (by rw [Jh.1];omega)
 have pJ:=setRow_heap w b _ (vs.take off++us++vs.drop (off+us.length)).toArray T (0,0) bz
 have acW:bN P K M β {env:=g.env,H:=(q,setAt cs off ((cellsD d).map λd=>{d}))::g.H,a8:=g.a8} tmps (w.setRow b (vs.take off++us++vs.drop (off+us.length)).toArray):=by
  refine h.bu.CQ aE hb bz (vs':=vs.take off++us++vs.drop (off+us.length)) (by rw [tg (by omega),kS.1,hlen]) (Ja gi af) (λ_=>by
   rw [tg (by omega)]
   refine kr.set (λe he=>?_) (by simp;omega)
   obtain⟨c,hc,rfl⟩:=List.mem_map.1 he;exact yK pI c hc) kS.1 pJ (λbK ef=>setRow_other w b bK _ ef) cs.length (λi v e eF iH=>?_)
  rw [yS (by omega)]at eF
  rw [kS.2]at iH;simp only [List.length_map]at iH;by_cases hi:off≤i∧i<off+aI.size
  ·rw [if_pos (by omega)]at eF
   rw [if_pos (by omega),List.getElem?_map,Option.map_eq_some_iff]at iH
   obtain⟨c,hc,rfl⟩:=iH;exact⟨au _ v c (by rw [C5];exact eF) hc,by simp⟩
  ·rw [if_neg (by omega)]at eF
   rw [if_neg (by omega)]at iH
   have Jc:i<cs.length:=(List.getElem?_eq_some_iff.1 iH).1;refine⟨?_,λT aS=>.inl ⟨by omega,⟨e,iH,aS⟩,eF⟩⟩
   have:=h.bu.eW (.cell q i) e (by simp [aJ.at,aE,iH])
   simpa [ci,hb,cell_of_heap bz,eF]using this
 have acX:=acW.acR (s:=u) (r:=q) (off:=off) (T:=s) (us:=us) (cs:=setAt cs off ((cellsD d).map λd=>{d})) (cs':=setAt cs off (oC (marks s) 0 (cellsD d))) ti aS Jg (by simp [dv]) (λx hx=>by
  have c':=nS x hx
  have:(vs.take off++us++vs.drop (off+us.length))[off+x.1]? = us[x.1]? := by
   rw [yS (by omega),if_pos (by omega)];congr 1;omega
  simp only [ci,hb,cell_of_heap pJ,this];simp [Array.getD_eq_getD_getElem?]) (by rw [SD.1,kS.1]) (λx hx c hc=>by
  have c':=nS x hx;have aQ:(Array.mk us).getD x.1 undef=us[x.1]'(by omega):=by simp [Array.getD_eq_getD_getElem?,List.getElem?_eq_getElem (show x.1<us.length by omega)]
  have bj:=af (us[x.1]'(by omega)) (List.getElem_mem _)
  rw [aQ]at hc;rw [hc]at bj;cases bj) (λj a_ hj=>by
  rw [SD.2,Jh.1]at hj;rw [kS.2,List.length_map];by_cases hi:off≤j∧j<off+(cellsD d).length
  ·rw [if_pos hi,Jh.2,Option.map_eq_some_iff]at hj;obtain⟨c,hc,rfl⟩:=hj;refine⟨{d:=c},by rw [if_pos hi,List.getElem?_map,hc];rfl,rfl,λU hz=>.inr ?_⟩
   simp only [Nat.zero_add]at hz;obtain⟨x,hx,bj,cb⟩:=SB hz;exact⟨x,hx,by omega,cb⟩
  ·rw [if_neg hi]at hj;exact⟨a_,by rw [if_neg hi];exact hj,rfl,λU hz=>.inl hz⟩)
 refine .inr (.inl ⟨rfl,_,Jb aA Jg ay eM,M,β,Mem.le_refl _,λ_ _ h=>h,λ_ _ h=>.inl h,?_,λe he=>by cases he⟩)
 refine acX.sub rfl (λl a_ cR=>⟨a_,?_,rfl,λ_ h=>h⟩) (λr cs' ak=>⟨cs',?_,rfl⟩)
 ·cases l with
  |slot qL=>exact cR
  |cell cM j=>
   simp only [aJ.at,after,List.cons_append,List.nil_append,dv]at cR ⊢;by_cases nc:q=cM
   ·simpa [nc]using cR
   ·simpa [nc]using cR
 ·simp only [after,List.cons_append,List.nil_append,dv]at ak ⊢;by_cases nc:q=r
  ·simpa [nc]using ak
  ·simpa [nc]using ak
end
end Go.Ab

/- The abstract machine: a step of code over plain data, proved against the model. -/
import Derived.Orders
import Derived.KernelRfl
import Derived.Laws.Sem
import Derived.Laws.Entries
import Derived.ChangeKeysEq
import Derived.Laws.Cells
import Derived.Laws.CopyRow
import Derived.Laws.Slices
import Derived.Laws.Strings2
import Derived.Deep.AppendSrc
set_option linter.all false
namespace Go.Ab
abbrev anT:=List UInt8
inductive V where
 |int (k:IntKind) (n:Int)
 |bool (b:Bool)
 |str (s:anT)
 |agg (cs:List V)
 |br (k n:Nat) (get:Nat→V)
 |iface (t:TypeId) (x:V)
 |d' |hX |aK
 |any
 |nY (k:Nat) (get:Nat→V)
def V.cells:V→List V
 |.agg cs=>cs
 |x=>[x]
inductive D where
 |v (x:V)
 |ptr (r off:Nat)
 |ca (r off:Nat) (u:TypeId)
 |eK (x:V)
 |full (k n:Nat) (get:Nat→V)
 |fn (f:FuncId) (eT:List D)
 |agg (cs:List D)
 |cm (cs:List D)
structure aP where
 d:D
 own:Option TypeId:=none
structure aD where
 env:List (Nat×aP)
 H:List (Nat×List aP)
 aL:Nat
inductive lA where
 |int (k:IntKind) |bool |str
 |bR (cd:List (Nat×TypeId×Nat))
 |br (e:TypeId) |arr (n:Nat) (e:TypeId) |ptr |aU |nZ
deriving DecidableEq
structure es where
 k:lA
 size:Nat
 bytes:Nat
 zero:List V
 i_:List (Nat×TypeId):=[]
abbrev dq:=List (TypeId×es)
def look{α:Type}:List (Nat×α)→Nat→Option α
 |[],_=>none
 |(j,x)::l,i=>bif Nat.beq j i then some x else look l i
def del{α:Type}:List (Nat×α)→Nat→List (Nat×α)
 |[],_=>[]
 |(j,x)::l,i=>bif Nat.beq j i then del l i else(j,x)::del l i
def lA.isAgg:lA→Bool
 |.bR _ |.arr _ _=>true
 |_=>false
abbrev Path:=List (Nat×Bool)
def Path.has(p:Path)(x:Nat×Bool):Bool:=p.any λy=>Nat.beq y.1 x.1&&(y.2 == x.2)
def Path.sub(q p:Path):Bool:=q.all p.has
inductive Out where
 |ret (d:D) (own:Option TypeId)
 |a8 (x:V)
inductive e8 where
 |val (x:V)
 |raw
 |own
 |call (o:Out) (H:Option (List (List aP))) (os:List Nat)
def a7(i:Int)(n:Nat):Bool:=decide (0≤i)&&decide (i<n)
def gC(i:Int)(n:Nat):Bool:=decide (0≤i)&&decide (i≤n)
def lB(a b:Int)(n:Nat):Bool:=decide (0≤a)&&(decide (a≤b)&&decide (b≤n))
def wz(a:Int):Bool:=!decide (a=0)
def room(n b:Nat):Bool:=decide (n*b≤140737488355328)
def eU(n:Nat):Bool:=decide (n≤9223372036854775807)
structure c6 where
 env:List (Nat×aP)
 bL:List (Nat×Path×D)
 H:List (Nat×List aP)
 aL:Nat
 rs:List e8
 aO:List Prop
 ids:List (Nat×Nat):=[]
def Jr:Value→Option V
 |.int k n=>some (.int k n)
 |.bool b=>some (.bool b)
 |.string s=>some (.str s.data.toList)
 |.pointer none=>some .d'
 |.nilIface=>some .hX
 |.nilFunc=>some .aK
 |_=>none
def rd(env:List (Nat×aP))(bL:List (Nat×Path×D))(p:Path)(tt:dq)(ty:TypeId):Operand→Option D
 |.tmp t=>match look bL t with
  |some (q,d)=>bif q.sub p then some d else none
  |none=>(look env t).map (·.d)
 |.const (.slice none 0 0)=>match look tt ty with
  |some {k:=.br _,zero:=[.br k 0 get],..}=>some (.v (.br k 0 get))
  |_=>none
 |.const v=>(Jr v).map .v
 |.func f=>some (.fn f [])
 |.global _=>none
def lb(f:TypeId→Operand→Option D):List Operand→List TypeId→Option (List D)
 |[],_=>some []
 |x::xs,t::ts=>match f t x,lb f xs ts with
  |some d,some ds=>some (d::ds)
  |_,_=>none
 |_::_,[]=>none
def zI:List D→Option (List V)
 |[]=>some []
 |.v x::l=>(zI l).map (x :: ·)
 |_::_=>none
def pP(cs:List D):D:=match zI cs with|some vs=>.v (.agg vs)|none=>.agg cs
def cellsD:D→List D
 |.v x=>x.cells.map .v
 |.agg cs=>cs
 |d=>[d]
def r7:List D→Bool
 |[]=>true
 |.ca _ _ _::_=>false
 |_::l=>r7 l
def qZ:D→Bool
 |.cm _=>true
 |_=>false
def setAt{α:Type}:List α→Nat→List α→List α
 |cs,0,[]=>cs
 |_::cs,0,x::xs=>x::setAt cs 0 xs
 |c::cs,n+1,xs=>c::setAt cs n xs
 |[],_,_=>[]
def q0(place:Nat→Option (Nat×Nat))(cells:List D):List (Nat×D)→Option (List D)
 |[]=>some cells
 |(i,d)::rest=>match place i with
  |none=>none
  |some (off,size)=>
   bif Nat.beq (cellsD d).length size&&Nat.ble (off+size) cells.length && !qZ d then q0 place (setAt cells off (cellsD d)) rest else none
abbrev Mem:=Nat→Nat→Option Value
def Mem.le(M M':Mem):Prop:=∀b o v,M b o=some v→M' b o=some v
def Mem.le_refl(M:Mem):M.le M:=λ_ _ _ h=>h
def Mem.le_trans{A B C:Mem}(h:A.le B)(cv:B.le C):A.le C:=λb o v e=>cv b o v (h b o v e)
inductive cU(M:Mem):Value→V→Prop where
 |int (k:IntKind) (n:Int):cU M (.int k n) (.int k n)
 |bool (b:Bool):cU M (.bool b) (.bool b)
 |str (l:anT):cU M (.string ⟨⟨l⟩⟩) (.str l)
 |agg (vs:List Value) (cs:List V) (hn:vs.length=cs.length) (Z:∀v,v∈vs→v.oneCell'=true)
  (h:∀(i:Nat) v c,vs[i]? = some v→cs[i]? = some c→cU M v c):cU M (.agg ⟨vs⟩) (.agg cs)
 |lC (k:Nat) (get:Nat→V):cU M (.slice none 0 0) (.br k 0 get)
 |oP (a:Addr) (k:Nat) (get:Nat→V):cU M (.slice (some a) 0 0) (.br k 0 get)
 |br (b off k n cap:Nat) (get:Nat→V) (val:Nat→Nat→Value) (hc:n≤cap)
  (hk:∀i,i<n→(get i).cells.length=k)
  (cI:∀i j,i<n→j<k→M b (off+i*k+j)=some (val i j)) (Z:∀i j,i<n→j<k→(val i j).oneCell'=true)
  (h:∀(i j:Nat) c,i<n→(get i).cells[j]? = some c→cU M (val i j) c):cU M (.slice (some ⟨b,off,none⟩) n cap) (.br k n get)
 |iface (t:TypeId) (v:Value) (x:V) (h:cU M v x):cU M (.iface t v) (.iface t x)
 |d':cU M (.pointer none) .d'
 |hX:cU M .nilIface .hX
 |aK:cU M .nilFunc .aK
 |any (v:Value) (Z:v.oneCell'=true):cU M v .any
 |nY (k:Nat) (get:Nat→V):cU M (.slice none 0 0) (.nY k get)
def gL(raw x:V):Prop:=∀(M:Mem) (v:Value),cU M v raw→cU M v x
def oQ(k:IntKind)(a b:Int):Int:=k.wrap (BitVec.ofInt k.bits a &&& BitVec.ofInt k.bits b).toNat
def pQ(k:IntKind)(a b:Int):Int:=k.wrap (BitVec.ofInt k.bits a |||BitVec.ofInt k.bits b).toNat
def l7(k:IntKind)(a b:Int):Int:=k.wrap (BitVec.ofInt k.bits a ^^^ BitVec.ofInt k.bits b).toNat
def Js(k:IntKind)(a b:Int):Int:=k.wrap (BitVec.ofInt k.bits a &&& ~~~BitVec.ofInt k.bits b).toNat
def n0(k:IntKind)(x y:Int):Int:=k.wrap (x*2 ^ min y.toNat k.bits)
def mw(k:IntKind)(x y:Int):Int:=x.fdiv (2 ^ min y.toNat k.bits)
def ni(y:Int):Bool:=decide (0≤y)
def Jt(op:BinOp)(k:IntKind)(x y:Int):Option (V×List Prop):=
 match op with
 |.shl=>some (.int k (n0 k x y),[ni y=true])
 |.shr=>some (.int k (mw k x y),[ni y=true])
 |_=>none
def Ju(op:BinOp)(k:IntKind)(a b:Int):Option (V×List Prop):=
 match op with
 |.add=>some (.int k (k.wrap (a+b)),[])
 |.sub=>some (.int k (k.wrap (a-b)),[])
 |.mul=>some (.int k (k.wrap (a*b)),[])
 |.quo=>some (.int k (k.wrap (a.tdiv b)),[wz b=true])
 |.rem=>some (.int k (a.tmod b),[wz b=true])
 |.eql=>some (.bool (decide (a=b)),[])
 |.neq=>some (.bool (!decide (a=b)),[])
 |.lss=>some (.bool (decide (a<b)),[])
 |.leq=>some (.bool (decide (a≤b)),[])
 |.gtr=>some (.bool (decide (b<a)),[])
 |.geq=>some (.bool (decide (b≤a)),[])
 |.and=>some (.int k (oQ k a b),[])
 |.or=>some (.int k (pQ k a b),[])
 |.xor=>some (.int k (l7 k a b),[])
 |.andNot=>some (.int k (Js k a b),[])
 |_=>none
def Jv(op:BinOp)(a b:anT):Option (V×List Prop):=
 match op with
 |.add=>some (.str (a++b),[eU (a.length+b.length)=true])
 |.eql=>some (.bool (decide (a=b)),[])
 |.neq=>some (.bool (!decide (a=b)),[])
 |.lss=>some (.bool (Op.bytesLess a b),[])
 |.leq=>some (.bool (Op.bytesLess a b||decide (a=b)),[])
 |.gtr=>some (.bool (!(Op.bytesLess a b||decide (a=b))),[])
 |.geq=>some (.bool (!Op.bytesLess a b),[])
 |_=>none
def isNil:lA→D→Option Bool
 |.ptr,.v .d'=>some true
 |.ptr,.ptr _ _=>some false
 |.ptr,.eK _=>some false
 |.nZ,.v .hX=>some true
 |.nZ,.v (.iface _ _)=>some false
 |.aU,.v .aK=>some true
 |.aU,.fn _ _=>some false
 |_,_=>none
def Dx:lA→D→Bool
 |.ptr,.v .d'=>true
 |.nZ,.v .hX=>true
 |.aU,.v .aK=>true
 |_,_=>false
def iE:List (Option lA)→List V→List V→Option Bool
 |[],[],[]=>some true
 |some (.int _)::ks,.int k a::l,.int k' b::m=>bif decide (k=k') then(iE ks l m).map λr=>decide (a=b)&&r else none
 |some .str::ks,.str a::l,.str b::m=>(iE ks l m).map λr=>decide (a=b)&&r
 |some .bool::ks,.bool a::l,.bool b::m=>(iE ks l m).map λr=>(a == b)&&r
 |_,_,_=>none
def l8(tt:dq):Nat→List (Nat×TypeId×Nat)→List (Option lA)
 | 0,cd=>cd.map λf=>(look tt f.2.1).map (·.k)
 |d+1,cd=>cd.flatMap λf=>match look tt f.2.1 with
  |some {k:=.bR gs,..}=>l8 tt d gs
  |o=>[o.map (·.k)]
def QP(k:Option lA)(Zg:Bool)(op:BinOp)(a b:D):Option (V×List Prop):=
 match a,b with
 |.v (.int k x),.v (.int k' y)=>match Jt op k x y with
  |some z=>some z
  |none=>bif decide (k=k')then Ju op k x y else none
 |.v (.str x),.v (.str y)=>Jv op x y
 |.v (.bool x),.v (.bool y)=>match k,op with
  |some .bool,.eql=>some (.bool (x == y),[])
  |some .bool,.neq=>some (.bool (!(x == y)),[])
  |_,_=>none
 |a,b=>match k with
  |some k=>bif Dx k b&&Zg then match isNil k a,op with
   |some t,.eql=>some (.bool t,[])
   |some t,.neq=>some (.bool (!t),[])
   |_,_=>none
   else none
  |none=>none
def isConst:Operand→Bool
 |.const _=>true
 |_=>false
def QQ(op:UnOp)(a:V):Option V:=
 match op,a with
 |.not,.bool b=>some (.bool (!b))
 |.neg,.int k n=>some (.int k (k.wrap (0-n)))
 |_,_=>none
def zJ(env:List (Nat×aP))(bL:List (Nat×Path×D))(t:Nat):Option Bool:=
 match look bL t with
 |some (_,.v (.bool b))=>some b
 |some _=>none
 |none=>match look env t with
  |some ⟨.v (.bool b),_⟩=>some b
  |_=>none
def under(g:c6):Path→Prop→Prop
 |[],q=>q
 |(t,w)::p,q=>match zJ g.env g.bL t with
  |some b=>b=w→under g p q
  |none=>under g p q
structure kE where
 e:Option aP
 gY:List Nat:=[]
 hs:List (Nat×List aP):=[]
 e6:Nat:=0
 rs:List e8
 aO:List Prop:=[]
def oR(g:c6):Operand→Option TypeId
 |.tmp t=>(look g.env t).bind (·.own)
 |_=>none
def Zh(t:Nat)(o:Oper):Bool:=
 match o.op with
 |.assign (.tmp u)=>Nat.beq u t
 |.store _ _ (.tmp u)=>Nat.beq u t
 |.call {callee:=.builtin .append,args,..}=>match args.toList with
  |.tmp u::_=>Nat.beq u t
  |_=>false
 |_=>false
def Zi(ops:List Oper)(dst:Option Nat):Bool:=
 match dst with
 |some t=>ops.any (Zh t)
 |none=>false
def refs:D→List Nat
 |.ptr r _=>[r]
 |.ca r _ _=>[r]
 |.fn _ eT=>eT.flatMap fun |.ptr r _=>[r] |_=>[]
 |.agg cs=>cs.flatMap fun |.ptr r _=>[r] |.ca r _ _=>[r] |.fn _ eT=>(eT.flatMap fun |.ptr r _=>[r] |_=>[]) |_=>[]
 |_=>[]
def idx(l:List Nat)(r:Nat):Option Nat:=
 match l with
 |[]=>none
 |x::l=>bif Nat.beq x r then some 0 else(idx l r).map (· + 1)
def dedup:List Nat→List Nat
 |[]=>[]
 |x::l=>bif (dedup l).any (Nat.beq x)then dedup l else x::dedup l
mutual
def d_(f:Nat→Option Nat):D→Option D
 |.v x=>some (.v x)
 |.ptr r off=>(f r).map (.ptr · off)
 |.ca r off u=>(f r).map (.ca · off u)
 |.eK x=>some (.eK x)
 |.full k n get=>some (.full k n get)
 |.fn g eT=>(kF f eT).map (.fn g)
 |.agg cs=>(kF f cs).map .agg
 |.cm cs=>(kF f cs).map .cm
def kF(f:Nat→Option Nat):List D→Option (List D)
 |[]=>some []
 |d::l=>match d_ f d,kF f l with
  |some di,some co=>some (di::co)
  |_,_=>none
end
def Dy(f:Nat→Option Nat)(e:aP):Option aP:=(d_ f e.d).map λd=>{d,own:=e.own}
def mx(f:Nat→Option Nat):List aP→Option (List aP)
 |[]=>some []
 |e::l=>match Dy f e,mx f l with
  |some a',some co=>some (a'::co)
  |_,_=>none
def ju(f:Nat→Option Nat):List (List aP)→Option (List (List aP))
 |[]=>some []
 |b::l=>match mx f b,ju f l with
  |some bp,some co=>some (bp::co)
  |_,_=>none
def boxes(H:List (Nat×List aP)):List Nat→Option (List (List aP))
 |[]=>some []
 |r::l=>match look H r,boxes H l with
  |some b,some bs=>some (b::bs)
  |_,_=>none
def cB{α:Type}:Nat→List α→List (Nat×α)
 |_,[]=>[]
 |n,x::l=>(n,x)::cB (n+1) l
def kG:List Nat→List (List aP)→List (Nat×List aP)
 |r::l,b::bs=>(r,b)::kG l bs
 |_,_=>[]
def mapM'{α β:Type}(f:α→Option β):List α→Option (List β)
 |[]=>some []
 |x::l=>match f x,mapM' f l with
  |some y,some ys=>some (y::ys)
  |_,_=>none
structure gf where
 call:FuncId→List D→List (Nat×TypeId)→List (List aP)→Out→List (List aP)→Prop
 eq:TypeId→Bool
inductive nj where
 |go (e:kE)
 |a8 (x:V) (hs:List (Nat×List aP)) (aO:List Prop)
def n1(H:List (Nat×List aP)):Nat→List Nat→List Nat
 | 0,l=>l
 |n+1,l=>n1 H n (dedup (l++l.flatMap λr=>((look H r).getD []).flatMap λe=>refs e.d))
def my:List Nat→Bool
 |[]=>true
 |x::l=>!l.any (Nat.beq x)&&my l
def handed(tt:dq)(g:c6)(xs:List Operand)(ts:List TypeId):List Nat→Option (List (Nat×Option Nat×TypeId))
 |[]=>some []
 |i::os=>match xs[i]?,handed tt g xs ts os with
  |some (.tmp t),some l=>match look g.env t with
   |some ⟨_,some e⟩=>bif (look g.bL t).isNone&&l.all (λx=>!(match x.2.1 with |some u=>Nat.beq u t |none=>false) && !Nat.beq x.1 i)then some ((i,some t,e)::l)else none
   |_=>none
  |some (.const (.slice none 0 0)),some l=>match(ts[i]?).bind (look tt) with
   |some {k:=.br e,..}=>bif l.all (λx=>!Nat.beq x.1 i)then some ((i,none,e)::l)else none
   |_=>none
  |_,_=>none
def wA(bX:gf)(tt:dq)(g:c6)(p:Path)(xs:List Operand)(ts:List TypeId)(f:FuncId)(args:List D):Option nj:=
 let ρ:=n1 g.H 2 (dedup (args.flatMap refs))
 match g.rs with
 |.call out ct os::rs=>
  match kF (idx ρ) args,(boxes g.H ρ).bind (ju (idx ρ)),handed tt g xs ts os with
  |some ja,some H1,some hd=>bif !my ρ || !(p.isEmpty||os.isEmpty)then none else
   let dU:=hd.map λx=>(x.1,x.2.2)
   let gY:=hd.filterMap λx=>x.2.1
   match out,ct with
   |.ret d own,none=>(d_ (λj=>ρ[j]?) d).map λdi=>.go {e:=some {d:=di,own},gY,rs,aO:=[bX.call f ja dU H1 out H1]}
   |.ret d own,some ct=>match d_ (λj=>ρ[j]?) d,ju (λj=>ρ[j]?) ct with
    |some di,some ic=>bif Nat.beq ct.length ρ.length then some (.go {e:=some {d:=di,own},gY,hs:=kG ρ ic,rs,aO:=[bX.call f ja dU H1 out ct]})else none
    |_,_=>none
   |.a8 x,none=>some (.a8 x [] [bX.call f ja dU H1 out H1])
   |.a8 x,some ct=>match ju (λj=>ρ[j]?) ct with
    |some ic=>bif Nat.beq ct.length ρ.length then some (.a8 x (kG ρ ic) [bX.call f ja dU H1 out ct])else none
    |none=>none
  |_,_,_=>none
 |_=>none
def Dz:V→Option TypeId→Option TypeId
 |.br _ _ _,t=>t
 |_,_=>none
def QR(tt:dq):Nat→List (Nat×TypeId×Nat)→Nat→Option TypeId
 | 0,_,_=>none
 |d+1,cd,j=>match cd.find? λf=>Nat.ble f.1 j&&Nat.blt j (f.1+f.2.2) with
  |some f=>match look tt f.2.1 with
   |some {k:=.br e,..}=>some e
   |some {k:=.bR gs,..}=>QR tt d gs (j-f.1)
   |_=>none
  |none=>none
def Jw(tt:dq):lA→Nat→Option TypeId
 |.bR cd,j=>QR tt 5 cd j
 |.br e,0=>some e
 |_,_=>none
def QS(tt:dq)(i_:List (Nat×TypeId))(k:lA)(i:Nat):Option TypeId:=
 match Jw tt k i with
 |some e=>some e
 |none=>(i_.find? λy=>Nat.beq (y.1+1) i).bind λy=>match look tt y.2 with |some {k,..}=>Jw tt k 1 |none=>none
def zK(i_:List (Nat×TypeId))(id i:Nat)(x:V):D:=
 match x with
 |.d'=>match i_.find? λy=>Nat.beq y.1 i with
  |some y=>.ca id i y.2
  |none=>.v x
 |_=>.v x
def DA(tt:dq)(t:TypeId)(id:Nat):Option (List aP):=
 match look tt t with
 |some {k:=.br e,zero,..}=>some (zero.map λx=>{d:=.v x,own:=Dz x (some e)})
 |some {k:=.bR cd,zero,i_,..}=>some ((cB 0 zero).map fun(i,x)=>
  {d:=zK i_ id i x,own:=Dz x (QS tt i_ (.bR cd) i)})
 |some {zero,..}=>some (zero.map λx=>{d:=.v x})
 |none=>none
def V.isAgg:V→Bool
 |.agg _=>true
 |_=>false
def Jx:V→V
 |.br k 0 g=>.nY k g
 |x=>x
def pR(ty:Nat→Option TypeId):Nat→List aP→List aP
 |_,[]=>[]
 |i,e::l=>(match e.d with
  |.v (.nY k g)=>{d:=.v (.br k 0 g),own:=ty i}
  |_=>e)::pR ty (i+1) l
def elems(isAgg:Bool)(size:Nat):Nat→List (Nat×D)→Option (List V)
 |_,[]=>some []
 |i,(j,.v x)::bM=>bif Nat.beq i j&&Nat.beq x.cells.length size&&(x.isAgg == isAgg) then(elems isAgg size (i+1) bM).map (x :: ·)else none
 |_,_=>none
def q1(tt:dq)(t:TypeId)(i:Nat):TypeId:=
 match look tt t with
 |some {k:=.bR cd,..}=>match cd[i]? with
  |some f=>f.2.1
  |none=>0
 |some {k:=.arr _ e,..}=>e
 |some {k:=.br e,..}=>e
 |_=>0
def wB(tt:dq)(aF:es)(id i:Nat)(d:D):aP:=
 match d with
 |.v .d'=>{d:=zK aF.i_ id i .d'}
 |.v (.nY k g)=>match QS tt aF.i_ aF.k i with
  |some T=>{d:=.v (.br k 0 g),own:=some T}
  |none=>{d}
 |d=>{d}
def pS(tt:dq)(aF:es)(id:Nat):Nat→List D→List aP
 |_,[]=>[]
 |i,d::l=>wB tt aF id i d::pS tt aF id (i+1) l
def nk(g:c6)(o:Oper):Option (Nat×Nat):=
 match o.dst.bind (look g.ids) with
 |some id=>bif (look g.H id).isNone&&Nat.blt id g.aL then some (id,0)else none
 |none=>some (g.aL,1)
def step1(bX:gf)(tt:dq)(ops:List Oper)(g:c6)(p:Path)(o:Oper):Option nj:=
 let r:=rd g.env g.bL p tt o.type
 let val (d:Option D):Option nj:=d.map λd=>.go {e:=some {d},rs:=g.rs}
 let zL (x:Option (V×List Prop)):Option nj:=x.map fun(x,aO)=>.go {e:=some {d:=.v x},rs:=g.rs,aO}
 let DB (raw:V) (mk:V→D) (aO:List Prop):Option nj:=match g.rs with
  |.val x::rs=>some (.go {e:=some {d:=mk x},rs,aO:=gL raw x::aO})
  |.raw::rs=>some (.go {e:=some {d:=mk raw},rs,aO:=aO})
  |_=>none
 match o.op with
 |.move x=>match r x with
  |some d=>match oR g x,x with
   |some e,.tmp t=>match g.rs with
    |.own::rs=>bif p.isEmpty then some (.go {e:=some {d,own:=some e},gY:=[t],rs})else none
    |_=>bif p.isEmpty&&Zi ops o.dst then some (.go {e:=some {d,own:=some e},gY:=[t],rs:=g.rs})else some (.go {e:=some {d},rs:=g.rs})
   |_,_=>some (.go {e:=some {d},rs:=g.rs})
  |none=>none
 |.assign x=>match r x with
  |some d=>match oR g x,x with
   |some e,.tmp t=>bif p.isEmpty then some (.go {e:=some {d,own:=some e},gY:=[t],rs:=g.rs})else some (.go {e:=some {d},rs:=g.rs})
   |_,.const (.slice none 0 0)=>match look tt o.type with
    |some {k:=.br e,..}=>bif p.isEmpty then some (.go {e:=some {d,own:=some e},rs:=g.rs})else some (.go {e:=some {d},rs:=g.rs})
    |_=>none
   |_,_=>some (.go {e:=some {d},rs:=g.rs})
  |none=>none
 |.pick (.tmp c) a b=>match r (.tmp c),rd g.env g.bL ((c,true)::p) tt o.type a,rd g.env g.bL ((c,false)::p) tt o.type b with
  |some (.v (.bool r8)),some (.v (.bool zM)),some (.v (.bool tL))=>val (some (.v (.bool (bif r8 then zM else tL))))
  |_,_,_=>none
 |.alloc t=>match nk g o with
  |some (id,e6)=>match DA tt t id with
   |some z=>some (.go {e:=some {d:=.ptr id 0},hs:=[(id,z)],e6,rs:=g.rs})
   |none=>none
  |none=>none
 |.box t x=>match r x,nk g o,look tt t with
  |some d,some (id,e6),some aF=>bif qZ d || !r7 (cellsD d) || !Nat.beq (cellsD d).length aF.size then none else some (.go {e:=some {d:=.ptr id 0},hs:=[(id,pS tt aF id 0 (cellsD d))],e6,rs:=g.rs})
  |_,_,_=>none
 |.build t parts=>match look tt t,mapM' (fun(i,x)=>(rd g.env g.bL p tt (q1 tt t i) x).map λd=>(i,d)) parts.toList with
  |some {k:=.bR cd,zero,..},some bM=>bif cd.all (λf=>Nat.ble 1 f.2.2)then match g.rs with
   |.own::rs=>((q0 (λi=>(cd[i]?).map λf=>(f.1,f.2.2)) (zero.map λx=>.v (Jx x)) bM).map pP).map λd=>.go {e:=some {d},rs}
   |_=>val ((q0 (λi=>(cd[i]?).map λf=>(f.1,f.2.2)) (zero.map .v) bM).map pP)
   else none
  |some {k:=.arr _ e,zero,..},some bM=>match look tt e with
   |some {size,..}=>val ((q0 (λi=>some (i*size,size)) (zero.map .v) bM).map pP)
   |none=>none
  |_,_=>none
 |.buildSlice t len parts=>match look tt t,mapM' (fun(i,x)=>(rd g.env g.bL p tt (q1 tt t i) x).map λd=>(i,d)) parts.toList with
  |some {k:=.br e,..},some bM=>match look tt e with
   |some {k,size,..}=>
    match elems k.isAgg size 0 bM,g.rs with
    |some xs,.val x::rs=>bif Nat.ble (len*size) 16777216&&Nat.ble 1 size&&Nat.beq xs.length len then some (.go {e:=some {d:=.v x,own:=some e},rs,aO:=[gL (.br size len λi=>xs.getD i .d') x]})else none
    |_,_=>none
   |none=>none
  |_,_=>none
 |.load t a=>match r a,look tt t with
  |some (
   .ptr q off),some aF=>match look g.H q with
   |some cs=>bif aF.k.isAgg then
    bif Nat.ble (off+aF.size) cs.length then val (some (pP (((cs.drop off).take aF.size).map (·.d))))else none
    else match cs[off]? with
     |some e=>match e.own,g.rs with
      |some _,.own::rs=>bif p.isEmpty then some (.go {e:=some e,hs:=[(q,setAt cs off [{d:=e.d}])],rs})else none
      |_,_=>val (some e.d)
     |none=>none
   |none=>none
  |some (.eK x),some aF=>bif x.isAgg == aF.k.isAgg&&Nat.beq x.cells.length aF.size then val (some (.v x))else none
  |_,_=>none
 |.store t a x=>match r a,rd g.env g.bL p tt t x,look tt t with
  |some (
   .ptr q off),some d,some aF=>match look g.H q with
   |some cs=>bif Nat.beq (cellsD d).length aF.size&&Nat.ble (off+aF.size) cs.length&&p.isEmpty && !qZ d&&r7 (cellsD d) then
    match x,oR g x,d with
    |.tmp u,some s,.v (.br ..)=>some (.go {e:=none,gY:=[u],hs:=[(q,setAt cs off [{d,own:=some s}])],rs:=g.rs})
    |.const (.slice none 0 0),_,_=>match aF.k with
     |.br s=>some (.go {e:=none,hs:=[(q,setAt cs off [{d,own:=some s}])],rs:=g.rs})
     |_=>none
    |_,_,_=>some (.go {e:=none,hs:=[(q,pR (λi=>Jw tt aF.k (i-off)) 0 (setAt cs off ((cellsD d).map λd=>{d})))],rs:=g.rs})
    else none
   |none=>none
  |_,_,_=>none
 |.nilCheck x=>match r x with
  |some (.ptr q off)=>val (some (.ptr q off))
  |some (.eK x)=>val (some (.eK x))
  |_=>none
 |.binOp op t x y _=>match r x,r y with
  |some (.v (.agg xs)),some (.v (.agg ys))=>match look tt t with
   |some {k:=.bR cd,..}=>bif bX.eq t then match op,iE (l8 tt 4 cd) xs ys with
    |.eql,some r=>val (some (.v (.bool r)))
    |.neq,some r=>val (some (.v (.bool (!r))))
    |_,_=>none
    else none
   |_=>none
  |some a,some b=>zL (QP ((look tt t).map (·.k)) (isConst y) op a b)
  |_,_=>none
 |.unOp op _ x=>match r x with
  |some (.v a)=>val ((QQ op a).map .v)
  |_=>none
 |.convert s t x=>match look tt s,look tt t,r x with
  |some {k:=.int _,..},some {k:=.int k,..},some (.v (.int _ n))=>val (some (.v (.int k (k.wrap n))))
  |some {k:=.str,..},some {k:=.str,..},some (.v (.str s))=>val (some (.v (.str s)))
  |some {k:=.br e,..},some {k:=.str,..},some (.v (.br 1 n get))=>match look tt e,g.rs with
   |some {k:=.int .u8,..},.val (.str l)::rs=>some (.go {e:=some {d:=.v (.str l)},rs,aO:=[l.length=n∧∀i,i<n→get i = .int .u8 ((l.getD i 0).toNat:Int)]})
   |_,_=>none
  |_,_,_=>none
 |.makeInterface t x=>match r x,look tt t with
  |some (.v x),some {k,..}=>match k with
   |.nZ=>none
   |_=>val (some (.v (.iface t x)))
  |_,_=>none
 |.makeFunc (.func f) first eT=>bif first.isEmpty then(mapM' r eT.toList).map λds=>.go {e:=some {d:=.fn f ds},rs:=g.rs}else none
 |.slice t x lo hi lD=>match lD,look tt t with
  |none,some {k:=.str,..}=>match r x,lo.map r,hi.map r with
   |some (.v (.str s)),none,none=>val (some (.v (.str s)))
   |some (.v (.str s)),some (some (.v (.int _ a))),none=>zL (some (.str (s.drop a.toNat),[gC a s.length=true]))
   |some (.v (.str s)),none,some (some (.v (.int _ b)))=>zL (some (.str (s.take b.toNat),[gC b s.length=true]))
   |some (.v (.str s)),some (some (.v (.int _ a))),some (some (.v (.int _ b)))=>zL (some (.str ((s.take b.toNat).drop a.toNat),[lB a b s.length=true]))
   |_,_,_=>none
  |none,some {k:=.br e,..}=>match look tt e,r x,lo.map r,hi.map r with
   |some {size,..},some (.v (.br k n get)),some (some (.v (.int _ a))),none=>bif Nat.beq k size then DB (.br k (n-a.toNat) λi=>get (a.toNat+i)) .v [gC a n=true]else none
   |some {size,..},some (.v (.br k n get)),none,some (some (.v (.int _ b)))=>bif Nat.beq k size then DB (.br k b.toNat get) .v [gC b n=true]else none
   |some {size,..},some (.v (.br k n get)),some (some (.v (.int _ a))),some (some (.v (.int _ b)))=>bif Nat.beq k size then DB (.br k (b.toNat-a.toNat) λi=>get (a.toNat+i)) .v [lB a b n=true]else none
   |some {size,..},some (.v (.br k n get)),none,none=>bif Nat.beq k size then val (some (.v (.br k n get)))else none
   |_,_,_,_=>none
  |some _,some {k:=.br e,..}=>match look tt e,r x,lo,hi.map r,lD.map r with
   |some {size,..},some (.v (.br k n get)),none,some (some (.v (.int _ b))),some (some (.v (.int _ c)))=>bif Nat.beq k size then some (.go {e:=some {d:=.full k b.toNat get},rs:=g.rs,aO:=[b=c,gC b n=true]})else none
   |_,_,_,_,_=>none
  |_,_=>none
 |.fieldAddr s x f=>match r x,look tt s with
  |some (.ptr q off),some {k:=.bR cd,..}=>match cd[f]? with
   |some (dt,_,fw)=>bif Nat.ble 1 fw then val (some (.ptr q (off+dt)))else none
   |none=>none
  |some (
   .eK (.agg cs)),some {k:=.bR cd,..}=>match cd[f]? with
   |some (
    dt,hD,fw)=>match look tt hD with
    |some aF=>bif Nat.ble 1 fw&&Nat.ble (dt+fw) cs.length then
     bif aF.k.isAgg then val (some (.eK (.agg ((cs.drop dt).take fw))))else bif Nat.beq fw 1 then match cs[dt]? with
      |some c=>bif c.isAgg then none else val (some (.eK c))
      |none=>none
     else none
     else none
    |none=>none
   |none=>none
  |_,_=>none
 |.field s x f=>match r x,look tt s with
  |some (
   .v (.agg cs)),some {k:=.bR cd,..}=>match cd[f]? with
   |some (dt,hD,fw)=>match look tt hD with
    |some aF=>bif Nat.ble (dt+fw) cs.length then bif aF.k.isAgg then val (some (.v (.agg ((cs.drop dt).take fw))))else match cs[dt]? with
     |some c=>val (some (.v c))
     |none=>none
     else none
    |none=>none
   |none=>none
  |some (.agg cs),some {k:=.bR cd,..}=>match cd[f]? with
   |some (dt,hD,fw)=>match look tt hD,cs[dt]? with
    |some aF,some c=>bif aF.k.isAgg || !Nat.beq fw 1||qZ c then none else val (some c)
    |_,_=>none
   |none=>none
  |_,_=>none
 |.indexAddr t x i=>match r x,r i,look tt t with
  |some (.v (.br k n get)),some (.v (.int _ j)),some {k:=.br e,..}=>match look tt e with
   |some {size,..}=>bif Nat.beq k size&&Nat.ble 1 size then DB (get j.toNat) .eK [a7 j n=true]else none
   |none=>none
  |_,_,_=>none
 |.index t x i=>match r x,r i,look tt t with
  |some (.v (.str s)),some (.v (.int _ j)),some {k:=.str,..}=>zL (some (.int .u8 (s.getD j.toNat 0).toNat,[a7 j s.length=true]))
  |_,_,_=>none
 |.typeAssert x _ t ok=>match r x,look tt t with
  |some (.v (.iface bC y)),some {k,..}=>match k with
   |.nZ=>none
   |_=>bif Nat.beq bC t then val (some (bif ok then .cm [.v y,.v (.bool true)]else .v y))else none
  |_,_=>none
 |.extract x i=>match r x with
  |some (.cm ds)=>val ds[i]?
  |_=>none
 |.call c=>match c.callee with
  |.value x=>match r x,lb (rd g.env g.bL p tt) c.args.toList c.argTypes.toList with
   |some (.fn f eT),some ds=>wA bX tt g p c.args.toList c.argTypes.toList f (ds++eT)
   |_,_=>none
  |.builtin .len=>match mapM' (λy=>r y) c.args.toList,(c.argTypes.toList[0]?).bind (look tt) with
   |some [.v (.str s)],some {k:=.str,..}=>val (some (.v (.int .i64 s.length)))
   |some [.v (.br _ n _)],some {k:=.br _,..}=>val (some (.v (.int .i64 n)))
   |_,_=>none
  |.builtin .append=>match c.args.toList,(c.argTypes.toList[0]?).bind (look tt),(c.argTypes.toList[1]?).bind (look tt) with
   |[.tmp t,x],some {k:=.br e,..},some t2=>match look tt e,r (.tmp t),r x,look g.env t,g.rs with
    |some b1,some (.v (.br k n get)),some d2,some ⟨_,some a'⟩,.val y::rs=>
     bif Nat.beq e a'&&Nat.beq k b1.size&&Nat.ble 1 b1.size&&Nat.ble 1 b1.bytes&&p.isEmpty then
      match d2,t2.k with
      |.v (.br aq m lE),.br _=>bif Nat.beq aq k then
       some (.go {e:=some {d:=.v y,own:=some e},gY:=[t],rs,aO:=[gL (.br k (n+m) λi=>bif Nat.blt i n then get i else lE (i-n)) y,room (n+m) b1.bytes=true]})
       else none
      |.v (.str s),.str=>bif Nat.beq k 1 then
       some (.go {e:=some {d:=.v y,own:=some e},gY:=[t],rs,aO:=[gL (.br k (n+s.length) λi=>bif Nat.blt i n then get i else .int .u8 (s.getD (i-n) 0).toNat) y,room (n+s.length) b1.bytes=true]})
       else none
      |_,_=>none
     else none
    |some b1,some (.full k n get),some d2,_,.val y::rs=>
     bif Nat.beq k b1.size&&Nat.ble 1 b1.size&&Nat.ble 1 b1.bytes&&p.isEmpty then
      match d2,t2.k with
      |.v (.br aq m lE),.br _=>bif Nat.beq aq k&&Nat.ble 1 m then
       some (.go {e:=some {d:=.v y,own:=some e},gY:=[t],rs,aO:=[gL (.br k (n+m) λi=>bif Nat.blt i n then get i else lE (i-n)) y,room (n+m) b1.bytes=true]})
       else none
      |_,_=>none
     else none
    |_,_,_,_,_=>none
   |_,_,_=>none
  |.builtin .min=>match mapM' (λy=>r y) c.args.toList with
   |some [.v (.int k a),.v (.int aq b)]=>bif decide (k=aq)then val (some (.v (.int k (bif decide (b<a)then b else a))))else none
   |_=>none
  |.builtin .max=>match mapM' (λy=>r y) c.args.toList with
   |some [.v (.int k a),.v (.int aq b)]=>bif decide (k=aq)then val (some (.v (.int k (bif decide (a<b)then b else a))))else none
   |_=>none
  |_=>none
 |.panic x=>match r x with
  |some (.v (.iface t y))=>some (.a8 (.iface t y) [] [])
  |_=>none
 |_=>none
def gM:List Nat→List (Nat×aP)→List (Nat×aP)
 |[],env=>env
 |t::l,env=>match look env t with
  |some e=>(t,{e with own:=none})::gM l env
  |none=>gM l env
inductive zN where
 |go (g:c6)
 |a8 (x:V) (st:aD) (aO:List Prop)
def oS:List (Nat×aP)→List (Nat×aP)
 |[]=>[]
 |(t,e)::l=>(t,{d:=e.d})::oS l
def oT(ops:List Oper)(g:c6)(o:Oper):Option Path:=
 match o.guard with
 |none=>some []
 |some (j,w)=>match(ops[j]?).bind (·.dst) with
  |some t=>match look g.bL t with
   |some (q,.v (.bool _))=>some (q++[(t,w)])
   |some _=>none
   |none=>match look g.env t with
    |some ⟨.v (.bool _),_⟩=>some [(t,w)]
    |_=>none
  |none=>none
def wC(bL:List (Nat×Path×D))(t:Nat):Bool:=bL.all λx=>Nat.beq x.1 t||x.2.1.all λy=>!Nat.beq y.1 t
def nl(
 bX:gf) (tt:dq) (N:Nat) (ops:List Oper) (g:c6) (o:Oper):Option zN:=
 match oT ops g o with
 |none=>none
 |some p=>
  match step1 bX tt ops g p o with
  |none=>none
  |some (.a8 x hs aO)=>bif p.isEmpty then some (.a8 x {env:=oS g.env,H:=hs++g.H,aL:=g.aL} (aO++g.aO))else none
  |some (
   .go f)=>
   let eG:c6:={g with rs:=f.rs,aO:=f.aO.map (under g p)++g.aO}
   match o.dst with
   |none=>bif p.isEmpty then some (.go {eG with env:=gM f.gY g.env,H:=f.hs++g.H,aL:=g.aL+f.e6})else none
   |some t=>bif Nat.blt t N&&wC g.bL t then
    match p with
    |[]=>some (.go {eG with
     env:=match f.e with|some e=>(t,e)::gM f.gY g.env|none=>del (gM f.gY g.env) t
     bL:=del g.bL t,H:=f.hs++g.H,aL:=g.aL+f.e6})
    |_::_=>match f.e,f.hs,f.gY with
     |some e,[],[]=>bif p.all (λy=>!Nat.beq y.1 t)&&Nat.beq f.e6 0 then some (.go {eG with env:=del g.env t,bL:=(t,p,e.d)::del g.bL t})else none
     |_,_,_=>none
    else none
def r9(bX:gf)(tt:dq)(N:Nat)(ops:List Oper):List Oper→c6→Option zN
 |[],g=>some (.go g)
 |o::l,g=>match nl bX tt N ops g o with
  |some (.go eG)=>r9 bX tt N ops l eG
  |x=>x
mutual
def below(n:Nat):D→Bool
 |.v _ |.eK _ |.full _ _ _=>true
 |.ptr r _=>Nat.blt r n
 |.ca r _ _=>Nat.blt r n
 |.fn _ eT=>tM n eT
 |.agg cs |.cm cs=>tM n cs
def tM(n:Nat):List D→Bool
 |[]=>true
 |d::l=>below n d&&tM n l
end
def r'(n:Nat):List aP→Bool
 |[]=>true
 |e::l=>below n e.d&&r' n l
def zO(env:List (Nat×aP)):List Nat→Option (List (Nat×aP))
 |[]=>some []
 |t::l=>match look env t,zO env l with
  |some e,some co=>some ((t,e)::co)
  |_,_=>none
def zP(H:List (Nat×List aP)):List Nat→Option (List (Nat×List aP))
 |[]=>some []
 |r::l=>match look H r,zP H l with
  |some e,some co=>some ((r,e)::co)
  |_,_=>none
def tN(live:List Nat)(boxes:List Nat)(n:Nat)(env:List (Nat×aP))(H:List (Nat×List aP))(aL:Nat):Option aD:=
 match zO env live,zP H boxes with
 |some nm,some bA=>bif Nat.ble n aL&&nm.all (λx=>below n x.2.d)&&bA.all (λx=>Nat.blt x.1 n&&r' n x.2)then some {env:=nm,H:=bA,aL:=n}else none
 |_,_=>none
inductive Fin where
 |go (st:aD) (aO:List Prop)
 |a8 (x:V) (st:aD) (aO:List Prop)
def cU.mono{M M':Mem}(cI:M.le M'){v:Value}{x:V}(h:cU M v x):cU M' v x:=by
 induction h with
 |int k n=>exact .int k n
 |bool b=>exact .bool b
 |str l=>exact .str l
 |agg vs cs hn Z _ aG=>exact .agg vs cs hn Z aG
 |lC k get=>exact .lC k get
 |oP a k get=>exact .oP a k get
 |br b off k n cap get val hc hk hm Z _ aG=>exact .br b off k n cap get val hc hk (λi j hi hj=>cI _ _ _ (hm i j hi hj)) Z aG
 |iface t v x _ aG=>exact .iface t v x aG
 |d'=>exact .d'
 |hX=>exact .hX
 |aK=>exact .aK
 |any v Z=>exact .any v Z
 |nY k get=>exact .nY k get
inductive ce(M:Mem)(β:Nat→Option Nat):Value→D→Prop where
 |v (u:Value) (x:V) (h:cU M u x):ce M β u (.v x)
 |ptr (r off b:Nat) (h:β r=some b):ce M β (.pointer (some ⟨b,off,none⟩)) (.ptr r off)
 |ld (r off:Nat) (u:TypeId):ce M β (.pointer none) (.ca r off u)
 |ca (r off b:Nat) (u:TypeId) (h:β r=some b):ce M β (.pointer (some ⟨b,off,none⟩)) (.ca r off u)
 |eK (b off:Nat) (x:V) (val:Nat→Value) (cI:∀j,j<x.cells.length→M b (off+j)=some (val j)) (Z:∀j,j<x.cells.length→(val j).oneCell'=true)
  (h:∀(j:Nat) c,x.cells[j]? = some c→cU M (val j) c):ce M β (.pointer (some ⟨b,off,none⟩)) (.eK x)
 |full (base:Option Addr) (k n:Nat) (get:Nat→V) (h:cU M (.slice base n n) (.br k n get)):ce M β (.slice base n n) (.full k n get)
 |fn (f:FuncId) (vs:List Value) (cs:List D) (hn:vs.length=cs.length)
  (h:∀(i:Nat) v c,vs[i]? = some v→cs[i]? = some c→ce M β v c):ce M β (.func (.func f) #[] ⟨vs⟩) (.fn f cs)
 |agg (vs:List Value) (cs:List D) (hn:vs.length=cs.length) (Z:∀v,v∈vs→v.oneCell'=true)
  (h:∀(i:Nat) v c,vs[i]? = some v→cs[i]? = some c→ce M β v c):ce M β (.agg ⟨vs⟩) (.agg cs)
 |cm (vs:List Value) (cs:List D) (hn:vs.length=cs.length)
  (h:∀(i:Nat) v c,vs[i]? = some v→cs[i]? = some c→ce M β v c):ce M β (.tuple ⟨vs⟩) (.cm cs)
def ce.mono{M M':Mem}{β:Nat→Option Nat}(cI:M.le M'){v:Value}{d:D}(h:ce M β v d):ce M' β v d:=by
 induction h with
 |v u x h=>exact .v u x (h.mono cI)
 |ptr r off b h=>exact .ptr r off b h
 |ld r off u=>exact .ld r off u
 |ca r off b u h=>exact .ca r off b u h
 |eK b off x val hm Z h=>exact .eK b off x val (λj hj=>cI _ _ _ (hm j hj)) Z (λj c hc=>(h j c hc).mono cI)
 |full b k n get h=>exact .full b k n get (h.mono cI)
 |fn f vs cs hn _ aG=>exact .fn f vs cs hn aG
 |agg vs cs hn Z _ aG=>exact .agg vs cs hn Z aG
 |cm vs cs hn _ aG=>exact .cm vs cs hn aG
def r_{n:Nat}:∀{l:List D} {i:Nat} {d:D},tM n l=true→l[i]? = some d→below n d=true
 |[],_,_,_,h=>by simp at h
 |d::l,0,_,hb,h=>by simp [tM]at hb;simp at h;exact h ▸ hb.1
 |d::l,i+1,_,hb,h=>by simp [tM]at hb;simp at h;exact r_ hb.2 h
def ce.QT{M:Mem}{β β':Nat→Option Nat}{n:Nat}(gN:∀r,r<n→β' r=β r){v:Value}{d:D}(h:ce M β v d):Ab.below n d=true→ce M β' v d:=by
 induction h with
 |v u x h=>intro _;exact .v u x h
 |ptr r off b h=>intro hb;exact .ptr r off b (by rw [gN r (by simpa [Ab.below,Nat.blt_eq]using hb)];exact h)
 |ld r off u=>intro hb;exact .ld r off u
 |ca r off b u h=>intro hb;exact .ca r off b u (by rw [gN r (by simpa [Ab.below,Nat.blt_eq]using hb)];exact h)
 |eK b off x val hm Z h=>intro _;exact .eK b off x val hm Z h
 |full b k n get h=>intro _;exact .full b k n get h
 |fn f vs cs hn _ aG=>intro hb;exact .fn f vs cs hn λi v c an hc=>aG i v c an hc (r_ (by simpa [Ab.below]using hb) hc)
 |agg vs cs hn Z _ aG=>intro hb;exact .agg vs cs hn Z λi v c an hc=>aG i v c an hc (r_ (by simpa [Ab.below]using hb) hc)
 |cm vs cs hn _ aG=>intro hb;exact .cm vs cs hn λi v c an hc=>aG i v c an hc (r_ (by simpa [Ab.below]using hb) hc)
def wD{f:Nat→Option Nat}:∀{l co:List D},kF f l=some co→l.length=co.length∧∀(i:Nat) d,l[i]? = some d→∃di,co[i]? = some di∧d_ f d=some di
 |[],co,h=>by simp [kF]at h;subst h;simp
 |d::l,co,h=>by
  simp only [kF]at h;split at h<;>simp at h
  rename_i di gZ hd ab;subst h;obtain⟨Z,aa⟩:=wD ab;refine⟨by simp [Z],λi x hx=>?_⟩
  cases i with
  |zero=>simp at hx;subst hx;exact⟨di,by simp,hd⟩
  |succ i=>simp at hx;simpa using aa i x hx
def ce.d_{M:Mem}{β β':Nat→Option Nat}{f:Nat→Option Nat}(gN:∀r s b,f r=some s→β r=some b→β' s=some b){v:Value}{d:D}(h:ce M β v d):
 ∀{di},d_ f d=some di→ce M β' v di:=by
 induction h with
 |v u x h=>intro di hd;simp [Ab.d_]at hd;subst hd;exact .v u x h
 |ptr r off b h=>
  intro di hd;simp only [Ab.d_,Option.map_eq_some_iff]at hd;obtain⟨s,hs,rfl⟩:=hd;exact .ptr s off b (gN r s b hs h)
 |ld r off u=>
  intro di hd;simp only [Ab.d_,Option.map_eq_some_iff]at hd;obtain⟨s,hs,rfl⟩:=hd;exact .ld s off u
 |ca r off b u h=>
  intro di hd;simp only [Ab.d_,Option.map_eq_some_iff]at hd;obtain⟨s,hs,rfl⟩:=hd;exact .ca s off b u (gN r s b hs h)
 |eK b off x val hm Z h=>intro di hd;simp [Ab.d_]at hd;subst hd;exact .eK b off x val hm Z h
 |full b k n get h=>intro di hd;simp [Ab.d_]at hd;subst hd;exact .full b k n get h
 |fn f vs cs hn _ aG=>
  intro di hd;simp only [Ab.d_,Option.map_eq_some_iff]at hd;obtain⟨cs',dV,rfl⟩:=hd;obtain⟨Z,aa⟩:=wD dV;refine .fn f vs cs' (by omega) λi v c an hc=>?_
  have hi:i<cs.length:=by have:=(List.getElem?_eq_some_iff.1 hc).1;omega
  obtain⟨d1,gg,ah⟩:=aa i cs[i] (List.getElem?_eq_getElem hi);rw [hc]at gg;cases gg;exact aG i v _ an (List.getElem?_eq_getElem hi) ah
 |agg vs cs hn Z _ aG=>
  intro di hd;simp only [Ab.d_,Option.map_eq_some_iff]at hd;obtain⟨cs',dV,rfl⟩:=hd;obtain⟨h0,aa⟩:=wD dV;refine .agg vs cs' (by omega) Z λi v c an hc=>?_
  have hi:i<cs.length:=by have:=(List.getElem?_eq_some_iff.1 hc).1;omega
  obtain⟨d1,gg,ah⟩:=aa i cs[i] (List.getElem?_eq_getElem hi);rw [hc]at gg;cases gg;exact aG i v _ an (List.getElem?_eq_getElem hi) ah
 |cm vs cs hn _ aG=>
  intro di hd;simp only [Ab.d_,Option.map_eq_some_iff]at hd;obtain⟨cs',dV,rfl⟩:=hd;obtain⟨Z,aa⟩:=wD dV;refine .cm vs cs' (by omega) λi v c an hc=>?_
  have hi:i<cs.length:=by have:=(List.getElem?_eq_some_iff.1 hc).1;omega
  obtain⟨d1,gg,ah⟩:=aa i cs[i] (List.getElem?_eq_getElem hi);rw [hc]at gg;cases gg;exact aG i v _ an (List.getElem?_eq_getElem hi) ah
def ce.Jy{M:Mem}{β β':Nat→Option Nat}(gN:∀r b,β r=some b→β' r=some b){v:Value}{d:D}(h:ce M β v d):ce M β' v d:=by
 induction h with
 |v u x h=>exact .v u x h
 |ptr r off b h=>exact .ptr r off b (gN r b h)
 |ld r off u=>exact .ld r off u
 |ca r off b u h=>exact .ca r off b u (gN r b h)
 |eK b off x val hm Z h=>exact .eK b off x val hm Z h
 |full b k n get h=>exact .full b k n get h
 |fn f vs cs hn _ aG=>exact .fn f vs cs hn aG
 |agg vs cs hn Z _ aG=>exact .agg vs cs hn Z aG
 |cm vs cs hn _ aG=>exact .cm vs cs hn aG
def ce.Zj{M:Mem}{β β':Nat→Option Nat}{n:Nat}(gN:∀r,r<n→∀b,β r=some b→β' r=some b){v:Value}{d:D}(h:ce M β v d):Ab.below n d=true→ce M β' v d:=by
 induction h with
 |v u x h=>intro _;exact .v u x h
 |ptr r off b h=>intro hb;exact .ptr r off b (gN r (by simpa [Ab.below,Nat.blt_eq]using hb) b h)
 |ld r off u=>intro hb;exact .ld r off u
 |ca r off b u h=>intro hb;exact .ca r off b u (gN r (by simpa [Ab.below,Nat.blt_eq]using hb) b h)
 |eK b off x val hm Z h=>intro _;exact .eK b off x val hm Z h
 |full b k n get h=>intro _;exact .full b k n get h
 |fn f vs cs hn _ aG=>intro hb;exact .fn f vs cs hn λi v c an hc=>aG i v c an hc (r_ (by simpa [Ab.below]using hb) hc)
 |agg vs cs hn Z _ aG=>intro hb;exact .agg vs cs hn Z λi v c an hc=>aG i v c an hc (r_ (by simpa [Ab.below]using hb) hc)
 |cm vs cs hn _ aG=>intro hb;exact .cm vs cs hn λi v c an hc=>aG i v c an hc (r_ (by simpa [Ab.below]using hb) hc)
structure Ctx where
 zQ:Mem
 F:Nat→Option Obj
 kH:Nat→Option Nat
 hE:Os×Array (Nat×ByteArray)
 ds:List Deferred:=[]
inductive Loc where
 |slot (s:Nat)
 |cell (r i:Nat)
deriving DecidableEq
def aD.at(st:aD):Loc→Option aP
 |.slot s=>look st.env s
 |.cell r i=>(look st.H r).bind (·[i]?)
def cb(tmps:Array Value)(w:World)(β:Nat→Option Nat):Loc→Value
 |.slot s=>tmps.getD s undef
 |.cell r i=>match β r with
  |some b=>(w.cell? ⟨b,i,none⟩).getD undef
  |none=>undef
def hF:Value→Option Nat
 |.slice (some a) _ _=>some a.block
 |_=>none
def oU(P:Program)(F:Nat→Option Obj)(M:Mem)(w:World)(T:TypeId)(v:Value):Prop:=
 v = .slice none 0 0∨∃b n cap vs T',v = .slice (some ⟨b,0,none⟩) n cap∧n≤cap∧w.heap[b]? = some (.cells ⟨vs⟩ T' (0,0))∧cap*P.cellsOf T≤vs.length∧
  (∀o,n*P.cellsOf T≤o→M b o=none)∧F b=none∧T'=T
def Jz (P : Program) : List Nat := ["strconv.ErrSyntax", "strconv.ErrRange"].filterMap P.globalNamed
def JA:Array Value:=((List.range 20).map λi=>Value.int .u64 ((10 ^ i:Nat):Int)).toArray
def q2(P:Program)(F:Nat→Option Obj):Prop:=
 (∀g,g∈Jz P→∃cs t kc fk,F g=some (.cells cs t kc)∧cs[0]? = some fk∧(fk = .nilIface∨∃b1 q3,fk = .iface b1 q3))∧
 ∀ g, P.globalNamed "internal/strconv.uint64pow10" = some g → ∃ t kc, F g = some (.cells JA t kc)
def q2.mono{P:Program}{F QU:Nat→Option Obj}(h:q2 P F)(dw:∀b aO,F b=some aO→QU b=some aO):q2 P QU:=⟨λg hg=>by
 obtain⟨cs,t,kc,fk,Z,aa,ai⟩:=h.1 g hg;exact⟨cs,t,kc,fk,dw _ _ Z,aa,ai⟩,λg hg=>by
 obtain⟨t,kc,Z⟩:=h.2 g hg;exact⟨t,kc,dw _ _ Z⟩⟩
def kI(P:Program)(T:TypeId)(n:Nat)(cs:List aP):Prop:=∀e,e∈cs→∀r off u,e.d = .ca r off u→liesAt P P.depth T (n / P.cellsOf T) off u 1=true
def Zk(P:Program)(T:TypeId)(vs:List Value)(cs:List aP):Prop:=(∀v,v∈vs→v.oneCell'=true)∧kI P T vs.length cs
def kI.sub{P:Program}{T:TypeId}{n:Nat}{cs cs':List aP}(h:kI P T n cs)(hs:∀e,e∈cs'→∃bN,bN∈cs∧bN.d=e.d):kI P T n cs':=λe he r off u hd=>by
 obtain⟨bN,Z,aa⟩:=hs e he;exact h bN Z r off u (aa.trans hd)
structure bv(P:Program)(K:Ctx)(M:Mem)(β:Nat→Option Nat)(st:aD)(tmps:Array Value)(w:World):Prop where
 e9:∀l e,st.at l=some e→ce M β (cb tmps w β l) e.d
 own:∀l e T,st.at l=some e→e.own=some T→oU P K.F M w T (cb tmps w β l)
 uniq:∀l co e a' T T' b,st.at l=some e→e.own=some T→st.at co=some a'→a'.own=some T'→
  hF (cb tmps w β l)=some b→hF (cb tmps w β co)=some b→l=co
 unbox:∀l e T b r cs,st.at l=some e→e.own=some T→hF (cb tmps w β l)=some b→look st.H r=some cs→β r≠some b
 box:∀r cs,look st.H r=some cs→∃b vs T,β r=some b∧w.heap[b]? = some (.cells ⟨vs⟩ T (0,0))∧vs.length=cs.length∧(∀o,M b o=none)∧K.F b=none∧Zk P T vs cs
 inj:∀r dd b cs cs',look st.H r=some cs→look st.H dd=some cs'→β r=some b→β dd=some b→r=dd
 lt:∀r b,β r=some b→r<st.aL
 mem:∀b o v,M b o=some v→w.cell? ⟨b,o,none⟩=some v
 m0:K.zQ.le M
 frame:∀b aO,K.F b=some aO→w.heap[b]? = some aO∧∀o,M b o=K.zQ b o
 ie:∀r b,K.kH r=some b→β r=some b
 iR:q2 P K.F
 hE:(w.os,w.output)=K.hE
def aD.JB{st:aD}{r i:Nat}{cs:List aP}(h:look st.H r=some cs):st.at (.cell r i)=cs[i]? := by simp [aD.at,h]
def DC:∀{l:List D},r7 l=true→∀d,d∈l→∀r off u,d ≠ .ca r off u
 |[],h,d,hd=>by cases hd
 |x::l,h,d,hd=>by
  have aa:r7 l=true:=by cases x<;>first|exact h|cases h
  rcases List.mem_cons.1 hd with rfl|jJ
  ·intro r off u e;subst e;cases h
  ·exact DC aa d jJ
def kI.QV{P:Program}{T:TypeId}{n r:Nat}{st bO:aD}{cs cs':List aP}(h:kI P T n cs)(Z:look st.H r=some cs)(aa:look bO.H r=some cs')
 (he:∀l a',bO.at l=some a'→∃e,st.at l=some e∧(e.d=a'.d∨∀q off u,a'.d ≠ .ca q off u)):kI P T n cs':=λe hm q off u hd=>by
 obtain⟨i,hi,rfl⟩:=List.getElem_of_mem hm;obtain⟨bN,g1,g2⟩:=he (.cell r i) cs'[i] (by rw [aD.JB aa];exact List.getElem?_eq_getElem hi)
 rw [aD.JB Z]at g1;rcases g2 with g2|g2
 ·exact h bN (List.mem_of_getElem? g1) q off u (g2.trans hd)
 ·exact absurd hd (g2 q off u)
def dB{α:Type}(j:Nat)(x:α)(l:List (Nat×α))(i:Nat):look ((j,x)::l) i=if j=i then some x else look l i:=by
 by_cases h:j=i
 ·simp [look,h]
 ·have:Nat.beq j i=false:=by rw [Bool.eq_false_iff];simpa using h
  simp [look,h,this]
def pT{α:Type}(l:List (Nat×α))(t i:Nat):look (del l t) i=if t=i then none else look l i:=by
 induction l with
 |nil=>simp [del,look]
 |cons x l aG=>
  obtain⟨j,x⟩:=x;by_cases h:j=t
  ·subst h;have:Nat.beq j j=true:=by simp
   simp only [del,this,cond_true,aG,dB];by_cases aa:j=i<;>simp [aa]
  ·have cv:Nat.beq j t=false:=by rw [Bool.eq_false_iff];simpa using h
   simp only [del,cv,cond_false,dB,aG];by_cases aa:j=i
   ·subst aa;simp [Ne.symm h]
   ·simp [aa]
def cell_of_heap{w:World}{b o:Nat}{vs:List Value}{T:TypeId}{n2:Nat×Nat}(h:w.heap[b]? = some (.cells ⟨vs⟩ T n2)):w.cell? ⟨b,o,none⟩=vs[o]? := by
 simp [World.cell?,h]
def lt_of_heap{w:World}{b:Nat}{aO:Obj}(h:w.heap[b]? = some aO):b<w.heap.size:=by
 rcases Nat.lt_or_ge b w.heap.size with cv|cv
 ·exact cv
 ·simp [Array.getElem?_eq_none cv]at h
def lt_of_cell{w:World}{b o:Nat}{v:Value}(h:w.cell? ⟨b,o,none⟩=some v):b<w.heap.size:=by
 unfold World.cell? at h;split at h
 ·rename_i bf;exact lt_of_heap bf
 ·cases h
def q4{w w':World}{b o:Nat}(h:w'.heap[b]? = w.heap[b]?):w'.cell? ⟨b,o,none⟩=w.cell? ⟨b,o,none⟩:=by
 simp [World.cell?,h]
section
variable {P:Program} {K:Ctx} {M M':Mem} {β β':Nat→Option Nat} {st bO:aD} {tmps fx:Array Value} {w w':World}
def oU.lt{F:Nat→Option Obj}{T:TypeId}{v:Value}{b:Nat}(h:oU P F M w T v)(hb:hF v=some b):b<w.heap.size:=by
 rcases h with rfl|⟨bp,n,cap,vs,T',rfl,_,bf,_⟩
 ·simp [hF]at hb
 ·simp [hF]at hb;subst hb;exact lt_of_heap bf
def oU.free{F:Nat→Option Obj}{T:TypeId}{v:Value}{b:Nat}(h:oU P F M w T v)(hb:hF v=some b):F b=none:=by
 rcases h with rfl|⟨bp,n,cap,vs,T',rfl,_,bf,_,_,dw,_⟩
 ·simp [hF]at hb
 ·simp [hF]at hb;subst hb;exact dw
def oU.congr{F:Nat→Option Obj}{T:TypeId}{v:Value}(h:oU P F M w T v)(hw:∀b,hF v=some b→w'.heap[b]? = w.heap[b]?)(cI:∀b o,hF v=some b→M' b o=M b o):
 oU P F M' w' T v:=by
 rcases h with rfl|⟨bp,n,cap,vs,T',rfl,Z,bf,aa,ai,dw⟩
 ·exact .inl rfl
 ·exact .inr ⟨bp,n,cap,vs,T',rfl,Z,(hw bp rfl).trans bf,aa,λo am=>(cI bp o rfl).trans (ai o am),dw⟩
def JC(h:bv P K M β st tmps w){r i:Nat}{cs:List aP}{e:aP}(ah:look st.H r=some cs)(hi:cs[i]? = some e):
 ∃b vs T v,β r=some b∧w.heap[b]? = some (.cells ⟨vs⟩ T (0,0))∧vs[i]? = some v∧cb tmps w β (.cell r i)=v:=by
 obtain⟨b,vs,T,hb,bf,ab,_⟩:=h.box r cs ah;have JD:i<cs.length:=(List.getElem?_eq_some_iff.1 hi).1;have an:vs[i]? = some vs[i]:=List.getElem?_eq_getElem (by omega)
 exact⟨b,vs,T,_,hb,bf,an,by simp only [cb,hb,cell_of_heap bf,an,Option.getD_some]⟩
def bv.zR(h:bv P K M β st tmps w){r b:Nat}{cs:List aP}(ah:look st.H r=some cs)(hb:β r=some b):b<w.heap.size:=by
 obtain⟨bp,vs,T,bF,bf,_⟩:=h.box r cs ah;rw [hb]at bF;cases bF;exact lt_of_heap bf
def bv.free(h:bv P K M β st tmps w)(b:Nat)(dw:K.F b=none)(tO:∀r cs,look st.H r=some cs→β r≠some b)
 (fZ:∀l e T,st.at l=some e→e.own=some T→hF (cb tmps w β l)≠some b)
 (hw:∀bp,bp≠b→bp<w.heap.size→w'.heap[bp]? = w.heap[bp]?) (cI:M.le M') (DD:∀bp o,bp≠b→M' bp o=M bp o)
 (DE:∀o v,M' b o=some v→w'.cell? ⟨b,o,none⟩=some v) (n3:(w'.os,w'.output)=(w.os,w.output):=by rfl):bv P K M' β st tmps w':=by
 have b6:∀l e,st.at l=some e→cb tmps w' β l=cb tmps w β l:=by
  intro l e ab;cases l with
  |slot s=>rfl
  |cell r i=>
   simp only [aD.at]at ab;cases ah:look st.H r with
   |none=>simp [ah]at ab
   |some cs=>
    obtain⟨c7,vs,T,cO,bf,_⟩:=h.box r cs ah;have cW:c7≠b:=λe=>tO r cs ah (e ▸ cO)
    simp only [cb,cO];rw [q4 (hw c7 cW (lt_of_heap bf))]
 constructor
 ·intro l e ab;rw [b6 l e ab];exact(h.e9 l e ab).mono cI
 ·intro l e T ab az;rw [b6 l e ab];refine(h.own l e T ab az).congr (λc7 cO=>hw c7 ?_ ((h.own l e T ab az).lt cO)) (λc7 o cO=>DD c7 o ?_) <;>
  ·rintro rfl;exact fZ l e T ab az cO
 ·intro l co e a' T T' c7 ab az dj dI hb bF;rw [b6 l e ab]at hb;rw [b6 co a' dj]at bF;exact h.uniq l co e a' T T' c7 ab az dj dI hb bF
 ·intro l e T c7 r cs ab az hb ah;rw [b6 l e ab]at hb;exact h.unbox l e T c7 r cs ab az hb ah
 ·intro r cs ah;obtain⟨c7,vs,T,cO,bf,Z,aa,ai⟩:=h.box r cs ah;have cW:c7≠b:=λe=>tO r cs ah (e ▸ cO)
  exact⟨c7,vs,T,cO,(hw c7 cW (lt_of_heap bf)).trans bf,Z,λo=>(DD c7 o cW).trans (aa o),ai⟩
 ·exact h.inj
 ·exact h.lt
 ·intro c7 o v an;by_cases cW:c7=b
  ·subst cW;exact DE o v an
  ·rw [DD c7 o cW]at an;have:=h.mem c7 o v an
   rw [q4 (hw c7 cW (lt_of_cell this))];exact this
 ·exact Mem.le_trans h.m0 cI
 ·intro c7 aO cO;have cW:c7≠b:=by rintro rfl;rw [dw]at cO;cases cO
  obtain⟨Z,aa⟩:=h.frame c7 aO cO;exact⟨(hw c7 cW (lt_of_heap Z)).trans Z,λo=>(DD c7 o cW).trans (aa o)⟩
 ·exact h.ie
 ·exact h.iR
 ·exact n3.trans h.hE
def bv.grow(h:bv P K M β st tmps w)(hw:∀b,b<w.heap.size→w'.heap[b]? = w.heap[b]?)(n3:(w'.os,w'.output)=(w.os,w.output):=by rfl):bv P K M β st tmps w':=by
 have hn:∀b,w.heap.size≤b→K.F b=none:=by
  intro b hb;cases dw:K.F b with
  |none=>rfl
  |some aO=>have:=lt_of_heap (h.frame b aO dw).1;omega
 refine h.free w.heap.size (hn _ (Nat.le_refl _)) ?_ ?_ (λb _ hb=>hw b hb) (Mem.le_refl _) (λ_ _ _=>rfl) ?_ n3
 ·intro r cs ah hb;have:=h.zR ah hb;omega
 ·intro l e T ab az hb;have:=(h.own l e T ab az).lt hb;omega
 ·intro o v an;have:=lt_of_cell (h.mem _ _ _ an);omega
def bv.sub(h:bv P K M β st tmps w)(hn:bO.aL=st.aL)
 (he:∀l a',bO.at l=some a'→∃e,st.at l=some e∧e.d=a'.d∧∀T,a'.own=some T→e.own=some T)
 (eZ:∀r cs',look bO.H r=some cs'→∃cs,look st.H r=some cs∧cs.length=cs'.length):bv P K M β bO tmps w:=by
 constructor
 ·intro l a' ab;obtain⟨e,Z,aa,_⟩:=he l a' ab;rw [←aa];exact h.e9 l e Z
 ·intro l a' T ab az;obtain⟨e,Z,_,ai⟩:=he l a' ab;exact h.own l e T Z (ai T az)
 ·intro l co e a' T T' b ab az dj dI;obtain⟨e1,Z,_,ai⟩:=he l e ab;obtain⟨e2,kJ,_,DF⟩:=he co a' dj;exact h.uniq l co e1 e2 T T' b Z (ai T az) kJ (DF T' dI)
 ·intro l e T b r cs ab az hb ah;obtain⟨e1,Z,_,ai⟩:=he l e ab;obtain⟨tP,hY,_⟩:=eZ r cs ah;exact h.unbox l e1 T b r tP Z (ai T az) hb hY
 ·intro r cs ah;obtain⟨tP,hY,hlen⟩:=eZ r cs ah;obtain⟨b,vs,T,Z,aa,ai,ay,aJ,bE,cz⟩:=h.box r tP hY
  exact⟨b,vs,T,Z,aa,ai.trans hlen,ay,aJ,bE,cz.QV hY ah λl a' ab=>by
   obtain⟨e,g1,g2,_⟩:=he l a' ab;exact⟨e,g1,.inl g2⟩⟩
 ·intro r dd b cs cs' ah fM hb bF;obtain⟨c1,Z,_⟩:=eZ r cs ah;obtain⟨c2,aa,_⟩:=eZ dd cs' fM;exact h.inj r dd b c1 c2 Z aa hb bF
 ·intro r b hb;rw [hn];exact h.lt r b hb
 ·exact h.mem
 ·exact h.m0
 ·exact h.frame
 ·exact h.ie
 ·exact h.iR
 ·exact h.hE
def bv.Zl(h:bv P K M β st tmps w)(hn:bO.aL=st.aL)
 (he:∀l a',bO.at l=some a'→∃e,st.at l=some e∧((e.d=a'.d∧∀T,a'.own=some T→e.own=some T)∨∃k g,e.d = .v (.nY k g)∧a'.d = .v (.br k 0 g)))
 (eZ:∀r cs',look bO.H r=some cs'→∃cs,look st.H r=some cs∧cs.length=cs'.length):bv P K M β bO tmps w:=by
 have oV:∀l e k g,st.at l=some e→e.d = .v (.nY k g)→cb tmps w β l = .slice none 0 0:=by
  intro l e k g ab hd;have:=h.e9 l e ab
  rw [hd]at this;generalize cb tmps w β l=u at this ⊢
  cases this with
  |v u x hx=>cases hx;rfl
 constructor
 ·intro l a' ab;obtain⟨e,Z,⟨aa,_⟩|⟨k,g,aa,ai⟩⟩:=he l a' ab
  ·rw [←aa];exact h.e9 l e Z
  ·rw [ai,oV l e k g Z aa];exact .v _ _ (.lC k g)
 ·intro l a' T ab az;obtain⟨e,Z,⟨_,ai⟩|⟨k,g,aa,ai⟩⟩:=he l a' ab
  ·exact h.own l e T Z (ai T az)
  ·exact .inl (oV l e k g Z aa)
 ·intro l co e a' T T' b ab az dj dI hb bF;obtain⟨e1,Z,⟨_,ai⟩|⟨k,g,aa,ai⟩⟩:=he l e ab
  ·obtain⟨e2,kJ,⟨_,DF⟩|⟨k,g,Zm,DF⟩⟩:=he co a' dj
   ·exact h.uniq l co e1 e2 T T' b Z (ai T az) kJ (DF T' dI) hb bF
   ·rw [oV co e2 k g kJ Zm]at bF;cases bF
  ·rw [oV l e1 k g Z aa]at hb;cases hb
 ·intro l e T b r cs ab az hb ah;obtain⟨tP,hY,_⟩:=eZ r cs ah;obtain⟨e1,Z,⟨_,ai⟩|⟨k,g,aa,ai⟩⟩:=he l e ab
  ·exact h.unbox l e1 T b r tP Z (ai T az) hb hY
  ·rw [oV l e1 k g Z aa]at hb;cases hb
 ·intro r cs ah;obtain⟨tP,hY,hlen⟩:=eZ r cs ah;obtain⟨b,vs,T,Z,aa,ai,ay,aJ,bE,cz⟩:=h.box r tP hY
  exact⟨b,vs,T,Z,aa,ai.trans hlen,ay,aJ,bE,cz.QV hY ah λl a' ab=>by
   obtain⟨e,g1,⟨g2,_⟩|⟨k,g,_,g3⟩⟩:=he l a' ab
   ·exact⟨e,g1,.inl g2⟩
   ·exact⟨e,g1,.inr λq off u al=>by rw [g3]at al;cases al⟩⟩
 ·intro r dd b cs cs' ah fM hb bF;obtain⟨c1,Z,_⟩:=eZ r cs ah;obtain⟨c2,aa,_⟩:=eZ dd cs' fM;exact h.inj r dd b c1 c2 Z aa hb bF
 ·intro r b hb;rw [hn];exact h.lt r b hb
 ·exact h.mem
 ·exact h.m0
 ·exact h.frame
 ·exact h.ie
 ·exact h.iR
 ·exact h.hE
structure mz(P:Program)(K:Ctx)(M:Mem)(β:Nat→Option Nat)(st:aD)(tmps:Array Value)(w:World)(l0:Loc)(v:Value)(T:TypeId):Prop where
 own:oU P K.F M w T v
 apart:∀l e T' b,st.at l=some e→e.own=some T'→l≠l0→hF v=some b→hF (cb tmps w β l)≠some b
 unbox:∀b r cs,hF v=some b→look st.H r=some cs→β r≠some b
def bv.put(h:bv P K M β st tmps w){t:Nat}{v:Value}{e:aP}(aC:t<tmps.size)(an:ce M β v e.d)
 (am:∀T,e.own=some T→mz P K M β st tmps w (.slot t) v T):
 bv P K M β {st with env:=(t,e)::st.env} (tmps.setIfInBounds t v) w:=by
 have f0:∀l,({st with env:=(t,e)::st.env}:aD).at l=if l = .slot t then some e else st.at l:=by
  intro l;cases l with
  |slot s=>
   simp only [aD.at,dB,Loc.slot.injEq];by_cases hs:t=s
   ·subst hs;simp
   ·simp [hs,Ne.symm hs]
  |cell r i=>simp [aD.at]
 have b6:∀l,cb (tmps.setIfInBounds t v) w β l=if l = .slot t then v else cb tmps w β l:=by
  intro l;cases l with
  |slot s=>
   simp only [cb,Loc.slot.injEq];by_cases hs:s=t
   ·subst hs;simp [aC]
   ·simp [hs,Ne.symm hs]
  |cell r i=>simp [cb]
 constructor
 ·intro l e1 ab;rw [f0]at ab;rw [b6];by_cases h0:l = .slot t
  ·simp only [h0,if_true]at ab ⊢;cases ab;exact an
  ·simp only [h0,if_false]at ab ⊢;exact h.e9 l e1 ab
 ·intro l e1 T ab az;rw [f0]at ab;rw [b6];by_cases h0:l = .slot t
  ·simp only [h0,if_true]at ab ⊢;cases ab;exact(am T az).own
  ·simp only [h0,if_false]at ab ⊢;exact h.own l e1 T ab az
 ·intro l co e1 e2 T T' b ab az dj dI hb bF;rw [f0]at ab dj;rw [b6]at hb bF;by_cases h0:l = .slot t<;>by_cases sa:co = .slot t
  ·rw [h0,sa]
  ·simp only [h0,sa,if_true,if_false]at ab dj hb bF;cases ab;exact absurd bF ((am T az).apart co e2 T' b dj dI sa hb)
  ·simp only [h0,sa,if_true,if_false]at ab dj hb bF;cases dj;exact absurd hb ((am T' dI).apart l e1 T b ab az h0 bF)
  ·simp only [h0,sa,if_false]at ab dj hb bF;exact h.uniq l co e1 e2 T T' b ab az dj dI hb bF
 ·intro l e1 T b r cs ab az hb ah;rw [f0]at ab;rw [b6]at hb;by_cases h0:l = .slot t
  ·simp only [h0,if_true]at ab hb;cases ab;exact(am T az).unbox b r cs hb ah
  ·simp only [h0,if_false]at ab hb;exact h.unbox l e1 T b r cs ab az hb ah
 ·exact h.box
 ·exact h.inj
 ·exact h.lt
 ·exact h.mem
 ·exact h.m0
 ·exact h.frame
 ·exact h.ie
 ·exact h.iR
 ·exact h.hE
def bv.drop(h:bv P K M β st tmps w){t:Nat}{v:Value}:bv P K M β {st with env:=del st.env t} (tmps.setIfInBounds t v) w:=by
 have f0:∀l,({st with env:=del st.env t}:aD).at l=if l = .slot t then none else st.at l:=by
  intro l;cases l with
  |slot s=>
   simp only [aD.at,pT,Loc.slot.injEq];by_cases hs:t=s
   ·subst hs;simp
   ·simp [hs,Ne.symm hs]
  |cell r i=>simp [aD.at]
 have Z:bv P K M β {st with env:=del st.env t} tmps w:=by
  refine h.sub rfl (λl a' ab=>?_) (λr cs ah=>⟨cs,ah,rfl⟩)
  rw [f0]at ab;by_cases h0:l = .slot t
  ·simp [h0]at ab
  ·simp only [h0,if_false]at ab;exact⟨a',ab,rfl,λ_ h=>h⟩
 have b6:∀l e,({st with env:=del st.env t}:aD).at l=some e→cb (tmps.setIfInBounds t v) w β l=cb tmps w β l:=by
  intro l e ab;cases l with
  |slot s=>
   have hs:t≠s:=by rintro rfl;simp [aD.at,pT]at ab
   simp [cb,hs]
  |cell r i=>rfl
 constructor
 ·intro l e ab;rw [b6 l e ab];exact Z.e9 l e ab
 ·intro l e T ab az;rw [b6 l e ab];exact Z.own l e T ab az
 ·intro l co e a' T T' b ab az dj dI hb bF;rw [b6 l e ab]at hb;rw [b6 co a' dj]at bF;exact Z.uniq l co e a' T T' b ab az dj dI hb bF
 ·intro l e T b r cs ab az hb ah;rw [b6 l e ab]at hb;exact Z.unbox l e T b r cs ab az hb ah
 ·exact Z.box
 ·exact Z.inj
 ·exact Z.lt
 ·exact Z.mem
 ·exact Z.m0
 ·exact Z.frame
 ·exact Z.ie
 ·exact Z.iR
 ·exact Z.hE
def bv.Zn(h:bv P K M β st tmps w){dk n':Nat}(lF:∀b,β dk≠some b)(Zo:dk<n')(al0:st.aL≤n'){vs:List Value}{T:TypeId}{cs:List aP}(hlen:vs.length=cs.length)(iF:∀v,v∈vs→v.oneCell'=true)(hlies:kI P T vs.length cs)
 (an:∀(i:Nat) v e,vs[i]? = some v→cs[i]? = some e→ce M β v e.d∧∀T,e.own=some T→v = .slice none 0 0):
 bv P K M (λr=>if r=dk then some w.heap.size else β r) {st with H:=(dk,cs)::st.H,aL:=n'} tmps {w with heap:=w.heap.push (.cells ⟨vs⟩ T (0,0))}:=by
 have QW:∀r b,β r=some b→r≠dk:=λr b hb e=>lF b (e ▸ hb)
 have cO:∀r b,β r=some b→(λr=>if r=dk then some w.heap.size else β r) r=some b:=by
  intro r b hb;simp [QW r b hb,hb]
 have gm:∀{v d},ce M β v d→ce M (λr=>if r=dk then some w.heap.size else β r) v d:=by
  intro v d hd;refine hd.Jy ?_;exact cO
 have hg:=h.grow (w':={w with heap:=w.heap.push (.cells ⟨vs⟩ T (0,0))}) (λb hb=>by simp [Array.getElem?_push,Nat.ne_of_lt hb])
 have hold:∀r cs,r≠dk→look ((dk,cs)::st.H) r=look st.H r:=λr cs cW=>by simp [dB,Ne.symm cW]
 have Zp:∀r cs,look st.H r=some cs→r≠dk:=λr cs ah=>by obtain⟨b,_,_,hb,_⟩:=h.box r cs ah;exact QW r b hb
 have b6:∀l e,st.at l=some e→cb tmps {w with heap:=w.heap.push (.cells ⟨vs⟩ T (0,0))} (λr=>if r=dk then some w.heap.size else β r) l=cb tmps {w with heap:=w.heap.push (.cells ⟨vs⟩ T (0,0))} β l:=by
  intro l e ab;cases l with
  |slot s=>rfl
  |cell r i=>
   simp only [aD.at]at ab;cases ah:look st.H r with
   |none=>simp [ah]at ab
   |some c=>simp [cb,Zp r c ah]
 have QX:∀i e,cs[i]? = some e→∃v,vs[i]? = some v∧cb tmps {w with heap:=w.heap.push (.cells ⟨vs⟩ T (0,0))} (λr=>if r=dk then some w.heap.size else β r) (.cell dk i)=v:=by
  intro i e hi;have JD:i<cs.length:=(List.getElem?_eq_some_iff.1 hi).1;have eN:vs[i]? = some vs[i]:=List.getElem?_eq_getElem (by omega)
  exact⟨_,eN,by simp [cb,World.cell?,hlen ▸ JD]⟩
 have f0:∀l e,({st with H:=(dk,cs)::st.H,aL:=n'}:aD).at l=some e→(∃i,l = .cell dk i∧cs[i]? = some e)∨(st.at l=some e∧∀i,l ≠ .cell dk i):=by
  intro l e ab;cases l with
  |slot s=>exact .inr ⟨ab,by simp⟩
  |cell r i=>
   by_cases ah:r=dk
   ·subst ah;simp [aD.at,dB]at ab;exact .inl ⟨i,rfl,ab⟩
   ·refine .inr ⟨?_,by simp [ah]⟩
    simpa [aD.at,dB,Ne.symm ah]using ab
 have jK:∀l e T',({st with H:=(dk,cs)::st.H,aL:=n'}:aD).at l=some e→e.own=some T'→(∃i,l = .cell dk i)→cb tmps {w with heap:=w.heap.push (.cells ⟨vs⟩ T (0,0))} (λr=>if r=dk then some w.heap.size else β r) l = .slice none 0 0:=by
  rintro l e T' ab az ⟨i,rfl⟩
  have hi:cs[i]? = some e:=by simpa [aD.at,dB]using ab
  obtain⟨v,Z,aa⟩:=QX i e hi;rw [aa];exact(an i v e Z hi).2 T' az
 constructor
 ·intro l e ab;rcases f0 l e ab with⟨i,rfl,hi⟩|⟨am,_⟩
  ·obtain⟨v,Z,aa⟩:=QX i e hi;rw [aa];exact gm (an i v e Z hi).1
  ·rw [b6 l e am];exact gm (hg.e9 l e am)
 ·intro l e T' ab az;rcases f0 l e ab with⟨i,l9,hi⟩|⟨am,_⟩
  ·rw [jK l e T' ab az ⟨i,l9⟩];exact .inl rfl
  ·rw [b6 l e am];exact hg.own l e T' am az
 ·intro l co e a' gO oW b ab az dj dI hb bF;rcases f0 l e ab with⟨i,l9,hi⟩|⟨am,_⟩
  ·rw [jK l e gO ab az ⟨i,l9⟩]at hb;simp [hF]at hb
  ·rcases f0 co a' dj with⟨i,l9,hi⟩|⟨ke,_⟩
   ·rw [jK co a' oW dj dI ⟨i,l9⟩]at bF;simp [hF]at bF
   ·rw [b6 l e am]at hb;rw [b6 co a' ke]at bF;exact hg.uniq l co e a' gO oW b am az ke dI hb bF
 ·intro l e gO b r c ab az hb ah;rcases f0 l e ab with⟨i,l9,hi⟩|⟨am,_⟩
  ·rw [jK l e gO ab az ⟨i,l9⟩]at hb;simp [hF]at hb
  ·rw [b6 l e am]at hb
   have cK:b<w.heap.size:=by
    have Z:=(h.own l e gO am az)
    have aa:cb tmps {w with heap:=w.heap.push (.cells ⟨vs⟩ T (0,0))} β l=cb tmps w β l:=by
     cases l with
     |slot s=>rfl
     |cell r i=>
      simp only [aD.at]at am;cases ah:look st.H r with
      |none=>simp [ah]at am
      |some c=>
       obtain⟨c7,kf,oW,fc,bf,_⟩:=h.box r c ah;simp only [cb,fc];rw [q4 (w:=w) (by simp [Array.getElem?_push,Nat.ne_of_lt (lt_of_heap bf)])]
    rw [aa]at hb;exact Z.lt hb
   by_cases jb:r=dk
   ·subst jb;simp;omega
   ·simp [jb];exact hg.unbox l e gO b r c am az hb (by simpa [dB,Ne.symm jb]using ah)
 ·intro r c ah;by_cases jb:r=dk
  ·subst jb;simp [dB]at ah;subst ah;refine⟨w.heap.size,vs,T,by simp,by simp,hlen,λo=>?_,?_,iF,hlies⟩
   ·cases hm:M w.heap.size o with
    |none=>rfl
    |some v=>have:=lt_of_cell (h.mem _ _ _ hm);omega
   ·cases dw:K.F w.heap.size with
    |none=>rfl
    |some aO=>have:=lt_of_heap (h.frame _ aO dw).1;omega
  ·obtain⟨b,kf,gO,Z,aa,ai⟩:=hg.box r c (by simpa [dB,Ne.symm jb]using ah)
   exact⟨b,kf,gO,by simp [jb,Z],aa,ai⟩
 ·intro r dd b c lG ah fM hb bF;by_cases jb:r=dk<;>by_cases wE:dd=dk
  ·rw [jb,wE]
  ·simp [jb]at hb;simp [wE]at bF;have:=h.zR (by simpa [dB,Ne.symm wE]using fM) bF
   omega
  ·simp [wE]at bF;simp [jb]at hb;have:=h.zR (by simpa [dB,Ne.symm jb]using ah) hb
   omega
  ·simp [jb]at hb;simp [wE]at bF;exact h.inj r dd b c lG (by simpa [dB,Ne.symm jb]using ah) (by simpa [dB,Ne.symm wE]using fM) hb bF
 ·intro r b hb;by_cases jb:r=dk
  ·subst jb;exact Zo
  ·simp [jb]at hb;have:=h.lt r b hb;simp;omega
 ·exact hg.mem
 ·exact hg.m0
 ·exact hg.frame
 ·intro r b hb;exact cO r b (h.ie r b hb)
 ·exact hg.iR
 ·exact hg.hE
end
section
variable {P:Program} {K:Ctx} {M M':Mem} {β β':Nat→Option Nat} {st bO:aD} {tmps fx:Array Value} {w w':World}
def bv.JE(h:bv P K M β st tmps w){r b:Nat}{cs:List aP}(ah:look st.H r=some cs)(hb:β r=some b){vs vs':List Value}{T:TypeId}
 (bf:w.heap[b]? = some (.cells ⟨vs⟩ T (0,0))) {cs':List aP} (hlen:vs'.length=cs'.length) (iF:∀v,v∈vs'→v.oneCell'=true) (hlies:kI P T vs.length cs→kI P T vs'.length cs') (dV:cs'.length=cs.length)
 (nn:w'.heap[b]? = some (.cells ⟨vs'⟩ T (0,0))) (zS:∀bp,bp≠b→w'.heap[bp]? = w.heap[bp]?) (i0:Nat)
 (an:∀(i:Nat) v e,vs'[i]? = some v→cs'[i]? = some e→ce M β v e.d∧∀T,e.own=some T→
  (i≠i0∧(∃bN,cs[i]? = some bN∧bN.own=some T)∧vs[i]? = some v)∨(i=i0∧mz P K M β st tmps w (.cell r i0) v T)) (n3:(w'.os,w'.output)=(w.os,w.output):=by rfl):
 bv P K M β {st with H:=(r,cs')::st.H} tmps w':=by
 have DG:K.F b=none∧∀o,M b o=none:=by
  obtain⟨c7,_,_,Z,_,_,aa,ai,_⟩:=h.box r cs ah;rw [hb]at Z;cases Z;exact⟨ai,aa⟩
 have Zq:kI P T vs.length cs:=by
  obtain⟨c7,kf,gO,Z,aa,_,_,_,_,ai⟩:=h.box r cs ah;rw [hb]at Z;cases Z;rw [bf]at aa;cases aa;exact ai
 have hO:∀bp,bp≠b→∀o,w'.cell? ⟨bp,o,none⟩=w.cell? ⟨bp,o,none⟩:=λbp cW o=>q4 (zS bp cW)
 have cW:∀dd c bp,look st.H dd=some c→β dd=some bp→dd≠r→bp≠b:=λdd c bp fM bF cW e=>cW (h.inj dd r bp c cs fM ah bF (e ▸ hb))
 have f0:∀l e,({st with H:=(r,cs')::st.H}:aD).at l=some e→(∃i v,l = .cell r i∧cs'[i]? = some e∧vs'[i]? = some v∧cb tmps w' β l=v)∨(st.at l=some e∧cb tmps w' β l=cb tmps w β l∧∀i,l ≠ .cell r i):=by
  intro l e ab;cases l with
  |slot s=>exact .inr ⟨ab,rfl,by simp⟩
  |cell dd i=>
   by_cases kK:dd=r
   ·subst kK;simp [aD.at,dB]at ab;have hi:i<cs'.length:=(List.getElem?_eq_some_iff.1 ab).1;have eN:vs'[i]? = some vs'[i]:=List.getElem?_eq_getElem (by omega)
    exact .inl ⟨i,_,rfl,ab,eN,by simp only [cb,hb,cell_of_heap nn,eN,Option.getD_some]⟩
   ·have dj:st.at (.cell dd i)=some e:=by simpa [aD.at,dB,Ne.symm kK]using ab
    refine .inr ⟨dj,?_,by simp [kK]⟩
    simp only [aD.at]at dj;cases fM:look st.H dd with
    |none=>simp [fM]at dj
    |some c=>
     obtain⟨c7,_,_,cO,_⟩:=h.box dd c fM;simp only [cb,cO];rw [hO c7 (cW dd c c7 fM cO kK)]
 have fZ:∀l e T,({st with H:=(r,cs')::st.H}:aD).at l=some e→e.own=some T→
  (l ≠ .cell r i0∧(∃bN,st.at l=some bN∧bN.own=some T)∧cb tmps w' β l=cb tmps w β l)∨(l = .cell r i0∧mz P K M β st tmps w (.cell r i0) (cb tmps w' β l) T):=by
  intro l e gO ab az;rcases f0 l e ab with⟨i,v,rfl,hi,eN,b6⟩|⟨am,b6,ig⟩
  ·rcases(an i v e eN hi).2 gO az with⟨Zr,⟨bN,JF,kg⟩,hold⟩|⟨rfl,hn⟩
   ·refine .inl ⟨by simp [Zr],⟨bN,by simp [aD.at,ah,JF],kg⟩,?_⟩
    rw [b6];simp only [cb,hb,cell_of_heap bf,hold,Option.getD_some]
   ·exact .inr ⟨rfl,by rw [b6];exact hn⟩
  ·exact .inl ⟨ig i0,⟨e,am,az⟩,b6⟩
 have eZ:∀dd c,look ((r,cs')::st.H) dd=some c→∃lG,look st.H dd=some lG:=by
  intro dd c hc;by_cases kK:r=dd
  ·exact⟨cs,kK ▸ ah⟩
  ·exact⟨c,by simpa [dB,kK]using hc⟩
 constructor
 ·intro l e ab;rcases f0 l e ab with⟨i,v,rfl,hi,eN,b6⟩|⟨am,b6,ig⟩
  ·rw [b6];exact(an i v e eN hi).1
  ·rw [b6];exact h.e9 l e am
 ·intro l e gO ab az;rcases fZ l e gO ab az with⟨_,⟨bN,h0,kg⟩,b6⟩|⟨rfl,hn⟩
  ·rw [b6];refine(h.own l bN gO h0 kg).congr (λc7 cO=>zS c7 ?_) (λ_ _ _=>rfl)
   rintro rfl
   exact h.unbox l bN gO c7 r cs h0 kg cO ah hb
  ·refine hn.own.congr (λc7 cO=>zS c7 ?_) (λ_ _ _=>rfl)
   rintro rfl
   exact hn.unbox c7 r cs cO ah hb
 ·intro l co e a' gO oW c7 ab az dj dI cO tQ;rcases fZ l e gO ab az with⟨hl0,⟨bN,h0,kg⟩,b6⟩|⟨rfl,hn⟩<;>rcases fZ co a' oW dj dI with⟨Zs,⟨wF,sa,zT⟩,pU⟩|⟨rfl,DH⟩
  ·rw [b6]at cO;rw [pU]at tQ;exact h.uniq l co bN wF gO oW c7 h0 kg sa zT cO tQ
  ·rw [b6]at cO;exact absurd cO (DH.apart l bN gO c7 h0 kg hl0 tQ)
  ·rw [pU]at tQ;exact absurd tQ (hn.apart co wF oW c7 sa zT Zs cO)
  ·rfl
 ·intro l e gO c7 dd c ab az cO fM;obtain⟨lG,jv⟩:=eZ dd c fM;rcases fZ l e gO ab az with⟨_,⟨bN,h0,kg⟩,b6⟩|⟨rfl,hn⟩
  ·rw [b6]at cO;exact h.unbox l bN gO c7 dd lG h0 kg cO jv
  ·exact hn.unbox c7 dd lG cO jv
 ·intro dd c fM;by_cases kK:r=dd
  ·subst kK;simp [dB]at fM;subst fM;exact⟨b,vs',T,hb,nn,hlen,DG.2,DG.1,iF,hlies Zq⟩
  ·have ih:look st.H dd=some c:=by simpa [dB,kK]using fM
   obtain⟨c7,kf,gO,Z,aa,ai⟩:=h.box dd c ih;exact⟨c7,kf,gO,Z,(zS c7 (cW dd c c7 ih Z (Ne.symm kK))).trans aa,ai⟩
 ·intro r1 r2 c7 c1 c2 hY ih cO fc;obtain⟨QY,Z⟩:=eZ r1 c1 hY;obtain⟨QZ,aa⟩:=eZ r2 c2 ih;exact h.inj r1 r2 c7 QY QZ Z aa cO fc
 ·exact h.lt
 ·intro c7 o v hm;by_cases wG:c7=b
  ·subst wG;rw [DG.2 o]at hm;cases hm
  ·rw [hO c7 wG];exact h.mem c7 o v hm
 ·exact h.m0
 ·intro c7 aO dw;have wG:c7≠b:=by rintro rfl;rw [DG.1]at dw;cases dw
  obtain⟨Z,aa⟩:=h.frame c7 aO dw;exact⟨(zS c7 wG).trans Z,aa⟩
 ·exact h.ie
 ·exact h.iR
 ·exact n3.trans h.hE
def np:∀(l:List Nat) (env:List (Nat×aP)) (s:Nat),
 look (gM l env) s=if s∈l then(look env s).map (λe=>{e with own:=none})else look env s
 |[],env,s=>by simp [gM]
 |t::l,env,s=>by
  have aG:=np l env s;simp only [gM];cases aC:look env t with
  |none=>
   simp only [aG];by_cases hs:s=t
   ·subst hs;simp [aC]
   ·simp [hs]
  |some e=>
   simp only [dB];by_cases hs:t=s
   ·subst hs;simp [aC]
   ·simp [hs,Ne.symm hs,aG]
def bv.gY(h:bv P K M β st tmps w)(l:List Nat):bv P K M β {st with env:=gM l st.env} tmps w:=by
 refine h.sub rfl (λgZ a' ab=>?_) (λr cs ah=>⟨cs,ah,rfl⟩)
 cases gZ with
 |slot s=>
  simp only [aD.at,np]at ab ⊢;by_cases hs:s∈l
  ·simp only [hs,if_true,Option.map_eq_some_iff]at ab;obtain⟨e,he,rfl⟩:=ab;exact⟨e,he,rfl,by simp⟩
  ·simp only [hs,if_false]at ab;exact⟨a',ab,rfl,λ_ h=>h⟩
 |cell r i=>exact⟨a',ab,rfl,λ_ h=>h⟩
def bv.hand(h:bv P K M β st tmps w){s:Nat}{e:aP}{T:TypeId}(hs:look st.env s=some e)(az:e.own=some T)(l0:Loc):
 mz P K M β {st with env:=gM [s] st.env} tmps w l0 (tmps.getD s undef) T:=by
 have ab:st.at (.slot s)=some e:=hs;refine⟨h.own (.slot s) e T ab az,λl a' T' b dj dI _ hb bF=>?_,λb r cs hb ah=>h.unbox (.slot s) e T b r cs ab az hb ah⟩
 have eu:∃e2,st.at l=some e2∧e2.own=some T'∧l ≠ .slot s:=by
  cases l with
  |slot wH=>
   simp only [aD.at,np]at dj ⊢;by_cases JG:wH=s
   ·subst JG;simp at dj;obtain⟨_,_,rfl⟩:=dj;simp at dI
   ·simp [JG]at dj;exact⟨a',dj,dI,by simp [JG]⟩
  |cell r i=>exact⟨a',dj,dI,by simp⟩
 obtain⟨e2,aa,Zt,cW⟩:=eu;exact cW (h.uniq l (.slot s) e2 e T' T b aa Zt ab az bF hb)
def bv.Q0(h:bv P K M β st tmps w){r i:Nat}{cs cs':List aP}{e:aP}{T:TypeId}(ah:look st.H r=some cs)(hi:cs[i]? = some e)(az:e.own=some T)
 (dV:cs'.length=cs.length) (l':∀(j:Nat) a',cs'[j]? = some a'→∃bN,cs[j]? = some bN∧bN.d=a'.d∧(∀T,a'.own=some T→bN.own=some T∧j≠i)) (l0:Loc):
 bv P K M β {st with H:=(r,cs')::st.H} tmps w∧mz P K M β {st with H:=(r,cs')::st.H} tmps w l0 (cb tmps w β (.cell r i)) T:=by
 have ab:st.at (.cell r i)=some e:=by simp [aD.at,ah,hi]
 have f0:∀l a',({st with H:=(r,cs')::st.H}:aD).at l=some a'→∃bN,st.at l=some bN∧bN.d=a'.d∧∀T,a'.own=some T→bN.own=some T∧l ≠ .cell r i:=by
  intro l a' dj;cases l with
  |slot s=>exact⟨a',dj,rfl,λT h=>⟨h,by simp⟩⟩
  |cell dd j=>
   by_cases kK:r=dd
   ·subst kK;simp [aD.at,dB]at dj;obtain⟨bN,Z,aa,ai⟩:=l' j a' dj;exact⟨bN,by simp [aD.at,ah,Z],aa,λT az=>⟨(ai T az).1,by simp [(ai T az).2]⟩⟩
   ·refine⟨a',by simpa [aD.at,dB,kK]using dj,rfl,λT h=>⟨h,by simp [Ne.symm kK]⟩⟩
 have eZ:∀dd c,look ((r,cs')::st.H) dd=some c→∃lG,look st.H dd=some lG∧lG.length=c.length:=by
  intro dd c hc;by_cases kK:r=dd
  ·subst kK;simp [dB]at hc;subst hc;exact⟨cs,ah,dV.symm⟩
  ·exact⟨c,by simpa [dB,kK]using hc,rfl⟩
 refine⟨h.sub rfl (λl a' dj=>?_) eZ,h.own _ e T ab az,λl a' T' b dj dI _ hb bF=>?_,λb dd c hb fM=>?_⟩
 ·obtain⟨bN,Z,aa,ai⟩:=f0 l a' dj;exact⟨bN,Z,aa,λT az=>(ai T az).1⟩
 ·obtain⟨bN,Z,_,ai⟩:=f0 l a' dj;exact(ai T' dI).2 (h.uniq l _ bN e T' T b Z (ai T' dI).1 ab az bF hb)
 ·obtain⟨lG,Z,_⟩:=eZ dd c fM;exact h.unbox _ e T b dd lG ab az hb Z
def JH(l0:Loc)(T:TypeId):mz P K M β st tmps w l0 (.slice none 0 0) T:=
 ⟨.inl rfl,λ_ _ _ _ _ _ _ hb=>by simp [hF]at hb,λ_ _ _ hb=>by simp [hF]at hb⟩
def Q1:∀{l:List Nat} {env nm:List (Nat×aP)},zO env l=some nm→∀s e,look nm s=some e→look env s=some e
 |[],env,nm,h,s,e,he=>by simp [zO]at h;subst h;simp [look]at he
 |t::l,env,nm,h,s,e,he=>by
  simp only [zO]at h;split at h<;>simp at h
  rename_i e1 gZ Z aa;subst h;rw [dB]at he;by_cases kh:t=s
  ·simp [kh]at he;subst he;rw [←kh];exact Z
  ·simp [kh]at he;exact Q1 aa s e he
def JI:∀{l:List Nat} {H bA:List (Nat×List aP)},zP H l=some bA→∀s e,look bA s=some e→look H s=some e
 |[],env,nm,h,s,e,he=>by simp [zP]at h;subst h;simp [look]at he
 |t::l,env,nm,h,s,e,he=>by
  simp only [zP]at h;split at h<;>simp at h
  rename_i e1 gZ Z aa;subst h;rw [dB]at he;by_cases kh:t=s
  ·simp [kh]at he;subst he;rw [←kh];exact Z
  ·simp [kh]at he;exact JI aa s e he
def q5{α:Type}:∀{l:List (Nat×α)} {i:Nat} {x:α},look l i=some x→(i,x)∈l
 |[],_,_,h=>by simp [look]at h
 |(j,y)::l,i,x,h=>by
  rw [dB]at h;by_cases hj:j=i
  ·simp [hj]at h;subst h;simp [hj]
  ·simp [hj]at h;exact List.mem_cons_of_mem _ (q5 h)
def JJ{n:Nat}:∀{l:List aP} {i:Nat} {e:aP},r' n l=true→l[i]? = some e→below n e.d=true
 |[],_,_,_,h=>by simp at h
 |d::l,0,_,hb,h=>by simp [r']at hb;simp at h;exact h ▸ hb.1
 |d::l,i+1,_,hb,h=>by simp [r']at hb;simp at h;exact JJ hb.2 h
def bv.tN(h:bv P K M β st tmps w){live wI:List Nat}{n:Nat}(ah:Ab.tN live wI n st.env st.H st.aL=some bO)(ei:∀r b,K.kH r=some b→r<n):
 ∃ β',bv P K M β' bO tmps w:=by
 unfold Ab.tN at ah;split at ah
 case h_2=>cases ah
 rename_i nm bA he eZ;rw [Bool.cond_eq_ite]at ah;split at ah
 case isFalse=>cases ah
 rename_i hc;cases ah;simp only [Bool.and_eq_true,List.all_eq_true,Prod.forall,Nat.blt_eq,Nat.ble_eq]at hc;obtain⟨⟨hn,Zu⟩,Q2⟩:=hc
 have Z:bv P K M β {env:=nm,H:=bA,aL:=st.aL} tmps w:=by
  refine h.sub rfl (λl a' ab=>?_) (λr cs ah=>⟨cs,JI eZ _ _ ah,rfl⟩)
  refine⟨a',?_,rfl,λ_ h=>h⟩
  cases l with
  |slot s=>exact Q1 he _ _ ab
  |cell r i=>
   simp only [aD.at]at ab ⊢;cases ah:look bA r with
   |none=>simp [ah]at ab
   |some c=>simp [ah]at ab;simp [JI eZ _ _ ah,ab]
 have mA:∀l e,({env:=nm,H:=bA,aL:=st.aL}:aD).at l=some e→below n e.d=true∧(∀r i,l = .cell r i→r<n):=by
  intro l e ab;cases l with
  |slot s=>exact⟨Zu s e (q5 ab),by simp⟩
  |cell r i=>
   simp only [aD.at]at ab;cases ah:look bA r with
   |none=>simp [ah]at ab
   |some c=>
    simp [ah]at ab;have:=Q2 r c (q5 ah)
    exact⟨JJ this.2 ab,by rintro dd l_ h;cases h;exact this.1⟩
 refine⟨λr=>if r<n then β r else none,?_⟩
 have b6:∀l e,({env:=nm,H:=bA,aL:=st.aL}:aD).at l=some e→cb tmps w (λr=>if r<n then β r else none) l=cb tmps w β l:=by
  intro l e ab;cases l with
  |slot s=>rfl
  |cell r i=>simp [cb,(mA _ _ ab).2 r i rfl]
 have jb:∀r c,look bA r=some c→r<n:=λr c ah=>(Q2 r c (q5 ah)).1
 constructor
 ·intro l e ab;rw [b6 l e ab];exact(Z.e9 l e ab).QT (λr ah=>by simp [ah]) (mA l e ab).1
 ·intro l e T ab az;rw [b6 l e ab];exact Z.own l e T ab az
 ·intro l co e a' T T' b ab az dj dI hb bF;rw [b6 l e ab]at hb;rw [b6 co a' dj]at bF;exact Z.uniq l co e a' T T' b ab az dj dI hb bF
 ·intro l e T b r cs ab az hb ah;rw [b6 l e ab]at hb;have:=Z.unbox l e T b r cs ab az hb ah
  simpa [jb r cs ah]using this
 ·intro r cs ah;obtain⟨b,vs,T,aa,ai⟩:=Z.box r cs ah;exact⟨b,vs,T,by simpa [jb r cs ah]using aa,ai⟩
 ·intro r dd b cs cs' ah fM hb bF;exact Z.inj r dd b cs cs' ah fM (by simpa [jb r cs ah]using hb) (by simpa [jb dd cs' fM]using bF)
 ·intro r b hb;by_cases cK:r<n
  ·exact cK
  ·simp [cK]at hb
 ·exact Z.mem
 ·exact Z.m0
 ·exact Z.frame
 ·intro r b hb;simp [ei r b hb,Z.ie r b hb]
 ·exact Z.iR
 ·exact Z.hE
end
def kL(P:Program):TypeDesc→Option lA
 |.int k=>some (.int k)
 |.bool=>some .bool
 |.string=>some .str
 |.struct cd=>some (.bR (cd.toList.map λf=>(f.offset,f.type,P.cellsOf f.type)))
 |.slice e=>some (.br e)
 |.array n e=>some (.arr n e)
 |.pointer _=>some .ptr
 |.func _ _ _=>some .aU
 |.interface _=>some .nZ
 |_=>none
def tR:Value→V→Bool
 |.int k n,.int k' n'=>decide (k=k')&&decide (n=n')
 |.bool a,.bool b=>a == b
 |.string s,.str l=>decide (s.data.toList=l)
 |.slice none 0 0,.br _ n _=>Nat.beq n 0
 |.pointer none,.d'=>true
 |.nilIface,.hX=>true
 |.nilFunc,.aK=>true
 |_,_=>false
def tS:List Value→List V→Bool
 |[],[]=>true
 |v::vs,x::xs=>tR v x&&tS vs xs
 |_,_=>false
def wJ(P:Program)(inner:TypeId→List Field→Bool):Nat→List Field→Bool
 |_,[]=>true
 | i, f :: l => Nat.beq f.offset i && !decide (f.name = "_") && (match P.underlying f.type with
  |some (.int _) |some .bool |some .string=>wJ P inner (i+1) l
  |some (.struct gs)=>inner f.type gs.toList&&wJ P inner (i+P.cellsOf f.type) l
  |_=>false)
def q6(P:Program):Nat→List Field→Nat
 | 0,cd=>cd.length
 |d+1,cd=>(cd.map λf=>match P.underlying f.type with
  |some (.struct gs)=>q6 P d gs.toList
  |_=>1).sum
def tT(P:Program):Nat→Nat→List Field→Bool
 | 0=>wJ P λ_ _=>false
 |d+1=>wJ P λt gs=>!P.stoodInHeld t&&Nat.beq (P.cellsOf t) (q6 P d gs)&&tT P d 0 gs
def JK(P:Program)(t:TypeId):Bool:=
 match P.underlying t with
 |some (.struct cd)=>!P.stoodInHeld t && !P.eqGuardType P.depth t&&tT P 4 0 cd.toList
 |_=>false
def Q3(P:Program)(t:TypeId)(aF:es):Bool:=
 match P.info? t,P.underlying t with
 |some i,some d=>decide (kL P d=some aF.k)&&Nat.beq i.size aF.size&&Nat.beq i.bytes aF.bytes&&Nat.beq aF.zero.length aF.size &&
  aF.i_.all (λx=>liesAt P P.depth t (aF.size / P.cellsOf t) x.1 x.2 1) &&
  (match i.zero with|some z=>tS z.cells.toList aF.zero&&(match z with|.agg _=>aF.k.isAgg|.tuple _=>false|_=>!aF.k.isAgg)|none=>false)
 |_,_=>false
def fe(P:Program)(tt:dq):Bool:=tt.all λx=>Q3 P x.1 x.2
def JL{M:Mem}{v:Value}{x:V}(h:tR v x=true):cU M v x∧v.oneCell'=true:=by
 unfold tR at h;split at h<;>simp at h
 ·obtain⟨rfl,rfl⟩:=h;exact⟨.int _ _,rfl⟩
 ·subst h;exact⟨.bool _,rfl⟩
 ·rename_i s l;subst h;exact⟨by exact .str s.data.toList,rfl⟩
 ·subst h;exact⟨.lC _ _,rfl⟩
 ·exact⟨.d',rfl⟩
 ·exact⟨.hX,rfl⟩
 ·exact⟨.aK,rfl⟩
def wK{M:Mem}:∀{vs:List Value} {xs:List V},tS vs xs=true→vs.length=xs.length∧(∀v,v∈vs→v.oneCell'=true)∧∀(i:Nat) v x,vs[i]? = some v→xs[i]? = some x→cU M v x∧tR v x=true
 |[],[],_=>by simp
 |[],_::_,h=>by simp [tS]at h
 |_::_,[],h=>by simp [tS]at h
 |v::vs,x::xs,h=>by
  simp [tS]at h;obtain⟨Z,aa,ai⟩:=wK (M:=M) h.2;refine⟨by simp [Z],?_,?_⟩
  ·intro u hu;rcases List.mem_cons.1 hu with rfl|hu
   ·exact(JL (M:=M) h.1).2
   ·exact aa u hu
  ·intro i u y hu bY;cases i with
   |zero=>simp at hu bY;subst hu;subst bY;exact⟨(JL h.1).1,h.1⟩
   |succ i=>simp at hu bY;exact ai i u y hu bY
structure Row(P:Program)(t:TypeId)(aF:es) where
 info:TypeInfo
 desc:TypeDesc
 z:Value
 hi:P.info? t=some info
 hd:P.underlying t=some desc
 hk:kL P desc=some aF.k
 size:info.size=aF.size
 bytes:info.bytes=aF.bytes
 dJ:info.zero=some z
 JM:aF.zero.length=aF.size
 zU:tS z.cells.toList aF.zero=true
 i_:(aF.i_.all λx=>liesAt P P.depth t (aF.size / P.cellsOf t) x.1 x.2 1)=true
 al1:match z with|.agg _=>aF.k.isAgg=true|.tuple _=>False|_=>aF.k.isAgg=false
theorem ek{P:Program}{tt:dq}(h:fe P tt=true){t:TypeId}{aF:es}(aC:look tt t=some aF):Nonempty (Row P t aF):=by
 have hm:=q5 aC;unfold fe at h;rw [List.all_eq_true]at h;have:=h _ hm
 unfold Q3 at this
 dsimp only at this
 split at this
 case h_2=>cases this
 rename_i i d hi hd;simp only [Bool.and_eq_true,decide_eq_true_eq,Nat.beq_eq]at this;obtain⟨⟨⟨⟨⟨Z,aa⟩,ai⟩,ay⟩,mA⟩,aJ⟩:=this;split at aJ
 case h_2=>cases aJ
 rename_i z dJ;simp only [Bool.and_eq_true]at aJ
 exact⟨⟨i,d,z,hi,hd,Z,aa,ai,dJ,ay,aJ.1,mA,by
  have:=aJ.2
  cases z<;>simp at this<;>simp [this]⟩⟩
def Row.cellsOf{P:Program}{t:TypeId}{aF:es}(r:Row P t aF):P.cellsOf t=aF.size:=by
 simp [Program.cellsOf,r.hi,r.size]
section runs
variable {P:Program} {t:TypeId} {aF:es} (w:World)
def Row.run_sizeOf(r:Row P t aF):(sizeOf t).run P w = .ok aF.size w:=by
 rw [Go.run_sizeOf w r.hi,r.cellsOf]
def Row.DI(r:Row P t aF):(zeroValue t).run P w = .ok r.z w:=by
 simp [zeroValue,typeInfo,r.hi,r.dJ]
def Row.run_underlying(r:Row P t aF):(underlying t).run P w = .ok r.desc w:=Go.run_underlying r.hd w
def Row.wL(r:Row P t aF):(isAgg t).run P w = .ok aF.k.isAgg w:=by
 have hk:=r.hk;simp only [isAgg,Sem.run_bind,r.run_underlying,Result.andThen_ok];cases hd:r.desc<;>simp [hd,kL]at hk<;>simp [←hk,lA.isAgg]
end runs
def fl(tmps:Array Value)(p:Path):Prop:=∀x,x∈p→tmps.getD x.1 undef = .bool x.2
structure fy(P:Program)(K:Ctx)(N:Nat)(M:Mem)(β:Nat→Option Nat)(g:c6)(tmps:Array Value)(w:World):Prop where
 bj:bv P K M β {env:=g.env,H:=g.H,aL:=g.aL} tmps w
 size:tmps.size=N
 fresh:∀s id,look g.ids s=some id→look g.H id=none→∀b,β id≠some b
 cond:∀t q d,look g.bL t=some (q,d)→(fl tmps q→ce M β (tmps.getD t undef) d)∧(¬ fl tmps q→tmps.getD t undef=undef)
def Path.Zv{q p:Path}(h:q.sub p=true){tmps:Array Value}(hp:fl tmps p):fl tmps q:=by
 intro x hx;unfold Path.sub at h;rw [List.all_eq_true]at h;have:=h x hx
 unfold Path.has at this;rw [List.any_eq_true]at this;obtain⟨y,bY,oX⟩:=this;simp at oX
 have Z:=hp y bY;rw [←oX.1,←oX.2];exact Z
def Zw{M:Mem}{v:Value}{x:V}(h:Jr v=some x):cU M v x:=by
 unfold Jr at h;split at h<;>simp at h<;>subst h
 ·exact .int _ _
 ·exact .bool _
 ·rename_i s;exact .str s.data.toList
 ·exact .d'
 ·exact .hX
 ·exact .aK
def dK{P:Program}{K:Ctx}{N:Nat}{M:Mem}{β:Nat→Option Nat}{g:c6}{tmps:Array Value}{w:World}(h:fy P K N M β g tmps w){p:Path}(hp:fl tmps p){tt:dq}{ty:TypeId}{x:Operand}{d:D}
 (hx:rd g.env g.bL p tt ty x=some d) {ds:List Deferred}:ce M β ((⟨tmps,ds⟩:Act).eval x) d:=by
 cases x with
 |tmp t=>
  simp only [rd]at hx;split at hx
  ·rename_i q di hc;rw [Bool.cond_eq_ite]at hx;split at hx<;>simp at hx
   subst hx;exact(h.cond t q di hc).1 (Path.Zv (by assumption) hp)
  ·simp only [Option.map_eq_some_iff]at hx;obtain⟨e,he,rfl⟩:=hx;exact h.bj.e9 (.slot t) e he
 |const v=>
  simp only [rd]at hx;split at hx
  ·rename_i heq;cases heq
  ·rename_i heq;cases heq;split at hx
   ·cases hx;exact .v _ _ (.lC _ _)
   ·cases hx
  ·rename_i heq;cases heq;simp only [Option.map_eq_some_iff]at hx;obtain⟨y,bY,rfl⟩:=hx;exact .v _ _ (Zw bY)
  ·rename_i heq;cases heq
  ·rename_i heq;cases heq
 |global n=>simp [rd]at hx
 |func f=>
  simp [rd]at hx;subst hx;exact .fn f [] [] rfl (by simp)
def Zx{v:Value}(h:v.oneCell'=true):v.cells = #[v]:=by
 cases v<;>first|rfl|(simp [Value.oneCell']at h)
def ce.cells{M:Mem}{β:Nat→Option Nat}{v:Value}{d:D}(h:ce M β v d)(aC:qZ d=false):
 v.cells.toList.length=(cellsD d).length∧(∀u,u∈v.cells.toList→u.oneCell'=true)∧∀(i:Nat) u c,v.cells.toList[i]? = some u→(cellsD d)[i]? = some c→ce M β u c:=by
 have single:∀{v:Value} {d:D},v.cells = #[v]→cellsD d=[d]→v.oneCell'=true→ce M β v d→
  v.cells.toList.length=(cellsD d).length∧(∀u,u∈v.cells.toList→u.oneCell'=true)∧∀(i:Nat) u c,v.cells.toList[i]? = some u→(cellsD d)[i]? = some c→ce M β u c:=by
  intro v d Z aa ai ay;rw [Z,aa];refine⟨rfl,by simpa using ai,λi u c hu hc=>?_⟩
  cases i with
  |zero=>simp at hu hc;subst hu;subst hc;exact ay
  |succ i=>simp at hu
 cases h with
 |v u x hx=>
  cases hx with
  |agg vs cs hn Z ah=>
   refine⟨by simp [Value.cells,cellsD,V.cells,hn],by simpa [Value.cells]using Z,λi u c hu hc=>?_⟩
   simp [Value.cells]at hu;simp [cellsD,V.cells]at hc;obtain⟨a,ha,rfl⟩:=hc;exact .v _ _ (ah i u a hu ha)
  |any v Z=>exact single (Zx Z) rfl Z (.v _ _ (.any _ Z))
  |_=>exact single rfl rfl rfl (.v _ _ (by constructor<;>assumption))
 |ptr r off b hb=>exact single rfl rfl rfl (.ptr r off b hb)
 |ld r off u=>exact single rfl rfl rfl (.ld r off u)
 |ca r off b u hb=>exact single rfl rfl rfl (.ca r off b u hb)
 |eK b off x val cI Z ah=>exact single rfl rfl rfl (.eK b off x val cI Z ah)
 |full b k n get h=>exact single rfl rfl rfl (.full b k n get h)
 |fn f vs cs hn ah=>exact single rfl rfl rfl (.fn f vs cs hn ah)
 |agg vs cs hn Z ah=>exact⟨hn,Z,ah⟩
 |cm vs cs hn ah=>simp [qZ]at aC
def Zy{cs:List D}:∀{xs:List V},zI cs=some xs→cs=xs.map .v:=by
 induction cs with
 |nil=>intro xs h;simp [zI]at h;subst h;rfl
 |cons d l aG=>
  intro xs h;cases d<;>simp [zI]at h
  obtain⟨ys,bY,rfl⟩:=h;simp [aG bY]
def DJ{M:Mem}{β:Nat→Option Nat}{vs:List Value}{cs:List D}(hn:vs.length=cs.length)(Z:∀v,v∈vs→v.oneCell'=true)
 (h:∀(i:Nat) v c,vs[i]? = some v→cs[i]? = some c→ce M β v c):ce M β (.agg ⟨vs⟩) (pP cs):=by
 unfold pP;split
 ·rename_i xs hx;have:=Zy hx
  subst this;refine .v _ _ (.agg vs xs (by simpa using hn) Z λi v c an hc=>?_)
  have:=h i v (.v c) an (by simp [hc])
  cases this;assumption
 ·exact .agg vs cs hn Z h
section
variable {P:Program} {K:Ctx} {N:Nat} {M:Mem} {β:Nat→Option Nat} {st:aD} {g:c6} {tmps:Array Value} {w:World} {v:Value}
def lH{k:IntKind}{n:Int}(h:ce M β v (.v (.int k n))):v = .int k n:=by
 cases h with|v u x h=>cases h;rfl
def nq{x:V}(h:ce M β v (.v x)):cU M v x:=by
 cases h with|v u x h=>exact h
def tU{b:Bool}(h:ce M β v (.v (.bool b))):v = .bool b:=by
 cases h with|v u x h=>cases h;rfl
def ma{l:anT}(h:ce M β v (.v (.str l))):v = .string ⟨⟨l⟩⟩:=by
 cases h with|v u x h=>cases h;rfl
def q7{r off:Nat}(h:ce M β v (.ptr r off)):∃b,β r=some b∧v = .pointer (some ⟨b,off,none⟩):=by
 cases h with|ptr r off b h=>exact⟨b,h,rfl⟩
def JN{t:TypeId}{x:V}(h:ce M β v (.v (.iface t x))):∃u,v = .iface t u∧cU M u x:=by
 cases h with|v u x h=>cases h with|iface t u x h=>exact⟨u,rfl,h⟩
def Zz{cs:List V}(h:ce M β v (.v (.agg cs))):∃vs:List Value,v = .agg ⟨vs⟩∧vs.length=cs.length∧(∀u,u∈vs→u.oneCell'=true)∧∀(i:Nat) u c,vs[i]? = some u→cs[i]? = some c→cU M u c:=by
 cases h with|v u x h=>cases h with|agg vs cs hn Z h=>exact⟨vs,rfl,hn,Z,h⟩
def ZA{cs:List D}(h:ce M β v (.cm cs)):∃vs:List Value,v = .tuple ⟨vs⟩∧vs.length=cs.length∧∀(i:Nat) u c,vs[i]? = some u→cs[i]? = some c→ce M β u c:=by
 cases h with|cm vs cs hn h=>exact⟨vs,rfl,hn,h⟩
def Q4{f:FuncId}{cs:List D}(h:ce M β v (.fn f cs)):∃vs:List Value,v = .func (.func f) #[] ⟨vs⟩∧vs.length=cs.length∧∀(i:Nat) u c,vs[i]? = some u→cs[i]? = some c→ce M β u c:=by
 cases h with|fn f vs cs hn h=>exact⟨vs,rfl,hn,h⟩
def sb{k n:Nat}{get:Nat→V}(h:ce M β v (.v (.br k n get))):((v = .slice none 0 0∨∃a,v = .slice (some a) 0 0)∧n=0)∨
 ∃(b off cap:Nat) (val:Nat→Nat→Value),v = .slice (some ⟨b,off,none⟩) n cap∧n≤cap∧(∀i,i<n→(get i).cells.length=k)∧(∀i j,i<n→j<k→M b (off+i*k+j)=some (val i j))∧
  (∀i j,i<n→j<k→(val i j).oneCell'=true)∧(∀(i j:Nat) c,i<n→(get i).cells[j]? = some c→cU M (val i j) c):=by
 cases h with
 |v u x h=>
  cases h with
  |lC=>exact .inl ⟨.inl rfl,rfl⟩
  |oP a=>exact .inl ⟨.inr ⟨a,rfl⟩,rfl⟩
  |br b off k n cap get val hc hk cI Z h=>exact .inr ⟨b,off,cap,val,rfl,hc,hk,cI,Z,h⟩
def DK{x:V}(h:ce M β v (.eK x)):∃(b off:Nat) (val:Nat→Value),v = .pointer (some ⟨b,off,none⟩)∧(∀j,j<x.cells.length→M b (off+j)=some (val j))∧(∀j,j<x.cells.length→(val j).oneCell'=true)∧
 (∀(j:Nat) c,x.cells[j]? = some c→cU M (val j) c):=by
 cases h with|eK b off x val cI Z h=>exact⟨b,off,val,rfl,cI,Z,h⟩
def tV{k n:Nat}{get:Nat→V}(h:ce M β v (.v (.br k n get))):∃a cap,v = .slice a n cap∧n≤cap:=by
 rcases sb h with⟨rfl|⟨a,rfl⟩,rfl⟩|⟨b,off,cap,val,rfl,hc,_⟩
 ·exact⟨_,_,rfl,Nat.le_refl _⟩
 ·exact⟨_,_,rfl,Nat.le_refl _⟩
 ·exact⟨_,_,rfl,hc⟩
def addr_add(b off n:Nat):(⟨b,off,none⟩:Addr).add n=⟨b,off+n,none⟩:=by
 unfold Addr.add;split<;>simp_all
def wM{x:V}(hx:x.isAgg=false):x.cells=[x]:=by
 cases x<;>first|rfl|simp [V.isAgg]at hx
def Q5{x:V}{val:Nat→Value}(Z:∀j,j<x.cells.length→(val j).oneCell'=true)(h:∀(j:Nat) c,x.cells[j]? = some c→cU M (val j) c):
 cU M (bif x.isAgg then .agg ⟨(List.range x.cells.length).map val⟩else val 0) x:=by
 cases hx:x.isAgg with
 |false=>
  have:=wM hx
  simpa using h 0 x (by simp [this])
 |true=>
  cases x<;>simp [V.isAgg]at hx
  rename_i cs;refine .agg _ cs (by simp [V.cells]) ?_ ?_
  ·intro u hu;obtain⟨j,hj,rfl⟩:=List.mem_map.1 hu;exact Z j (by simpa using hj)
  ·intro i u c hu hc;simp only [List.getElem?_map,Option.map_eq_some_iff]at hu;obtain⟨j,hj,rfl⟩:=hu
   have:j=i:=by
    rw [List.getElem?_eq_some_iff]at hj;obtain⟨_,h⟩:=hj;simpa using h.symm
   subst this;exact h j c hc
def ZB{t:TypeId}{aF:es}(r:Row P t aF)(DE:∀b o v,M b o=some v→w.cell? ⟨b,o,none⟩=some v){x:V}(an:ce M β v (.eK x))(hx:x.isAgg=aF.k.isAgg)(hs:x.cells.length=aF.size):
 ∃u,(Instr.loadAt t v).run P w = .ok u w∧cU M u x:=by
 obtain⟨b,off,val,rfl,cI,Z,h⟩:=DK an;refine⟨_,?_,Q5 Z h⟩
 have ab:∀j,j<aF.size→w.cell? ((⟨b,off,none⟩:Addr).add j)=some (val j):=λj hj=>by rw [addr_add];exact DE _ _ _ (cI j (by omega))
 cases ha:x.isAgg with
 |true=>
  rw [ha]at hx;simp [Instr.loadAt,Instr.sureAddr,loadVar,r.wL,←hx,r.run_sizeOf,run_loadCells w ⟨b,off,none⟩ aF.size val ab,hs]
 |false=>
  rw [ha]at hx;have h0:=cI 0 (by rw [wM ha];simp)
  have:=DE _ _ _ h0
  simp [Instr.loadAt,Instr.sureAddr,loadVar,r.wL,←hx,run_load];simp at this
  rw [this]
def Q6{t:TypeId}{aF:es}(r:Row P t aF){b off:Nat}{vs:List Value}{T:TypeId}{f:Nat×Nat}(bf:w.heap[b]? = some (.cells ⟨vs⟩ T f))(hle:off+aF.size≤vs.length)(ha:aF.k.isAgg=true):
 (Instr.loadAt t (.pointer (some ⟨b,off,none⟩))).run P w = .ok (.agg ⟨(vs.drop off).take aF.size⟩) w:=by
 have hlen:((vs.drop off).take aF.size).length=aF.size:=by simp;omega
 have:=run_loadCells_list (P:=P) w ⟨b,off,none⟩ ((vs.drop off).take aF.size) (λj u hj=>by
  rw [addr_add,cell_of_heap bf];rw [List.getElem?_take]at hj;split at hj
  ·simpa using hj
  ·cases hj)
 rw [hlen]at this;simp [Instr.loadAt,Instr.sureAddr,loadVar,r.wL,ha,r.run_sizeOf,this]
def JO{t:TypeId}{aF:es}(r:Row P t aF){b off:Nat}{u:Value}(hc:w.cell? ⟨b,off,none⟩=some u)(ha:aF.k.isAgg=false):
 (Instr.loadAt t (.pointer (some ⟨b,off,none⟩))).run P w = .ok u w:=by
 simp [Instr.loadAt,Instr.sureAddr,loadVar,r.wL,ha,run_load,hc]
def JP{t:TypeId}{aF:es}(r:Row P t aF){cd:List (Nat×TypeId×Nat)}(hk:aF.k = .bR cd):∃gs:Array Field,r.desc = .struct gs∧cd=gs.toList.map λf=>(f.offset,f.type,P.cellsOf f.type):=by
 have:=r.hk
 rw [hk]at this;cases hd:r.desc<;>simp [hd,kL]at this
 exact⟨_,rfl,this.symm⟩
def oY{t:TypeId}{aF:es}(r:Row P t aF){e:TypeId}(hk:aF.k = .br e):r.desc = .slice e:=by
 have:=r.hk
 rw [hk]at this;cases hd:r.desc<;>simp [hd,kL]at this
 rw [this]
def pV{t:TypeId}{aF:es}(r:Row P t aF)(hk:aF.k = .str):r.desc = .string:=by
 have:=r.hk
 rw [hk]at this;cases hd:r.desc<;>simp [hd,kL]at this;rfl
def zV{t:TypeId}{aF:es}(r:Row P t aF){k:IntKind}(hk:aF.k = .int k):r.desc = .int k:=by
 have:=r.hk
 rw [hk]at this;cases hd:r.desc<;>simp [hd,kL]at this
 rw [this]
def ZC{t:TypeId}{aF:es}(r:Row P t aF){n:Nat}{e:TypeId}(hk:aF.k = .arr n e):r.desc = .array n e:=by
 have:=r.hk
 rw [hk]at this;cases hd:r.desc<;>simp [hd,kL]at this
 rw [this.1,this.2]
def Q7{s:TypeId}{aF:es}(r:Row P s aF){cd:List (Nat×TypeId×Nat)}(hk:aF.k = .bR cd){f dt hD fw:Nat}(aN:cd[f]? = some (dt,hD,fw))(dW:1≤fw)(b off:Nat):
 (Instr.fieldAt s (.pointer (some ⟨b,off,none⟩)) f).run P w = .ok (.pointer (some ⟨b,off+dt,none⟩)) w:=by
 obtain⟨gs,hd,rfl⟩:=JP r hk;simp only [List.getElem?_map,Option.map_eq_some_iff]at aN;obtain⟨fd,jw,he⟩:=aN;simp only [Prod.mk.injEq]at he;obtain⟨rfl,rfl,rfl⟩:=he;have DL:gs[f]? = some fd:=by simpa using jw
 have hs:(sizeOf fd.type).run P w = .ok (P.cellsOf fd.type) w:=by
  cases hi:P.info? fd.type with
  |none=>simp [Program.cellsOf,hi]at dW
  |some i=>exact Go.run_sizeOf w hi
 have cW:P.cellsOf fd.type≠0:=by omega
 simp [Instr.fieldAt,r.run_underlying,hd,DL,Instr.sureAddr,fieldPlace,hs,cW,addr_add]
def Q8{s:TypeId}{aF:es}(r:Row P s aF){cd:List (Nat×TypeId×Nat)}(hk:aF.k = .bR cd){f dt hD fw:Nat}(aN:cd[f]? = some (dt,hD,fw)){wN:es}(r2:Row P hD wN)(vs:List Value)(hle:dt+fw≤vs.length):
 (wN.k.isAgg=true→(Instr.field s (.agg ⟨vs⟩) f).run P w = .ok (.agg ⟨(vs.drop dt).take fw⟩) w)∧
 (wN.k.isAgg=false→∀u,vs[dt]? = some u→(Instr.field s (.agg ⟨vs⟩) f).run P w = .ok u w):=by
 obtain⟨gs,hd,rfl⟩:=JP r hk;simp only [List.getElem?_map,Option.map_eq_some_iff]at aN;obtain⟨fd,jw,he⟩:=aN;simp only [Prod.mk.injEq]at he;obtain⟨rfl,rfl,rfl⟩:=he;have DL:gs[f]? = some fd:=by simpa using jw
 have dW:=r2.cellsOf;refine⟨λha=>?_,λha u hu=>?_⟩
 ·simp [Instr.field,r.run_underlying,hd,DL,asAgg,part,r2.wL,ha,r2.run_sizeOf,dW,List.extract_eq_take_drop]
 ·simp [Instr.field,r.run_underlying,hd,DL,asAgg,part,r2.wL,ha,hu]
def ZD{t:TypeId}{aF:es}(r:Row P t aF){e:TypeId}(hk:aF.k = .br e){b1:es}(dx:Row P e b1){k:IntKind}{j:Int}{b off n cap:Nat}(h0:0≤j)(Z:j<n):
 (Instr.indexAt t (.slice (some ⟨b,off,none⟩) n cap) (.int k j)).run P w = .ok (.pointer (some ⟨b,off+j.toNat*b1.size,none⟩)) w:=by
 simp [Instr.indexAt,asIntOf,r.run_underlying,oY r hk,h0,Z,dx.run_sizeOf,addr_add]
def ZE{t:TypeId}{aF:es}(r:Row P t aF)(hk:aF.k = .str){k:IntKind}{j:Int}{l:anT}(h0:0≤j)(Z:j<l.length):
 (Instr.index t (.string ⟨⟨l⟩⟩) (.int k j)).run P w = .ok (.int .u8 (l.getD j.toNat 0).toNat) w:=by
 have cK:j.toNat<l.length:=by omega
 have ZF:j.toNat<(ByteArray.mk ⟨l⟩).size:=cK;have hs:(ByteArray.mk ⟨l⟩)[j.toNat]? = some l[j.toNat]:=by rw [getElem?_pos (ByteArray.mk ⟨l⟩) j.toNat ZF];rfl
 simp [Instr.index,asIntOf,r.run_underlying,pV r hk,h0,hs,List.getElem?_eq_getElem cK]
def DM(l:anT):(⟨⟨l⟩⟩:ByteArray).toList=l:=by
 rw [ByteArray.toList_eq]
end
section
variable {P:Program} {K:Ctx} {N:Nat} {M:Mem} {β:Nat→Option Nat} {g:c6} {tmps:Array Value} {w:World} {o:Oper} {f:kE} {p:Path} {tt:dq} {bX:gf} {ops:List Oper}
def after(g:c6)(f:kE):aD:={env:=gM f.gY g.env,H:=f.hs++g.H,aL:=g.aL+f.e6}
def ii(P:Program)(K:Ctx)(M:Mem)(β:Nat→Option Nat)(g:c6)(f:kE)(tmps:Array Value)(v:Value)(w':World):Prop:=
 ∃M' β',M.le M'∧(∀r b,β r=some b→β' r=some b)∧(∀r b,β' r=some b→β r=some b∨(look f.hs r).isSome=true)∧bv P K M' β' (after g f) tmps w'∧
  ∀e,f.e=some e→ce M' β' v e.d∧∀T l0,e.own=some T→mz P K M' β' (after g f) tmps w' l0 v T
def Yields(P:Program)(K:Ctx)(M:Mem)(β:Nat→Option Nat)(g:c6)(f:kE)(o:Oper)(tmps:Array Value)(w:World):Prop:=
 (∃v w',(execOp (Act.eval ⟨tmps,[]⟩) o).run P w = .ok (.value v) w'∧ii P K M β g f tmps v w')∨
 (f.e=none∧∃w',(execOp (Act.eval ⟨tmps,[]⟩) o).run P w = .ok .skip w'∧ii P K M β g f tmps undef w')∨
 (∃fn vs,(execOp (Act.eval ⟨tmps,[]⟩) o).run P w = .ok (.enter fn vs) w∧Calls P fn vs w λe w'=>∃v,e = .returned v∧ii P K M β g f tmps v w')
def eO(h:fy P K N M β g tmps w){v:Value}{d:D}(ah:(execOp (Act.eval ⟨tmps,[]⟩) o).run P w = .ok (.value v) w)(hd:ce M β v d){rs:List e8}{aO:List Prop}:
 Yields P K M β g {e:=some {d},rs,aO} o tmps w:=
 .inl ⟨v,w,ah,M,β,Mem.le_refl _,λ_ _ h=>h,λ_ _ h=>.inl h,h.bj,λe he=>by cases he;exact⟨hd,by simp⟩⟩
def iS(x:Sem Value){v:Value}{w':World}(h:x.run P w = .ok v w'):(do pure (.value (←x)):Sem Next).run P w = .ok (.value v) w':=by
 simp [h]
def DN(h:fy P K N M β g tmps w)(hp:fl tmps p){x:Operand}(am:o.op = .move x∨o.op = .assign x){d:D}(hx:rd g.env g.bL p tt o.type x=some d):
 Yields P K M β g {e:=some {d},rs:=g.rs} o tmps w:=
 eO h (v:=(⟨tmps,[]⟩:Act).eval x) (by rcases am with am|am<;>simp [execOp,am]) (dK h hp hx)
def Q9(h:fy P K N M β g tmps w)(hp:fl tmps p){t:Nat}(am:o.op = .move (.tmp t)∨o.op = .assign (.tmp t)){d:D}(hx:rd g.env g.bL p tt o.type (.tmp t)=some d)
 {s:TypeId} (hs:oR g (.tmp t)=some s) {rs:List e8}:Yields P K M β g {e:=some {d,own:=some s},gY:=[t],rs} o tmps w:=by
 refine .inl ⟨(⟨tmps,[]⟩:Act).eval (.tmp t),w,by rcases am with am|am<;>simp [execOp,am],M,β,Mem.le_refl _,λ_ _ h=>h,λ_ _ h=>.inl h,?_,λe he=>?_⟩
 ·have:=h.bj.gY [t];exact this
 ·cases he;refine⟨dK h hp hx,λT l0 az=>?_⟩
  cases az;simp only [oR,Option.bind_eq_some_iff]at hs;obtain⟨e,he,hs⟩:=hs;exact h.bj.hand he hs l0
def ZG(h:fy P K N M β g tmps w)(hp:fl tmps p)(am:o.op = .assign (.const (.slice none 0 0))){d:D}(hx:rd g.env g.bL p tt o.type (.const (.slice none 0 0))=some d)(s:TypeId):
 Yields P K M β g {e:=some {d,own:=some s},rs:=g.rs} o tmps w:=by
 refine .inl ⟨.slice none 0 0,w,by simp [execOp,am,Act.eval],M,β,Mem.le_refl _,λ_ _ h=>h,λ_ _ h=>.inl h,h.bj,λe he=>?_⟩
 cases he;exact⟨dK (ds:=[]) h hp hx,λT l0 _=>JH l0 T⟩
def ZH(h:fy P K N M β g tmps w)(hp:fl tmps p){c:Nat}{a b:Operand}(am:o.op = .pick (.tmp c) a b){r8 zM tL:Bool}(hc:rd g.env g.bL p tt o.type (.tmp c)=some (.v (.bool r8)))
 (ha:rd g.env g.bL ((c,true)::p) tt o.type a=some (.v (.bool zM))) (hb:rd g.env g.bL ((c,false)::p) tt o.type b=some (.v (.bool tL))):
 Yields P K M β g {e:=some {d:=.v (.bool (bif r8 then zM else tL))},rs:=g.rs} o tmps w:=by
 have jv:(⟨tmps,[]⟩:Act).eval (.tmp c) = .bool r8:=tU (dK h hp hc);have Q':tmps.getD c undef = .bool r8:=jv;cases r8 with
 |true=>
  refine eO h (v:=(⟨tmps,[]⟩:Act).eval a) (by simp [execOp,am,jv,asBool]) ?_
  exact dK h (p:=(c,true)::p) (λx hx=>by rcases List.mem_cons.1 hx with rfl|hx;exact Q';exact hp x hx) ha
 |false=>
  refine eO h (v:=(⟨tmps,[]⟩:Act).eval b) (by simp [execOp,am,jv,asBool]) ?_
  exact dK h (p:=(c,false)::p) (λx hx=>by rcases List.mem_cons.1 hx with rfl|hx;exact Q';exact hp x hx) hb
def bv.JQ{st:aD}(h:bv P K M β st tmps w)(o:Nat):M w.heap.size o=none:=by
 cases hm:M w.heap.size o with
 |none=>rfl
 |some v=>have:=lt_of_cell (h.mem _ _ _ hm);omega
def Q_(h:fy P K N M β g tmps w){vs:List Value}{T:TypeId}{cs:List aP}(hlen:vs.length=cs.length)(iF:∀v,v∈vs→v.oneCell'=true)(hlies:kI P T vs.length cs)
 (an:∀(i:Nat) v e,vs[i]? = some v→cs[i]? = some e→ce M β v e.d∧∀T,e.own=some T→v = .slice none 0 0)
 (ah:(execOp (Act.eval ⟨tmps,[]⟩) o).run P w = .ok (.value (.pointer (some ⟨w.heap.size,0,none⟩))) {w with heap:=w.heap.push (.cells ⟨vs⟩ T (0,0))}) {id e6:Nat} (hid:nk g o=some (id,e6)):
 Yields P K M β g {e:=some {d:=.ptr id 0},hs:=[(id,cs)],e6,rs:=g.rs} o tmps w:=by
 have aN:(∀b,β id≠some b)∧id<g.aL+e6:=by
  unfold nk at hid;split at hid
  ·rename_i al2 ab;rw [Bool.cond_eq_ite]at hid;split at hid<;>cases hid
   rename_i hc;simp only [Bool.and_eq_true,Option.isNone_iff_eq_none,Nat.blt_eq]at hc;rw [Option.bind_eq_some_iff]at ab;obtain⟨s,_,ab⟩:=ab;exact⟨h.fresh s _ ab hc.1,by omega⟩
  ·cases hid;exact⟨λb hb=>by have:=h.bj.lt _ b hb;simp at this,by omega⟩
 refine .inl ⟨_,_,ah,M,_,Mem.le_refl _,?_,?_,h.bj.Zn (n':=g.aL+e6) aN.1 aN.2 (by simp) (T:=T) hlen iF hlies an,λe he=>?_⟩
 ·intro r b hb;have cW:r≠id:=λe=>aN.1 b (e ▸ hb)
  simp [cW,hb]
 ·intro r b hb;by_cases cW:r=id
  ·exact .inr (by simp [dB,cW])
  ·simp [cW]at hb;exact .inl hb
 ·cases he;exact⟨.ptr _ _ _ (by simp),by simp⟩
def Ra{α:Type}:∀(l:List α) (n i:Nat),(cB n l)[i]? = (l[i]?).map (n+i,·)
 |[],n,i=>by simp [cB]
 |x::l,n,0=>by simp [cB]
 |x::l,n,i+1=>by simp [cB,Ra l (n+1) i];congr 1;funext;congr 1;omega
def Rb{α:Type}:∀(l:List α) (n:Nat),(cB n l).length=l.length
 |[],n=>rfl
 |x::l,n=>by simp [cB,Rb l (n+1)]
def Rc{x:V}{t:Option TypeId}{T:TypeId}(h:Dz x t=some T):∃k n get,x = .br k n get:=by
 cases x<;>simp [Dz]at h;exact⟨_,_,_,rfl⟩
def Rd(i_:List (Nat×TypeId))(id i:Nat)(x:V):zK i_ id i x = .v x∨(x = .d'∧∃u,zK i_ id i x = .ca id i u∧(i,u)∈i_):=by
 unfold zK;split
 ·split
  ·rename_i y bY;right
   have Z:=List.find?_some bY;have aa:=List.mem_of_find?_eq_some bY;obtain⟨j,u⟩:=y;obtain rfl:j=i:=by simpa using Z
   exact⟨rfl,u,rfl,aa⟩
  ·exact .inl rfl
 ·exact .inl rfl
def ZI{t:TypeId}{id:Nat}{z:List aP}(h:DA tt t id=some z):∃aF,look tt t=some aF∧z.length=aF.zero.length∧
 ∀(i:Nat) e,z[i]? = some e→∃x,aF.zero[i]? = some x∧(e.d = .v x∨(x = .d'∧∃u,e.d = .ca id i u∧(i,u)∈aF.i_))∧∀T,e.own=some T→∃k n get,x = .br k n get:=by
 unfold DA at h;split at h<;>simp at h
 ·rename_i e fw jL zero mb ab;subst h;refine⟨_,ab,by simp,λi a' he=>?_⟩
  simp only [List.getElem?_map,Option.map_eq_some_iff]at he;obtain⟨x,hx,rfl⟩:=he;exact⟨x,hx,.inl rfl,λT az=>Rc az⟩
 ·rename_i cd fw jL zero mb ab;subst h;refine⟨_,ab,by simp [Rb],λi a' he=>?_⟩
  simp only [List.getElem?_map,Option.map_eq_some_iff,Ra]at he;obtain⟨_,⟨x,hx,rfl⟩,rfl⟩:=he;simp only [Nat.zero_add];exact⟨x,hx,Rd mb id i x,λT az=>Rc az⟩
 ·rename_i k fw jL zero mb _ _ ab;subst h;refine⟨_,ab,by simp,λi a' he=>?_⟩
  simp only [List.getElem?_map,Option.map_eq_some_iff]at he;obtain⟨x,hx,rfl⟩:=he;exact⟨x,hx,.inl rfl,by simp⟩
def ZJ(h:fy P K N M β g tmps w)(cf:fe P tt=true){t:TypeId}(am:o.op = .alloc t){z:List aP}{id e6:Nat}(dJ:DA tt t id=some z)(hid:nk g o=some (id,e6)):
 Yields P K M β g {e:=some {d:=.ptr id 0},hs:=[(id,z)],e6,rs:=g.rs} o tmps w:=by
 obtain⟨aF,ab,hlen,Re⟩:=ZI dJ;obtain⟨r⟩:=ek cf ab;obtain⟨Z,aa,ai⟩:=wK (M:=M) r.zU;refine Q_ h (vs:=r.z.cells.toList) (T:=t) (by omega) aa (λe he q off u hd=>?_) (λi v e an he=>?_) ?_ hid
 ·obtain⟨i,hi,rfl⟩:=List.getElem_of_mem he;obtain⟨x,hx,iG,_⟩:=Re i z[i] (List.getElem?_eq_getElem hi);rcases iG with iG|⟨_,al3,iG,hm⟩
  ·rw [iG]at hd;cases hd
  ·rw [iG]at hd;cases hd;have:=List.all_eq_true.1 r.i_ _ hm
   have dW:=r.JM;rw [show r.z.cells.toList.length=aF.size by omega]
   exact this
 ·obtain⟨x,hx,hd,fZ⟩:=Re i e he;obtain⟨ay,aJ⟩:=ai i v x an hx
  refine⟨by
   rcases hd with hd|⟨rfl,u,hd,_⟩
   ·rw [hd];exact .v _ _ ay
   ·rw [hd];cases ay;exact .ld _ _ _,λT az=>?_⟩
  obtain⟨k,n,get,rfl⟩:=fZ T az;unfold tR at aJ;split at aJ<;>simp_all
 ·simp [execOp,am,Instr.alloc,r.DI,newVar,newRow]
def JR(tt:dq)(aF:es)(id:Nat):∀(l:List D) (i j:Nat),(pS tt aF id i l)[j]? = (l[j]?).map (wB tt aF id (i+j))
 |[],i,j=>by simp [pS]
 |d::l,i,0=>by simp [pS]
 |d::l,i,j+1=>by
  simp only [pS,List.getElem?_cons_succ];rw [JR tt aF id l (i+1) j,show i+1+j=i+(j+1)by omega]
def JS(tt:dq)(aF:es)(id:Nat):∀(l:List D) (i:Nat),(pS tt aF id i l).length=l.length
 |[],i=>rfl
 |d::l,i=>by simp only [pS,List.length_cons,JS tt aF id l (i+1)]
def Rf{M:Mem}{β:Nat→Option Nat}(tt:dq)(aF:es)(id i:Nat)(d:D)(sc:∀r o u,d ≠ .ca r o u){v:Value}(h:ce M β v d):
 ce M β v (wB tt aF id i d).d∧(∀T,(wB tt aF id i d).own=some T→v = .slice none 0 0)∧∀r o u,(wB tt aF id i d).d = .ca r o u→(o,u)∈aF.i_:=by
 unfold wB;split
 ·rcases Rd aF.i_ id i .d' with Z|⟨_,u,Z,aa⟩
  ·simp only [Z];exact⟨h,(λT az=>by cases az),(λr o u e=>by cases e)⟩
  ·simp only [Z]
   cases h with|v u x hx=>cases hx with
    |d'=>exact⟨.ld _ _ _,(λT az=>by cases az),(λr o u e=>by cases e;exact aa)⟩
 ·split
  ·cases h with|v u x hx=>cases hx with
    |nY=>exact⟨.v _ _ (.lC _ _),λ_ _=>rfl,λr o u e=>by cases e⟩
  ·exact⟨h,(λT az=>by cases az),(λr o u e=>by cases e)⟩
 ·exact⟨h,(λT az=>by cases az),λr o u e=>absurd e (sc r o u)⟩
def ZK(h:fy P K N M β g tmps w)(hp:fl tmps p){t:TypeId}{x:Operand}(am:o.op = .box t x){d:D}(hx:rd g.env g.bL p tt o.type x=some d)(aC:qZ d=false)(sc:r7 (cellsD d)=true)(cf:fe P tt=true){aF:es}(ab:look tt t=some aF)(dW:(cellsD d).length=aF.size){id e6:Nat}(hid:nk g o=some (id,e6)):
 Yields P K M β g {e:=some {d:=.ptr id 0},hs:=[(id,pS tt aF id 0 (cellsD d))],e6,rs:=g.rs} o tmps w:=by
 obtain⟨r⟩:=ek cf ab;obtain⟨Z,aa,ai⟩:=(dK (ds:=[]) h hp hx).cells aC;refine Q_ h (vs:=((⟨tmps,[]⟩:Act).eval x).cells.toList) (T:=t) (by rw [JS];simpa using Z) aa (λe he q off u hd=>?_) (λi v e an he=>?_) ?_ hid
 ·obtain⟨i,hi,rfl⟩:=List.getElem_of_mem he;have hg:(pS tt aF id 0 (cellsD d))[i]? = some _:=List.getElem?_eq_getElem hi;rw [JR,Option.map_eq_some_iff]at hg;obtain⟨c,hc,JT⟩:=hg;rw [←JT]at hd;have JU:i<((⟨tmps,[]⟩:Act).eval x).cells.toList.length:=by rw [JS]at hi;omega
  have:=(Rf tt aF id (0+i) c (DC sc c (List.mem_of_getElem? hc)) (ai i _ c (List.getElem?_eq_getElem JU) hc)).2.2 q off u hd
  have hb:=List.all_eq_true.1 r.i_ _ this;rw [Z,dW];exact hb
 ·rw [JR,Option.map_eq_some_iff]at he;obtain⟨c,hc,rfl⟩:=he;obtain⟨g1,g2,_⟩:=Rf tt aF id (0+i) c (DC sc c (List.mem_of_getElem? hc)) (ai i v c an hc);exact⟨g1,g2⟩
 ·simp [execOp,am,Instr.box,newVar,newRow]
end
def q8{α:Type}:∀(cs:List α) (off:Nat) (xs:List α),off+xs.length≤cs.length→(setAt cs off xs).length=cs.length∧∀(i:Nat),(setAt cs off xs)[i]? = if off≤i∧i<off+xs.length then xs[i-off]? else cs[i]?
 |[],0,[],_=>by simp [setAt]
 |[],0,x::xs,h=>by simp at h
 |[],n+1,xs,h=>by simp at h
 |c::cs,0,[],_=>by
  refine⟨by simp [setAt],λi=>?_⟩
  simp only [setAt,List.length_nil];rw [if_neg (by omega)]
 |c::cs,0,x::xs,h=>by
  obtain⟨Z,aa⟩:=q8 cs 0 xs (by simp at h ⊢;omega)
  refine⟨by simp [setAt,Z],λi=>?_⟩
  cases i with
  |zero=>simp [setAt]
  |succ i=>
   simp only [setAt,List.getElem?_cons_succ,aa i,Nat.zero_add,List.length_cons];by_cases hi:i<xs.length<;>simp [hi]
 |c::cs,n+1,xs,h=>by
  obtain⟨Z,aa⟩:=q8 cs n xs (by simp at h ⊢;omega)
  refine⟨by simp [setAt,Z],λi=>?_⟩
  cases i with
  |zero=>simp [setAt]
  |succ i=>
   simp only [setAt,List.getElem?_cons_succ,aa i];by_cases hi:n≤i∧i<n+xs.length
   ·rw [if_pos hi,if_pos (by omega)];congr 1;omega
   ·rw [if_neg hi,if_neg (by omega)]
def JV(off:Nat):∀(l:List Value) (k:Nat) (cs:Array Value),off+k+l.length≤cs.size→
 ((l.zipIdx k).foldl (λcs (x:Value×Nat)=>cs.setIfInBounds (off+x.2) x.1) cs).size=cs.size∧
 ∀(i:Nat),((l.zipIdx k).foldl (λcs (x:Value×Nat)=>cs.setIfInBounds (off+x.2) x.1) cs)[i]? = if off+k≤i∧i<off+k+l.length then l[i-(off+k)]? else cs[i]?
 |[],k,cs,h=>by
  refine⟨rfl,λi=>?_⟩
  simp only [List.zipIdx_nil,List.foldl_nil,List.length_nil];rw [if_neg (by omega)]
 |x::l,k,cs,h=>by
  obtain⟨Z,aa⟩:=JV off l (k+1) (cs.setIfInBounds (off+k) x) (by simp at h ⊢;omega)
  simp only [List.zipIdx_cons,List.foldl_cons];refine⟨by simpa using Z,λi=>?_⟩
  rw [aa i];simp only [List.length_cons]at h ⊢;by_cases ai:off+(k+1)≤i∧i<off+(k+1)+l.length
  ·rw [if_pos ai,if_pos (by omega)]
   obtain⟨j,rfl⟩:∃j,i=off+k+1+j:=⟨i-(off+k+1),by omega⟩
   rw [show off+k+1+j-(off+(k+1))=j by omega,show off+k+1+j-(off+k)=j+1 by omega]
   simp
  ·rw [if_neg ai];by_cases ay:i=off+k
   ·subst ay;rw [if_pos (by omega)]
    have:off+k<cs.size:=by omega
    simp [this]
   ·rw [if_neg (by omega)]
    rw [Array.getElem?_setIfInBounds_ne (Ne.symm ay)]
section
variable {P:Program} {K:Ctx} {N:Nat} {M:Mem} {β:Nat→Option Nat} {g:c6} {tmps:Array Value} {w:World} {o:Oper} {f:kE} {p:Path} {tt:dq} {bX:gf} {ops:List Oper}
structure Cells(M:Mem)(β:Nat→Option Nat)(vs:List Value)(cs:List D):Prop where
 len:vs.length=cs.length
 one:∀v,v∈vs→v.oneCell'=true
 rep:∀(i:Nat) v c,vs[i]? = some v→cs[i]? = some c→ce M β v c
def DO{vs:List Value}(h:∀v,v∈vs→v.oneCell'=true){i:Nat}{v:Value}(hi:vs[i]? = some v):v.oneCell'=true:=h v (List.mem_of_getElem? hi)
def Rg{vs:List Value}(h:∀(i:Nat) v,vs[i]? = some v→v.oneCell'=true):∀v,v∈vs→v.oneCell'=true:=λv an=>by
 obtain⟨i,hi⟩:=List.getElem?_of_mem an;exact h i v hi
def Cells.set{vs:List Value}{cs:List D}(h:Cells M β vs cs){ws:List Value}{ds:List D}(cv:Cells M β ws ds){off:Nat}(hle:off+ds.length≤cs.length){vs':List Value}(hlen:vs'.length=vs.length)
 (ij:∀(i:Nat),vs'[i]? = if off≤i∧i<off+ws.length then ws[i-off]? else vs[i]?):Cells M β vs' (setAt cs off ds):=by
 obtain⟨Z,aa⟩:=q8 cs off ds hle;refine⟨by rw [hlen,Z,h.len],Rg λi v an=>?_,λi v c an hc=>?_⟩
 ·rw [ij i]at an;split at an
  ·exact DO cv.one an
  ·exact DO h.one an
 ·rw [ij i]at an;rw [aa i]at hc;by_cases hi:off≤i∧i<off+ds.length
  ·rw [if_pos hi]at hc;rw [if_pos (by rw [cv.len];exact hi)]at an
   exact cv.rep _ v c an hc
  ·rw [if_neg hi]at hc;rw [if_neg (by rw [cv.len];exact hi)]at an
   exact h.rep _ v c an hc
def JW{place:Nat→Option (Nat×Nat)}:∀{bM:List (Nat×D)} {vs:List (Nat×Value)} {cs cs':List D} {cells:Array Value},vs.length=bM.length→
 (∀(i:Nat) a b,bM[i]? = some a→vs[i]? = some b→a.1=b.1∧ce M β b.2 a.2)→Cells M β cells.toList cs→q0 place cs bM=some cs'→
 ∃jc,Instr.fill place cells vs=some jc∧Cells M β jc.toList cs'
 |[],[],cs,cs',cells,_,_,hc,h=>by simp [q0]at h;subst h;exact⟨cells,rfl,hc⟩
 |[],_::_,_,_,_,h,_,_,_=>by simp at h
 |_::_,[],_,_,_,h,_,_,_=>by simp at h
 |(i,d)::bM,(j,v)::vs,cs,cs',cells,hn,ah,hc,h=>by
  obtain⟨Rh,hd⟩:=ah 0 (i,d) (j,v) (by simp) (by simp)
  simp only at Rh hd
  subst Rh;simp only [q0]at h;split at h
  ·cases h
  ·rename_i off size nr;rw [Bool.cond_eq_ite]at h;split at h
   case isFalse=>cases h
   rename_i hb;simp only [Bool.and_eq_true,Nat.beq_eq,Nat.ble_eq,Bool.not_eq_true']at hb;obtain⟨⟨cO,fc⟩,JX⟩:=hb;obtain⟨Z,aa,ai⟩:=hd.cells JX;have dW:cells.size=cs.length:=by simpa using hc.len
   have dV:v.cells.size=size:=by simpa [cO]using Z
   have aN:=JV off v.cells.toList 0 cells (by simp [dV];omega)
   have JY:v.cells.zipIdx.foldl (λcs (x:Value×Nat)=>cs.setIfInBounds (off+x.2) x.1) cells=(v.cells.toList.zipIdx 0).foldl (λcs (x:Value×Nat)=>cs.setIfInBounds (off+x.2) x.1) cells:=by
    rw [←Array.foldl_toList,Array.toList_zipIdx]
   have jv:Cells M β (v.cells.zipIdx.foldl (λcs (x:Value×Nat)=>cs.setIfInBounds (off+x.2) x.1) cells).toList (setAt cs off (cellsD d)):=by
    rw [JY];refine hc.set ⟨Z,aa,ai⟩ (by omega) (by simpa using aN.1) (λk=>?_)
    have:=aN.2 k
    simp only [Nat.add_zero]at this;rw [Array.getElem?_toList,this];simp only [Array.getElem?_toList]
   obtain⟨jc,zW,oZ⟩:=JW (place:=place) (by simpa using hn) (λk a b ha hb=>ah (k+1) a b (by simpa using ha) (by simpa using hb)) jv h
   refine⟨jc,?_,oZ⟩
   simp only [Instr.fill,nr];rw [if_neg (by simp;omega)]
   exact zW
def sd{α dm:Type}{f:α→Option dm}:∀{l:List α} {co:List dm},mapM' f l=some co→co.length=l.length∧∀(i:Nat) a b,l[i]? = some a→co[i]? = some b→f a=some b
 |[],co,h=>by simp [mapM']at h;subst h;simp
 |x::l,co,h=>by
  simp only [mapM']at h;split at h<;>simp at h
  rename_i y ys bY ZL;subst h;obtain⟨Z,aa⟩:=sd ZL;refine⟨by simp [Z],λi a b ha hb=>?_⟩
  cases i with
  |zero=>simp at ha hb;subst ha;subst hb;exact bY
  |succ i=>simp at ha hb;exact aa i a b ha hb
def Row.Ri{t:TypeId}{aF:es}(r:Row P t aF):Cells M β r.z.cells.toList (aF.zero.map .v):=by
 obtain⟨Z,aa,ai⟩:=wK (M:=M) r.zU;refine⟨by simpa using Z,aa,λi v c an hc=>?_⟩
 simp only [List.getElem?_map,Option.map_eq_some_iff]at hc;obtain⟨x,hx,rfl⟩:=hc;exact .v _ _ (ai i v x an hx).1
def ZM{M:Mem}{v:Value}{x:V}(h:tR v x=true):cU M v (Jx x):=by
 have h0:=(JL (M:=M) h).1;unfold tR at h;split at h<;>first|exact h0|skip
 ·rename_i k n g;have:n=0:=by simpa using h
  subst this;exact .nY _ _
 ·cases h
def Row.ZN{t:TypeId}{aF:es}(r:Row P t aF):Cells M β r.z.cells.toList (aF.zero.map λx=>.v (Jx x)):=by
 obtain⟨Z,aa,ai⟩:=wK (M:=M) r.zU;refine⟨by simpa using Z,aa,λi v c an hc=>?_⟩
 simp only [List.getElem?_map,Option.map_eq_some_iff]at hc;obtain⟨x,hx,rfl⟩:=hc;exact .v _ _ (ZM (ai i v x an hx).2)
def JZ(h:fy P K N M β g tmps w)(hp:fl tmps p){ty:Nat→TypeId}{parts:Array (Nat×Operand)}{bM:List (Nat×D)}(lI:mapM' (fun(x:Nat×Operand)=>(rd g.env g.bL p tt (ty x.1) x.2).map λd=>(x.1,d)) parts.toList=some bM):
 ((parts.map fun(x:Nat×Operand)=>(x.1,(⟨tmps,[]⟩:Act).eval x.2)).toList).length=bM.length∧
 ∀(i:Nat) a b,bM[i]? = some a→(parts.map fun(x:Nat×Operand)=>(x.1,(⟨tmps,[]⟩:Act).eval x.2)).toList[i]? = some b→a.1=b.1∧ce M β b.2 a.2:=by
 obtain⟨Z,aa⟩:=sd lI;refine⟨by simpa using Z.symm,λi a b ha hb=>?_⟩
 simp only [Array.toList_map,List.getElem?_map,Option.map_eq_some_iff]at hb;obtain⟨x,hx,rfl⟩:=hb;have:=aa i x a hx ha
 simp only [Option.map_eq_some_iff]at this;obtain⟨d,hd,rfl⟩:=this;exact⟨rfl,dK h hp hd⟩
def run_places{cd:Array Field}{l:List (Nat×TypeId×Nat)}(ab:l=cd.toList.map λf=>(f.offset,f.type,P.cellsOf f.type))(hs:∀f,f∈cd.toList→1≤P.cellsOf f.type):
 (cd.mapM λf=>(do pure (f.offset,←sizeOf f.type):Sem (Nat×Nat))).run P w = .ok (cd.map λf=>(f.offset,P.cellsOf f.type)) w:=by
 obtain⟨se⟩:=cd;rw [List.mapM_toArray]
 have key:∀(l:List Field),(∀f,f∈l→1≤P.cellsOf f.type)→(l.mapM λf=>(do pure (f.offset,←sizeOf f.type):Sem (Nat×Nat))).run P w = .ok (l.map λf=>(f.offset,P.cellsOf f.type)) w:=by
  intro l;induction l with
  |nil=>intro _;rfl
  |cons f l aG=>
   intro aN;have h0:=aN f (by simp)
   have Z:(sizeOf f.type).run P w = .ok (P.cellsOf f.type) w:=by
    cases hi:P.info? f.type with
    |none=>simp [Program.cellsOf,hi]at h0
    |some i=>exact Go.run_sizeOf w hi
   simp only [List.mapM_cons,Sem.run_bind,Z,Result.andThen_ok,Sem.run_pure,aG (λf h=>aN f (by simp [h])),List.map_cons]
 simp only [Sem.run_map,key se (by simpa using hs),Result.andThen_ok]
 simp
def Rj(h:fy P K N M β g tmps w)(hp:fl tmps p)(cf:fe P tt=true){t:TypeId}{aF:es}(ab:look tt t=some aF){cd:List (Nat×TypeId×Nat)}(hk:aF.k = .bR cd)(ns:cd.all (λf=>Nat.ble 1 f.2.2)=true)
 {parts:Array (Nat×Operand)} (am:o.op = .build t parts) {bM:List (Nat×D)} (lI:mapM' (fun(x:Nat×Operand)=>(rd g.env g.bL p tt (q1 tt t x.1) x.2).map λd=>(x.1,d)) parts.toList=some bM)
 {zs:List D} (tW:∀(r:Row P t aF),Cells M β r.z.cells.toList zs) {cs:List D} (aN:q0 (fun(i:Nat)=>(cd[i]?).map fun(f:Nat×TypeId×Nat)=>(f.1,f.2.2)) zs bM=some cs) {rs:List e8}:
 Yields P K M β g {e:=some {d:=pP cs},rs} o tmps w:=by
 obtain⟨r⟩:=ek cf ab;obtain⟨gs,hd,J0⟩:=JP r hk;obtain⟨Z,aa⟩:=JZ h hp lI;obtain⟨cells,zW,hc⟩:=JW Z aa (tW r) aN
 have DP:∀f,f∈gs.toList→1≤P.cellsOf f.type:=by
  intro fd jw;rw [List.all_eq_true]at ns;have:=ns (fd.offset,fd.type,P.cellsOf fd.type) (by rw [J0];exact List.mem_map.2 ⟨fd,jw,rfl⟩)
  simpa using this
 have nr:(fun(i:Nat)=>(gs.map λf=>(f.offset,P.cellsOf f.type))[i]?)=fun(i:Nat)=>(cd[i]?).map fun(f:Nat×TypeId×Nat)=>(f.1,f.2.2):=by
  funext i
  rw [J0];cases hi:gs[i]? <;> simp [hi]
 refine eO h (v:=.agg cells) ?_ ?_
 ·simp only [execOp,am];refine iS _ ?_;have ZO:=run_places (P:=P) (w:=w) J0 DP;simp only [Instr.build,Sem.run_bind,r.DI,Result.andThen_ok,r.run_underlying,hd,ZO,nr];have:Instr.fill (fun(i:Nat)=>(cd[i]?).map fun(f:Nat×TypeId×Nat)=>(f.1,f.2.2)) r.z.cells (parts.map fun(x:Nat×Operand)=>(x.1,(⟨tmps,[]⟩:Act).eval x.2)).toList=some cells:=zW
  rw [this];rfl
 ·have:=DJ hc.len hc.one hc.rep
  simpa using this
def ZP(h:fy P K N M β g tmps w)(hp:fl tmps p)(cf:fe P tt=true){t:TypeId}{aF:es}(ab:look tt t=some aF){n:Nat}{e:TypeId}(hk:aF.k = .arr n e){b1:es}(eu:look tt e=some b1)
 {parts:Array (Nat×Operand)} (am:o.op = .build t parts) {bM:List (Nat×D)} (lI:mapM' (fun(x:Nat×Operand)=>(rd g.env g.bL p tt (q1 tt t x.1) x.2).map λd=>(x.1,d)) parts.toList=some bM)
 {cs:List D} (aN:q0 (λi=>some (i*b1.size,b1.size)) (aF.zero.map .v) bM=some cs):
 Yields P K M β g {e:=some {d:=pP cs},rs:=g.rs} o tmps w:=by
 obtain⟨r⟩:=ek cf ab;obtain⟨r2⟩:=ek cf eu;obtain⟨Z,aa⟩:=JZ h hp lI;obtain⟨cells,zW,hc⟩:=JW Z aa (r.Ri (β:=β)) aN;refine eO h (v:=.agg cells) ?_ ?_
 ·simp only [execOp,am];refine iS _ ?_;simp only [Instr.build,Sem.run_bind,r.DI,Result.andThen_ok,r.run_underlying,ZC r hk,r2.run_sizeOf];have:Instr.fill (λi=>some (i*b1.size,b1.size)) r.z.cells (parts.map fun(x:Nat×Operand)=>(x.1,(⟨tmps,[]⟩:Act).eval x.2)).toList=some cells:=zW
  rw [this];rfl
 ·have:=DJ hc.len hc.one hc.rep
  simpa using this
end
section
variable {P:Program} {K:Ctx} {N:Nat} {M:Mem} {β:Nat→Option Nat} {g:c6} {tmps:Array Value} {w:World} {o:Oper} {f:kE} {p:Path} {tt:dq} {bX:gf} {ops:List Oper}
def iH(M:Mem)(b:Nat)(lo:Nat)(vs:List Value):Mem:=λbp o=>if bp=b∧lo≤o∧o<lo+vs.length then vs[o-lo]? else M bp o
def J1{b lo:Nat}{vs:List Value}(h:∀o,lo≤o→M b o=none):M.le (iH M b lo vs):=by
 intro bp o v an;unfold iH;split
 ·rename_i hc;obtain⟨rfl,Z,aa⟩:=hc;rw [h o Z]at an;cases an
 ·exact an
def DQ{b lo:Nat}{vs:List Value}{i:Nat}{v:Value}(h:vs[i]? = some v):iH M b lo vs b (lo+i)=some v:=by
 have hi:i<vs.length:=(List.getElem?_eq_some_iff.1 h).1;unfold iH;rw [if_pos ⟨rfl,by omega,by omega⟩,show lo+i-lo=i by omega,h]
def ZQ{k:Nat}{n:Nat}{cells:List Value}(ab:cells.length=n*k){i j:Nat}(hi:i<n)(hj:j<k):cells[i*k+j]? = some (cells.getD (i*k+j) undef):=by
 have:i*k+j<cells.length:=by
  have Z:(i+1)*k≤n*k:=Nat.mul_le_mul_right k hi;rw [Nat.add_mul]at Z;omega
 simp [List.getD,List.getElem?_eq_getElem this]
def bv.newRow{st:aD}(h:bv P K M β st tmps w){vs:List Value}{T:TypeId}{n:Nat}{w':World}(hw:w'.heap=w.heap.push (.cells ⟨vs⟩ T (0,0)))(n3:(w'.os,w'.output)=(w.os,w.output):=by rfl):
 bv P K (iH M w.heap.size 0 (vs.take n)) β st tmps w'∧M.le (iH M w.heap.size 0 (vs.take n)):=by
 have cI:M.le (iH M w.heap.size 0 (vs.take n)):=J1 λo _=>h.JQ o
 refine⟨h.free w.heap.size ?_ ?_ ?_ ?_ cI ?_ ?_ n3,cI⟩
 ·cases dw:K.F w.heap.size with
  |none=>rfl
  |some aO=>have:=lt_of_heap (h.frame _ aO dw).1;omega
 ·intro r cs ah hb;have:=h.zR ah hb;omega
 ·intro l e T ab az hb;have:=(h.own l e T ab az).lt hb;omega
 ·intro bp _ bF;rw [hw];simp [Array.getElem?_push,Nat.ne_of_lt bF]
 ·intro bp o bF;simp [iH,bF]
 ·intro o v an;unfold iH at an;split at an
  ·rename_i hc;simp only [Nat.sub_zero]at an;rw [List.getElem?_take]at an;split at an
   ·have:w'.heap[w.heap.size]? = some (.cells ⟨vs⟩ T (0,0)):=by rw [hw];simp
    rw [cell_of_heap this,an]
   ·cases an
  ·rw [h.JQ o]at an;cases an
def J2{st:aD}(h:bv P K M β st tmps w){l0:Loc}{T:TypeId}{vs:List Value}{T':TypeId}(q9:T'=T){n cap:Nat}{w':World}(hw:w'.heap=w.heap.push (.cells ⟨vs⟩ T' (0,0)))(hn:n≤cap)
 (hcap:cap*P.cellsOf T≤vs.length):mz P K (iH M w.heap.size 0 (vs.take (n*P.cellsOf T))) β st tmps w' l0 (.slice (some ⟨w.heap.size,0,none⟩) n cap) T:=by
 have tX:w'.heap[w.heap.size]? = some (.cells ⟨vs⟩ T' (0,0)):=by rw [hw];simp
 refine⟨.inr ⟨w.heap.size,n,cap,vs,T',rfl,hn,tX,hcap,λo am=>?_,?_,q9⟩,?_,?_⟩
 ·have hle:n*P.cellsOf T≤vs.length:=Nat.le_trans (Nat.mul_le_mul_right _ hn) hcap;unfold iH;rw [if_neg,h.JQ o]
  rintro ⟨_,_,ai⟩
  simp only [List.length_take]at ai;omega
 ·cases dw:K.F w.heap.size with
  |none=>rfl
  |some aO=>have:=lt_of_heap (h.frame _ aO dw).1;omega
 ·intro l e oW b ab az _ hb bF;simp [hF]at hb;subst hb
  have hold:cb tmps w' β l=cb tmps w β l:=by
   cases l with
   |slot s=>rfl
   |cell r i=>
    simp only [aD.at]at ab;cases ah:look st.H r with
    |none=>simp [ah]at ab
    |some cs=>
     obtain⟨c7,kf,gO,cO,bf,_⟩:=h.box r cs ah;simp only [cb,cO];rw [q4 (w:=w) (by rw [hw];simp [Array.getElem?_push,Nat.ne_of_lt (lt_of_heap bf)])]
  rw [hold]at bF;have:=(h.own l e oW ab az).lt bF
  omega
 ·intro b r cs hb ah bF;simp [hF]at hb;subst hb;have:=h.zR ah bF
  omega
def Rk{size:Nat}:∀(l:List (Nat×Value)) (m:Nat) (cells:Array Value),(∀(i:Nat) x,l[i]? = some x→x.1=m+i∧x.2.cells.size=size)→(m+l.length)*size≤cells.size→
 ∃jc,Instr.fill (λi=>some (i*size,size)) cells l=some jc∧jc.size=cells.size∧(∀i,i<m*size→jc[i]? = cells[i]?)∧
  ∀(i:Nat) x (j:Nat) u,l[i]? = some x→x.2.cells[j]? = some u→jc[(m+i)*size+j]? = some u
 |[],m,cells,_,_=>⟨cells,rfl,rfl,λ_ _=>rfl,by simp⟩
 |(a,v)::l,m,cells,ab,hle=>by
  obtain⟨ha,dW⟩:=ab 0 (a,v) (by simp)
  simp only [Nat.add_zero]at ha;simp only at dW
  subst ha
  have al4:a*size+size≤cells.size:=by
   have Z:(a+1)*size≤(a+((a,v)::l).length)*size:=Nat.mul_le_mul_right _ (by simp)
   rw [Nat.add_mul,Nat.one_mul]at Z;omega
  have aN:=JV (a*size) v.cells.toList 0 cells (by simp [dW];omega)
  have JY:v.cells.zipIdx.foldl (λcs (x:Value×Nat)=>cs.setIfInBounds (a*size+x.2) x.1) cells=(v.cells.toList.zipIdx 0).foldl (λcs (x:Value×Nat)=>cs.setIfInBounds (a*size+x.2) x.1) cells:=by
   rw [←Array.foldl_toList,Array.toList_zipIdx]
  rw [←JY]at aN;generalize ki:v.cells.zipIdx.foldl (λcs (x:Value×Nat)=>cs.setIfInBounds (a*size+x.2) x.1) cells=c1 at aN
  obtain⟨jc,Z,aa,ai,ay⟩:=Rk l (a+1) c1 (λi x hx=>by
   obtain⟨Z,aa⟩:=ab (i+1) x (by simpa using hx)
   exact⟨by omega,aa⟩) (by rw [aN.1];simpa [Nat.add_assoc,Nat.add_comm 1]using hle)
  refine⟨jc,?_,by rw [aa,aN.1],λi hi=>?_,λi x j u hx hu=>?_⟩
  ·simp only [Instr.fill];rw [if_neg (by simp [dW];omega)]
   have:v.cells.zipIdx.foldl (λcs (c,j)=>cs.setIfInBounds (a*size+j) c) cells=c1:=ki
   rw [this];exact Z
  ·rw [ai i (by rw [Nat.add_mul];omega),aN.2 i,if_neg (by omega)]
  ·cases i with
   |zero=>
    simp at hx;subst hx
    simp only at hu
    have hj:j<size:=by rw [←dW];exact(Array.getElem?_eq_some_iff.1 hu).1
    rw [Nat.add_zero,ai _ (by rw [Nat.add_mul,Nat.one_mul];omega),aN.2,if_pos (by simp [dW];omega)]
    simpa using hu
   |succ i=>
    have:=ay i x j u (by simpa using hx) hu
    rw [show a+(i+1)=a+1+i by omega];exact this
def Rl{Rm:Bool}{size:Nat}:∀{bM:List (Nat×D)} {n:Nat} {xs:List V},elems Rm size n bM=some xs→xs.length=bM.length∧
 ∀(i:Nat) y x,bM[i]? = some y→xs[i]? = some x→y=(n+i,.v x)∧x.cells.length=size∧x.isAgg=Rm
 |[],n,xs,h=>by simp [elems]at h;subst h;simp
 |(j,d)::bM,n,xs,h=>by
  cases d<;>simp only [elems]at h<;>try cases h
  rename_i f5;rw [Bool.cond_eq_ite]at h;split at h
  case isFalse=>cases h
  rename_i hb;simp only [Bool.and_eq_true,Nat.beq_eq,beq_iff_eq]at hb;obtain⟨⟨cO,fc⟩,JX⟩:=hb;simp only [Option.map_eq_some_iff]at h;obtain⟨ys,bY,rfl⟩:=h;obtain⟨Z,aa⟩:=Rl bY;refine⟨by simp [Z],λi y x hi hx=>?_⟩
  cases i with
  |zero=>simp at hi hx;subst hi;subst hx;exact⟨by simp [cO],fc,JX⟩
  |succ i=>
   simp at hi hx
   obtain⟨ai,ay⟩:=aa i y x hi hx;exact⟨by rw [ai];simp;omega,ay⟩
def ZR(h:fy P K N M β g tmps w)(hp:fl tmps p)(cf:fe P tt=true){t e:TypeId}{aF b1:es}(ab:look tt t=some aF)(hk:aF.k = .br e)(eu:look tt e=some b1){len:Nat}
 {parts:Array (Nat×Operand)} (am:o.op = .buildSlice t len parts) {bM:List (Nat×D)} (lI:mapM' (fun(x:Nat×Operand)=>(rd g.env g.bL p tt (q1 tt t x.1) x.2).map λd=>(x.1,d)) parts.toList=some bM)
 {xs:List V} (hx:elems b1.k.isAgg b1.size 0 bM=some xs) (hlen:xs.length=len) (_hs:1≤b1.size) (hb:len*b1.size≤16777216) {x:V} (an:gL (.br b1.size len λi=>xs.getD i .d') x) {rs:List e8} {aO:List Prop}:
 Yields P K M β g {e:=some {d:=.v x,own:=some e},rs,aO} o tmps w:=by
 obtain⟨r⟩:=ek cf ab;obtain⟨dx⟩:=ek cf eu;obtain⟨Z,aa⟩:=JZ h hp lI;obtain⟨zX,pW⟩:=Rl hx;generalize zY:(parts.map fun(x:Nat×Operand)=>(x.1,(⟨tmps,[]⟩:Act).eval x.2))=pa at Z aa
 generalize mB:pa.toList=vs at Z aa
 have nr:vs.length=len:=by omega
 have hO:∀(i:Nat) b,vs[i]? = some b→∃x,xs[i]? = some x∧b.1=i∧cU M b.2 x∧x.cells.length=b1.size:=by
  intro i b hi;have JD:i<vs.length:=(List.getElem?_eq_some_iff.1 hi).1;have ha:bM[i]? = some bM[i]:=List.getElem?_eq_getElem (by omega)
  have mC:xs[i]? = some xs[i]:=List.getElem?_eq_getElem (by omega)
  obtain⟨ai,ay,_⟩:=pW i _ _ ha mC;obtain⟨aJ,bE⟩:=aa i _ b ha hi;rw [ai]at aJ bE;exact⟨_,mC,by simpa using aJ.symm,nq bE,ay⟩
 have oZ:∀(i:Nat) b,vs[i]? = some b→∃x,xs[i]? = some x∧b.1=i∧b.2.cells.size=b1.size∧(∀u,u∈b.2.cells.toList→u.oneCell'=true)∧∀(j:Nat) u c,b.2.cells.toList[j]? = some u→x.cells[j]? = some c→cU M u c:=by
  intro i b hi;obtain⟨x,ai,ay,aJ,bE⟩:=hO i b hi;obtain⟨cz,dh,eH⟩:=(ce.v (β:=β) _ _ aJ).cells rfl;refine⟨x,ai,ay,by simp [cellsD]at cz;omega,dh,λj u c hu hc=>?_⟩
  exact nq (eH j u (.v c) hu (by simp [cellsD,hc]))
 obtain⟨jc,wO,zZ,al5,ZS⟩:=Rk (size:=b1.size) vs 0 ((Array.range (len*b1.size)).map λi=>dx.z.cells[i % dx.z.cells.size]!) (λi x hi=>by
  obtain⟨y,ai,ay,aJ,_⟩:=oZ i x hi;exact⟨by omega,aJ⟩) (by simp [nr])
 have dW:jc.size=len*b1.size:=by rw [zZ];simp
 have ij:∀i j,i<len→j<b1.size→∃b u,vs[i]? = some b∧b.2.cells.toList[j]? = some u∧jc.toList[i*b1.size+j]? = some u:=by
  intro i j hi hj;have eN:vs[i]? = some vs[i]:=List.getElem?_eq_getElem (by omega)
  obtain⟨y,ai,ay,aJ,_⟩:=oZ i _ eN;have hu:vs[i].2.cells[j]? = some vs[i].2.cells[j]:=Array.getElem?_eq_getElem (by omega)
  refine⟨vs[i],vs[i].2.cells[j],eN,(Array.getElem?_toList ..).trans hu,?_⟩
  have:=ZS i _ j _ eN hu
  simpa using this
 have eV:(execOp (Act.eval ⟨tmps,[]⟩) o).run P w = .ok (.value (.slice (some ⟨w.heap.size,0,none⟩) len len)) {w with heap:=w.heap.push (.cells ⟨jc.toList⟩ e (0,0))}:=by
  simp only [execOp,am];refine iS _ ?_;have bF:¬ (16777216<len*b1.size):=by omega
  have ZT:(parts.map fun(x:Nat×Operand)=>match x with|(i,x)=>(i,(⟨tmps,[]⟩:Act).eval x))=pa:=zY
  rw [ZT];simp only [Instr.buildSlice,Sem.run_bind,r.run_underlying,oY r hk,Result.andThen_ok,dx.run_sizeOf];by_cases h0:len*b1.size=0
  ·have bN:∀f:Nat→Value,(Array.range (len*b1.size)).map f = #[]:=by intro f;rw [h0];simp
   rw [bN]at wO;have e1:∀f:Nat→Value,(Array.range 0).map f = #[]:=by intro f;simp
   simp [h0,mB,e1,wO,newRow]
  ·simp [h0,bF,dx.DI,mB,wO,newRow]
 obtain⟨cw,hle⟩:=h.bj.newRow (w':={w with heap:=w.heap.push (.cells ⟨jc.toList⟩ e (0,0))}) (T:=e) (vs:=jc.toList) (n:=len*b1.size) rfl;have z1:jc.toList.take (len*b1.size)=jc.toList:=List.take_of_length_le (by simp [dW])
 refine .inl ⟨_,_,eV,_,β,hle,λ_ _ h=>h,λ_ _ h=>.inl h,cw,λe1 he=>?_⟩
 cases he;refine⟨.v _ _ (an _ _ (.br _ 0 b1.size len len _ (λi j=>jc.toList.getD (i*b1.size+j) undef) (Nat.le_refl _) ?_ ?_ ?_ ?_)),λT l0 az=>?_⟩
 ·intro i hi;have mC:xs[i]? = some xs[i]:=List.getElem?_eq_getElem (by omega)
  have ha:bM[i]? = some bM[i]:=List.getElem?_eq_getElem (by omega)
  simp only [List.getD,mC,Option.getD_some];exact(pW i _ _ ha mC).2.1
 ·intro i j hi hj;obtain⟨b,u,_,_,hu⟩:=ij i j hi hj;rw [z1,Nat.zero_add];have:=DQ (M:=M) (b:=w.heap.size) (lo:=0) hu
  simpa [List.getD,hu]using this
 ·intro i j hi hj;obtain⟨b,u,cO,J3,hu⟩:=ij i j hi hj;obtain⟨y,_,_,_,bE,_⟩:=oZ i b cO;simp only [List.getD,hu,Option.getD_some];exact DO bE J3
 ·intro i j c hi hc;have mC:xs[i]? = some xs[i]:=List.getElem?_eq_getElem (by omega)
  simp only [List.getD,mC,Option.getD_some]at hc
  have hj:j<b1.size:=by
   have ha:bM[i]? = some bM[i]:=List.getElem?_eq_getElem (by omega)
   rw [←(pW i _ _ ha mC).2.1];exact(List.getElem?_eq_some_iff.1 hc).1
  obtain⟨b,u,cO,J3,hu⟩:=ij i j hi hj;obtain⟨y,bY,_,_,_,cz⟩:=oZ i b cO;rw [mC]at bY;cases bY;simp only [List.getD,hu,Option.getD_some];exact(cz j u c J3 hc).mono hle
 ·cases az;have:=J2 (l0:=l0) (T:=e) h.bj (vs:=jc.toList) (T':=e) (n:=len) (cap:=len) (w':={w with heap:=w.heap.push (.cells ⟨jc.toList⟩ e (0,0))}) rfl rfl (Nat.le_refl _) (by rw [dx.cellsOf];simp [dW])
  rw [dx.cellsOf]at this;exact this
end
section
variable {P:Program} {K:Ctx} {N:Nat} {M:Mem} {β:Nat→Option Nat} {g:c6} {tmps:Array Value} {w:World} {o:Oper} {f:kE} {p:Path} {tt:dq} {bX:gf} {ops:List Oper}
def ZU(h:fy P K N M β g tmps w)(hp:fl tmps p)(cf:fe P tt=true){t:TypeId}{aF:es}(ab:look tt t=some aF){a:Operand}(am:o.op = .load t a){q off:Nat}(ha:rd g.env g.bL p tt o.type a=some (.ptr q off))
 {cs:List aP} (al:look g.H q=some cs) (jd:aF.k.isAgg=true) (hle:off+aF.size≤cs.length):
 Yields P K M β g {e:=some {d:=pP (((cs.drop off).take aF.size).map (·.d))},rs:=g.rs} o tmps w:=by
 obtain⟨r⟩:=ek cf ab;obtain⟨b,hb,an⟩:=q7 (dK (ds:=[]) h hp ha);obtain⟨bp,vs,T,bF,bf,hlen,_,_,iF,l9⟩:=h.bj.box q cs al;rw [hb]at bF;cases bF;have eV:=Q6 (P:=P) (w:=w) r (off:=off) bf (by omega) jd
 refine eO h (v:=.agg ⟨(vs.drop off).take aF.size⟩) ?_ ?_
 ·simp only [execOp,am];rw [an];exact iS _ eV
 ·refine DJ (by simp;omega) (λv an=>iF v (List.mem_of_mem_drop (List.mem_of_mem_take an))) (λi v c an hc=>?_)
  rw [List.getElem?_map,Option.map_eq_some_iff]at hc;obtain⟨e,he,rfl⟩:=hc;rw [List.getElem?_take]at an he;split at an
  ·rename_i hi;rw [if_pos hi,List.getElem?_drop]at he;rw [List.getElem?_drop]at an;have:=h.bj.e9 (.cell q (off+i)) e (by simp [aD.at,al,he])
   simpa [cb,hb,cell_of_heap bf,an]using this
  ·cases an
def ZV(h:fy P K N M β g tmps w)(hp:fl tmps p)(cf:fe P tt=true){t:TypeId}{aF:es}(ab:look tt t=some aF){a:Operand}(am:o.op = .load t a){q off:Nat}(ha:rd g.env g.bL p tt o.type a=some (.ptr q off))
 {cs:List aP} (al:look g.H q=some cs) (jd:aF.k.isAgg=false) {e:aP} (he:cs[off]? = some e):
 Yields P K M β g {e:=some {d:=e.d},rs:=g.rs} o tmps w:=by
 obtain⟨r⟩:=ek cf ab;obtain⟨b,hb,an⟩:=q7 (dK (ds:=[]) h hp ha);obtain⟨bp,vs,T,v,bF,bf,eN,b6⟩:=JC h.bj al he;rw [hb]at bF;cases bF;have hc:w.cell? ⟨b,off,none⟩=some v:=by rw [cell_of_heap bf,eN]
 refine eO h (v:=v) ?_ ?_
 ·simp only [execOp,am];rw [an];exact iS _ (JO (P:=P) r hc jd)
 ·have:=h.bj.e9 (.cell q off) e (by simp [aD.at,al,he])
  rwa [b6]at this
def Rn{cs:List aP}{off:Nat}{e:aP}(cK:off<cs.length)(i:Nat):(setAt cs off [e])[i]? = if i=off then some e else cs[i]? := by
 rw [(q8 cs off [e] (by simp;omega)).2 i]
 by_cases hi:i=off
 ·subst hi;simp
 ·rw [if_neg (by simp;omega),if_neg hi]
def ZW(h:fy P K N M β g tmps w)(hp:fl tmps p)(cf:fe P tt=true){t:TypeId}{aF:es}(ab:look tt t=some aF){a:Operand}(am:o.op = .load t a){q off:Nat}(ha:rd g.env g.bL p tt o.type a=some (.ptr q off))
 {cs:List aP} (al:look g.H q=some cs) (jd:aF.k.isAgg=false) {e:aP} (he:cs[off]? = some e) {s:TypeId} (hs:e.own=some s) {rs:List e8}:
 Yields P K M β g {e:=some e,hs:=[(q,setAt cs off [{d:=e.d}])],rs} o tmps w:=by
 obtain⟨r⟩:=ek cf ab;obtain⟨b,hb,an⟩:=q7 (dK (ds:=[]) h hp ha);obtain⟨bp,vs,T,v,bF,bf,eN,b6⟩:=JC h.bj al he;rw [hb]at bF;cases bF;have hc:w.cell? ⟨b,off,none⟩=some v:=by rw [cell_of_heap bf,eN]
 have cK:off<cs.length:=(List.getElem?_eq_some_iff.1 he).1
 have l':=λl0=>h.bj.Q0 al he hs (cs':=setAt cs off [{d:=e.d}]) (q8 cs off _ (by simp;omega)).1 (λj a' hj=>by
  rw [Rn cK]at hj;by_cases J4:j=off
  ·subst J4;simp at hj;subst hj;exact⟨e,he,rfl,by simp⟩
  ·rw [if_neg J4]at hj;exact⟨a',hj,rfl,λT az=>⟨az,J4⟩⟩) l0
 refine .inl ⟨v,w,?_,M,β,Mem.le_refl _,λ_ _ h=>h,λ_ _ h=>.inl h,(l' (.slot 0)).1,λe1 q_=>?_⟩
 ·simp only [execOp,am];rw [an];exact iS _ (JO (P:=P) r hc jd)
 ·cases q_;refine⟨?_,λT l0 az=>?_⟩
  ·have:=h.bj.e9 (.cell q off) e (by simp [aD.at,al,he])
   rwa [b6]at this
  ·rw [hs]at az;cases az;have:=(l' l0).2
   rwa [b6]at this
def ZX(h:fy P K N M β g tmps w)(hp:fl tmps p)(cf:fe P tt=true){t:TypeId}{aF:es}(ab:look tt t=some aF){a:Operand}(am:o.op = .load t a){x:V}(ha:rd g.env g.bL p tt o.type a=some (.eK x))
 (jd:x.isAgg=aF.k.isAgg) (hs:x.cells.length=aF.size):Yields P K M β g {e:=some {d:=.v x},rs:=g.rs} o tmps w:=by
 obtain⟨r⟩:=ek cf ab;obtain⟨u,Z,aa⟩:=ZB (w:=w) r h.bj.mem (dK (ds:=[]) h hp ha) jd hs;exact eO h (v:=u) (by simp only [execOp,am];exact iS _ Z) (.v _ _ aa)
def Ro{t:TypeId}{aF:es}(r:Row P t aF){b off:Nat}{vs:List Value}{T:TypeId}(bf:w.heap[b]? = some (.cells ⟨vs⟩ T (0,0))){v:Value}(hs:v.cells.size=aF.size)(iF:∀u,u∈v.cells.toList→u.oneCell'=true)
 (hle:off+aF.size≤vs.length):(Instr.storeAt t (.pointer (some ⟨b,off,none⟩)) v).run P w = .ok () (w.setRow b (vs.take off++v.cells.toList++vs.drop (off+aF.size)).toArray):=by
 have:=run_storeCells_at P b off T v.cells.toList 0 ⟨vs⟩ w bf (by simpa [hs]using hle) iF
 simp only [Nat.add_zero,Array.length_toList,hs]at this;simp [Instr.storeAt,Instr.sureAddr,storeVar,r.run_sizeOf,hs,this]
def J5{vs us:List Value}{off:Nat}(hle:off+us.length≤vs.length)(i:Nat):(vs.take off++us++vs.drop (off+us.length))[i]? = if off≤i∧i<off+us.length then us[i-off]? else vs[i]? := by
 have aC:(vs.take off).length=off:=by simp;omega
 by_cases Z:i<off
 ·rw [if_neg (by omega),List.append_assoc,List.getElem?_append_left (by omega),List.getElem?_take,if_pos Z]
 ·by_cases aa:i<off+us.length
  ·rw [if_pos (by omega),List.append_assoc,List.getElem?_append_right (by omega),aC,List.getElem?_append_left (by omega)]
  ·rw [if_neg (by omega),List.getElem?_append_right (by simp;omega),List.getElem?_drop]
   congr 1
   simp;omega
def z6{vs us:List Value}{off:Nat}(hle:off+us.length≤vs.length):(vs.take off++us++vs.drop (off+us.length)).length=vs.length:=by
 simp;omega
def Rp{vs us:List Value}{off:Nat}(Z:∀v,v∈vs→v.oneCell'=true)(aa:∀v,v∈us→v.oneCell'=true):∀v,v∈vs.take off++us++vs.drop (off+us.length)→v.oneCell'=true:=by
 intro v an;rcases List.mem_append.1 an with an|an
 ·rcases List.mem_append.1 an with an|an
  ·exact Z v (List.mem_of_mem_take an)
  ·exact aa v an
 ·exact Z v (List.mem_of_mem_drop an)
def Rq{v:Value}{t:TypeId}{a x:Operand}(am:o.op = .store t a x)(hx:(⟨tmps,[]⟩:Act).eval x=v){hv:Value}(ha:(⟨tmps,[]⟩:Act).eval a=hv){w':World}(h:(Instr.storeAt t hv v).run P w = .ok () w'):
 (execOp (Act.eval ⟨tmps,[]⟩) o).run P w = .ok .skip w':=by
 simp only [execOp,am,hx,ha];simp [h]
def kI.set{T:TypeId}{n:Nat}{cs ds:List aP}{off:Nat}(h:kI P T n cs)(hn:∀e,e∈ds→∀r o u,e.d ≠ .ca r o u)(hle:off+ds.length≤cs.length):kI P T n (setAt cs off ds):=λe he r o u hd=>by
 obtain⟨i,hi,rfl⟩:=List.getElem_of_mem he;have hg:(setAt cs off ds)[i]? = some (setAt cs off ds)[i]:=List.getElem?_eq_getElem hi;rw [(q8 cs off ds hle).2 i]at hg;split at hg
 ·exact absurd hd (hn _ (List.mem_of_getElem? hg) r o u)
 ·exact h _ (List.mem_of_getElem? hg) r o u hd
def ZY(h:fy P K N M β g tmps w)(hp:fl tmps p)(cf:fe P tt=true){t:TypeId}{aF:es}(ab:look tt t=some aF){a x:Operand}(am:o.op = .store t a x){q off:Nat}(ha:rd g.env g.bL p tt o.type a=some (.ptr q off))
 {cs:List aP} (al:look g.H q=some cs) {d:D} (hx:rd g.env g.bL p tt t x=some d) (aC:qZ d=false) (sc:r7 (cellsD d)=true) (hs:(cellsD d).length=aF.size) (hle:off+aF.size≤cs.length):
 Yields P K M β g {e:=none,hs:=[(q,setAt cs off ((cellsD d).map λd=>{d}))],rs:=g.rs} o tmps w:=by
 obtain⟨r⟩:=ek cf ab;obtain⟨b,hb,an⟩:=q7 (dK (ds:=[]) h hp ha);obtain⟨bp,vs,T,bF,bf,hlen,_,_,iF,l9⟩:=h.bj.box q cs al;rw [hb]at bF;cases bF;obtain⟨Z,aa,ai⟩:=(dK (ds:=[]) h hp hx).cells aC;generalize hu:(⟨tmps,[]⟩:Act).eval x=u at Z aa ai
 have Rr:u.cells.size=aF.size:=by simp at Z;omega
 have tY:u.cells.toList.length=aF.size:=by simpa using Rr
 have eV:=Ro (P:=P) r (off:=off) bf Rr aa (by omega)
 rw [←tY]at eV;refine .inr (.inl ⟨rfl,_,Rq am hu an eV,M,β,Mem.le_refl _,λ_ _ h=>h,λ_ _ h=>.inl h,?_,λe he=>by cases he⟩)
 have wP:=q8 cs off ((cellsD d).map λd=>({d}:aP)) (by simp;omega)
 refine h.bj.JE al hb bf (vs':=vs.take off++u.cells.toList++vs.drop (off+u.cells.toList.length)) (by rw [z6 (by omega),wP.1,hlen]) (Rp iF aa) (λ_=>by
  rw [z6 (by omega)]
  refine l9.set (λe he=>?_) (by simp;omega)
  obtain⟨c,hc,rfl⟩:=List.mem_map.1 he;exact DC sc c hc) wP.1
  (setRow_heap w b _ _ T (0,0) bf) (λbp cW=>setRow_other w b bp _ cW) cs.length (λi v e eN mc=>?_)
 rw [J5 (by omega)]at eN
 rw [wP.2]at mc;simp only [List.length_map]at mc;by_cases hi:off≤i∧i<off+aF.size
 ·rw [if_pos (by omega)]at eN
  rw [if_pos (by omega),List.getElem?_map,Option.map_eq_some_iff]at mc
  obtain⟨c,hc,rfl⟩:=mc;exact⟨ai _ v c eN hc,by simp⟩
 ·rw [if_neg (by omega)]at eN
  rw [if_neg (by omega)]at mc
  have sf:i<cs.length:=(List.getElem?_eq_some_iff.1 mc).1;refine⟨?_,λT az=>.inl ⟨by omega,⟨e,mc,az⟩,eN⟩⟩
  have:=h.bj.e9 (.cell q i) e (by simp [aD.at,al,mc])
  simpa [cb,hb,cell_of_heap bf,eN]using this
def Rs(ty:Nat→Option TypeId):∀(l:List aP) (n:Nat),(pR ty n l).length=l.length∧∀(i:Nat) a',(pR ty n l)[i]? = some a'→∃e,l[i]? = some e∧((e.d=a'.d∧∀T,a'.own=some T→e.own=some T)∨∃k g,e.d = .v (.nY k g)∧a'.d = .v (.br k 0 g))
 |[],n=>by simp [pR]
 |e::l,n=>by
  obtain⟨Z,aa⟩:=Rs ty l (n+1);refine⟨by simp [pR,Z],λi a' he=>?_⟩
  cases i with
  |zero=>
   simp only [pR,List.getElem?_cons_zero,Option.some.injEq]at he;refine⟨e,rfl,?_⟩
   split at he
   ·rename_i k g hd;subst he;exact .inr ⟨k,g,hd,rfl⟩
   ·subst he;exact .inl ⟨rfl,λ_ h=>h⟩
  |succ i=>simp only [pR,List.getElem?_cons_succ]at he ⊢;exact aa i a' he
def ZZ(h:fy P K N M β g tmps w)(hp:fl tmps p)(cf:fe P tt=true){t:TypeId}{aF:es}(ab:look tt t=some aF){a x:Operand}(am:o.op = .store t a x){q off:Nat}(ha:rd g.env g.bL p tt o.type a=some (.ptr q off))
 {cs:List aP} (al:look g.H q=some cs) {d:D} (hx:rd g.env g.bL p tt t x=some d) (aC:qZ d=false) (sc:r7 (cellsD d)=true) (hs:(cellsD d).length=aF.size) (hle:off+aF.size≤cs.length) (ty:Nat→Option TypeId):
 Yields P K M β g {e:=none,hs:=[(q,pR ty 0 (setAt cs off ((cellsD d).map λd=>{d})))],rs:=g.rs} o tmps w:=by
 have up:∀{M':Mem} {β':Nat→Option Nat} {v:Value} {w':World},ii P K M β g {e:=none,hs:=[(q,setAt cs off ((cellsD d).map λd=>{d}))],rs:=g.rs} tmps v w'→
  ii P K M β g {e:=none,hs:=[(q,pR ty 0 (setAt cs off ((cellsD d).map λd=>{d})))],rs:=g.rs} tmps v w':=by
  rintro M' β' v w' ⟨z7,z8,Z,aa,ai,ay,_⟩
  refine⟨z7,z8,Z,aa,λr b hb=>?_,?_,λe he=>by cases he⟩
  ·rcases ai r b hb with aJ|aJ
   ·exact .inl aJ
   ·right
    simp only [dB]at aJ ⊢;split at aJ
    ·rename_i tZ;simp [tZ]
    ·cases aJ
  ·obtain⟨g1,g2⟩:=Rs ty (setAt cs off ((cellsD d).map λd=>({d}:aP))) 0
   refine ay.Zl rfl (λl a' dj=>?_) (λr cs' ah=>?_)
   ·cases l with
    |slot s=>exact⟨a',dj,.inl ⟨rfl,λ_ h=>h⟩⟩
    |cell r i=>
     simp only [aD.at,after,List.cons_append,List.nil_append,dB]at dj ⊢;by_cases tZ:q=r
     ·simp only [tZ,if_true,Option.bind_some]at dj ⊢;exact g2 i a' dj
     ·simp only [tZ,if_false]at dj ⊢;exact⟨a',dj,.inl ⟨rfl,λ_ h=>h⟩⟩
   ·simp only [after,List.cons_append,List.nil_append,dB]at ah ⊢;by_cases tZ:q=r
    ·simp only [tZ,if_true,Option.some.injEq]at ah ⊢;subst ah;exact⟨_,rfl,g1.symm⟩
    ·simp only [tZ,if_false]at ah ⊢;exact⟨cs',ah,rfl⟩
 rcases ZY h hp cf ab am ha al hx aC sc hs hle with⟨v,w',Z,aa⟩|⟨h0,w',Z,aa⟩|⟨fn,vs,Z,aa⟩
 ·exact .inl ⟨v,w',Z,up (M':=M) (β':=β) aa⟩
 ·exact .inr (.inl ⟨h0,w',Z,up (M':=M) (β':=β) aa⟩)
 ·exact .inr (.inr ⟨fn,vs,Z,aa.mono λe w' ⟨v,ai,ay⟩=>⟨v,ai,up (M':=M) (β':=β) ay⟩⟩)
def Rt(h:fy P K N M β g tmps w)(hp:fl tmps p)(cf:fe P tt=true){t:TypeId}{aF:es}(ab:look tt t=some aF){a x:Operand}(am:o.op = .store t a x){q off:Nat}(ha:rd g.env g.bL p tt o.type a=some (.ptr q off))
 {cs:List aP} (al:look g.H q=some cs) {k n:Nat} {get:Nat→V} (hx:rd g.env g.bL p tt t x=some (.v (.br k n get))) (hs:aF.size=1) (hle:off+aF.size≤cs.length) {s:TypeId} {l:List Nat}
 (fZ:mz P K M β {env:=gM l g.env,H:=g.H,aL:=g.aL} tmps w (.cell q off) ((⟨tmps,[]⟩:Act).eval x) s):
 Yields P K M β g {e:=none,gY:=l,hs:=[(q,setAt cs off [{d:=.v (.br k n get),own:=some s}])],rs:=g.rs} o tmps w:=by
 obtain⟨r⟩:=ek cf ab;obtain⟨b,hb,an⟩:=q7 (dK (ds:=[]) h hp ha);have n4:=h.bj.gY l;obtain⟨bp,vs,T,bF,bf,hlen,_,_,iF,l9⟩:=h.bj.box q cs al;rw [hb]at bF;cases bF;have kM:=dK (ds:=[]) h hp hx;generalize hu:(⟨tmps,[]⟩:Act).eval x=u at kM fZ
 have z':u.cells = #[u]∧u.oneCell'=true:=by
  obtain⟨a,cap,rfl,_⟩:=tV kM;exact⟨rfl,rfl⟩
 have eV:=Ro (P:=P) r (off:=off) bf (v:=u) (by rw [z'.1,hs];rfl) (by rw [z'.1];simpa using z'.2) (by omega)
 rw [z'.1,hs]at eV;have cK:off<cs.length:=by omega
 refine .inr (.inl ⟨rfl,_,Rq am hu an eV,M,β,Mem.le_refl _,λ_ _ h=>h,λ_ _ h=>.inl h,?_,λe he=>by cases he⟩)
 refine n4.JE (st:={env:=gM l g.env,H:=g.H,aL:=g.aL}) al hb bf (vs':=vs.take off++[u]++vs.drop (off+1)) (by rw [show off+1=off+[u].length by rfl,z6 (by simp;omega),(q8 cs off _ (by simp;omega)).1,hlen])
  (Rp (us:=[u]) iF (by simpa using z'.2)) (λ_=>by
   rw [show off+1=off+[u].length by rfl,z6 (by simp;omega)]
   refine l9.set (λe he=>?_) (by simp;omega)
   obtain rfl:=List.mem_singleton.1 he;exact λ_ _ _ e=>by cases e) (q8 cs off _ (by simp;omega)).1 (setRow_heap w b _ _ T (0,0) bf) (λbp cW=>setRow_other w b bp _ cW) off (λi v e eN mc=>?_)
 rw [show off+1=off+[u].length by rfl,J5 (by simp;omega)]at eN
 rw [Rn cK]at mc;by_cases hi:i=off
 ·subst hi;simp at eN mc
  subst eN;subst mc;refine⟨kM,λT az=>.inr ⟨rfl,?_⟩⟩
  cases az;exact fZ
 ·rw [if_neg hi]at mc;rw [if_neg (by simp;omega)]at eN
  refine⟨?_,λT az=>.inl ⟨hi,⟨e,mc,az⟩,eN⟩⟩
  have:=h.bj.e9 (.cell q i) e (by simp [aD.at,al,mc])
  simpa [cb,hb,cell_of_heap bf,eN]using this
end
section
variable {P:Program} {K:Ctx} {N:Nat} {M:Mem} {β:Nat→Option Nat} {g:c6} {tmps:Array Value} {w:World} {o:Oper} {f:kE} {p:Path} {tt:dq} {bX:gf} {ops:List Oper}
structure kN(M:Mem)(k m:Nat)(get:Nat→V)(news:List Value):Prop where
 len:news.length=m*k
 hk:∀i,i<m→(get i).cells.length=k
 one:∀u,u∈news→u.oneCell'=true
 rep:∀(i j:Nat) c u,i<m→(get i).cells[j]? = some c→news[i*k+j]? = some u→cU M u c
def flat(k m:Nat)(val:Nat→Nat→Value):List Value:=(List.range (m*k)).map λq=>val (q / k) (q % k)
def t8(k m:Nat)(val:Nat→Nat→Value):(flat k m val).length=m*k:=by simp [flat]
def Z0{k m:Nat}{val:Nat→Nat→Value}{i j:Nat}(hi:i<m)(hj:j<k):(flat k m val)[i*k+j]? = some (val i j):=by
 have cK:i*k+j<m*k:=by
  have Z:(i+1)*k≤m*k:=Nat.mul_le_mul_right k hi;rw [Nat.add_mul]at Z;omega
 have Z:(i*k+j) / k=i:=by rw [Nat.mul_comm,Nat.mul_add_div (by omega),Nat.div_eq_of_lt hj];omega
 have aa:(i*k+j) % k=j:=by rw [Nat.mul_comm,Nat.mul_add_mod,Nat.mod_eq_of_lt hj]
 simp [flat,cK,Z,aa]
def Ru{k m:Nat}{val:Nat→Nat→Value}{q:Nat}{u:Value}(h:(flat k m val)[q]? = some u):q / k<m∧q % k<k∧q=q / k*k+q % k∧u=val (q / k) (q % k):=by
 have al:q<m*k:=by have:=(List.getElem?_eq_some_iff.1 h).1;rwa [t8]at this
 have hk:0<k:=by
  rcases Nat.eq_zero_or_pos k with rfl|h;· simp at al
  ·exact h
 refine⟨(Nat.div_lt_iff_lt_mul hk).2 al,Nat.mod_lt _ hk,(Nat.div_add_mod' q k).symm,?_⟩
 simp [flat,al]at h;exact h.symm
def J6{v:Value}{k n:Nat}{get:Nat→V}(h:ce M β v (.v (.br k n get))):((v = .slice none 0 0∨∃a,v = .slice (some a) 0 0)∧n=0)∨
 ∃(b off cap:Nat) (el:List Value),v = .slice (some ⟨b,off,none⟩) n cap∧n≤cap∧kN M k n get el∧∀(q:Nat) u,el[q]? = some u→M b (off+q)=some u:=by
 rcases sb h with h|⟨b,off,cap,val,rfl,hc,hk,cI,Z,ah⟩
 ·exact .inl h
 ·refine .inr ⟨b,off,cap,flat k n val,rfl,hc,⟨t8 k n val,hk,?_,?_⟩,?_⟩
  ·refine Rg λq u hu=>?_
   obtain⟨aa,ai,_,rfl⟩:=Ru hu;exact Z _ _ aa ai
  ·intro i j c u hi hc hu;have hj:j<k:=by rw [←hk i hi];exact(List.getElem?_eq_some_iff.1 hc).1
   rw [Z0 hi hj]at hu;cases hu;exact ah i j c hi hc
  ·intro q u hu;obtain⟨aa,ai,ay,rfl⟩:=Ru hu;have:=cI _ _ aa ai
   rwa [Nat.add_assoc,←ay]at this
def wQ(k:Nat)(get:Nat→V):kN M k 0 get []:=⟨by simp,by simp,by simp,by simp⟩
def kN.app{k n m:Nat}{get lE:Nat→V}{el news:List Value}(h:kN M k n get el)(aa:kN M k m lE news):kN M k (n+m) (λi=>bif Nat.blt i n then get i else lE (i-n)) (el++news):=by
 have hb:∀i,(bif Nat.blt i n then get i else lE (i-n))=if i<n then get i else lE (i-n):=by
  intro i;by_cases hi:i<n
  ·have:Nat.blt i n=true:=by simpa using hi
   simp [this,hi]
  ·have:Nat.blt i n=false:=by rw [Bool.eq_false_iff];simpa using hi
   simp [this,hi]
 refine⟨by simp [h.len,aa.len,Nat.add_mul],λi hi=>?_,λu hu=>?_,λi j c u hi hc hu=>?_⟩
 ·rw [hb];split
  ·exact h.hk i (by assumption)
  ·exact aa.hk _ (by omega)
 ·rcases List.mem_append.1 hu with hu|hu
  ·exact h.one u hu
  ·exact aa.one u hu
 ·rw [hb]at hc;by_cases hin:i<n
  ·rw [if_pos hin]at hc;have hj:j<k:=by rw [←h.hk i hin];exact(List.getElem?_eq_some_iff.1 hc).1
   have cK:i*k+j<el.length:=by
    rw [h.len];have Z:(i+1)*k≤n*k:=Nat.mul_le_mul_right k hin;rw [Nat.add_mul]at Z;omega
   rw [List.getElem?_append_left cK]at hu;exact h.rep i j c u hin hc hu
  ·rw [if_neg hin]at hc;have Rv:n*k≤i*k:=Nat.mul_le_mul_right k (by omega)
   rw [List.getElem?_append_right (by rw [h.len];omega),h.len]at hu
   have:i*k+j-n*k=(i-n)*k+j:=by rw [Nat.sub_mul];omega
   rw [this]at hu;exact aa.rep (i-n) j c u (by omega) hc hu
def kN.mono{M':Mem}(cI:M.le M'){k n:Nat}{get:Nat→V}{el:List Value}(h:kN M k n get el):kN M' k n get el:=
 ⟨h.len,h.hk,h.one,λi j c u hi hc hu=>(h.rep i j c u hi hc hu).mono cI⟩
def kN.br{k n cap b off:Nat}{get:Nat→V}{el:List Value}(h:kN M k n get el)(hc:n≤cap)(cI:∀(q:Nat) u,el[q]? = some u→M b (off+q)=some u):
 cU M (.slice (some ⟨b,off,none⟩) n cap) (.br k n get):=by
 have hin:∀i j,i<n→j<k→el[i*k+j]? = some (el.getD (i*k+j) undef):=λi j hi hj=>ZQ h.len hi hj
 refine .br b off k n cap get (λi j=>el.getD (i*k+j) undef) hc h.hk (λi j hi hj=>?_) (λi j hi hj=>DO h.one (hin i j hi hj)) (λi j c hi lf=>?_)
 ·rw [Nat.add_assoc];exact cI _ _ (hin i j hi hj)
 ·have hj:j<k:=by rw [←h.hk i hi];exact(List.getElem?_eq_some_iff.1 lf).1
  exact h.rep i j c _ hi lf (hin i j hi hj)
def Z1(t g' ty e:TypeId)(i:TypeInfo)(aC:P.underlying t=some (.slice e))(hi:P.info? e=some i)(b t' lg:Nat)(x:Value)(n:Nat)(news:List Value)(hs:Src P i.size g' x n news w)
 (f6:t'+n≤lg) {vs:List Value} {T:TypeId} (bf:w.heap[b]? = some (.cells ⟨vs⟩ T (0,0))) (hle:t'*i.size+news.length≤vs.length):
 (Builtin.append_ #[t,g'] ty #[.slice (some ⟨b,0,none⟩) t' lg,x]).run P w = .ok (.slice (some ⟨b,0,none⟩) (t'+n) lg) (w.setRow b (vs.take (t'*i.size)++news++vs.drop (t'*i.size+news.length)).toArray):=by
 have ea:=run_storeCells_at P b (t'*i.size) T news 0 ⟨vs⟩ w bf (by simpa using hle) hs.one
 simp only [Nat.add_zero]at ea;rcases hs.kind with⟨a',hk⟩|hk<;>simp [Builtin.append_,run_underlying aC,run_underlying hk,sizeOf,typeInfo,hi,hs.len,f6,hs.cells,addr_add,ea]
def Z2(t g' ty e:TypeId)(i:TypeInfo)(aC:P.underlying t=some (.slice e))(hi:P.info? e=some i)(x:Value)(news:List Value)(hs:Src P i.size g' x 0 news w):
 (Builtin.append_ #[t,g'] ty #[.slice none 0 0,x]).run P w = .ok (.slice none 0 0) w:=by
 rcases hs.kind with⟨a',hk⟩|hk<;>simp [Builtin.append_,run_underlying aC,run_underlying hk,sizeOf,typeInfo,hi,hs.len,hs.cells]
def DR{t g':TypeId}{a x:Operand}{c:Call}(am:o.op = .call c)(hc:c.callee = .builtin .append)(ff:c.args.toList=[a,x])(gv:c.argTypes.toList[0]? = some t)(n5:c.argTypes.toList[1]? = some g')
 {hv J7:Value} (ha:(⟨tmps,[]⟩:Act).eval a=hv) (hx:(⟨tmps,[]⟩:Act).eval x=J7) {v:Value} {w':World}
 (h:∀ty,(Builtin.append_ #[t,g'] ty #[hv,J7]).run P w = .ok v w'):
 (execOp (Act.eval ⟨tmps,[]⟩) o).run P w = .ok (.value v) w':=by
 have t_:c.args = #[a,x]:=by apply Array.ext';simpa using ff
 have J8:∀ty,(Builtin.append_ c.argTypes ty #[hv,J7]).run P w = .ok v w':=by
  intro ty;have h0:c.argTypes[0]? = some t:=by simpa using gv
  have Z:c.argTypes[1]? = some g':=by simpa using n5
  have:=h ty
  simp only [Builtin.append_,h0,Z]at this ⊢;exact this
 simp only [execOp,am,resolve,hc,t_,Sem.run_bind,Sem.run_pure,Result.andThen_ok,invoke,builtin,List.map_toArray,List.map_cons,List.map_nil,ha,hx];simp [J8]
def Z3(h:fy P K N M β g tmps w)(hp:fl tmps p)(cf:fe P tt=true){t g' e:TypeId}{aF b1:es}(ab:look tt t=some aF)(hk:aF.k = .br e)(eu:look tt e=some b1){s:Nat}{x:Operand}{c:Call}
 (am:o.op = .call c) (hc:c.callee = .builtin .append) (ff:c.args.toList=[.tmp s,x]) (gv:c.argTypes.toList[0]? = some t) (n5:c.argTypes.toList[1]? = some g')
 {n m:Nat} {get lE:Nat→V} (hs:rd g.env g.bL p tt o.type (.tmp s)=some (.full b1.size n get)) (z_:1≤b1.bytes) (hm:1≤m)
 {news:List Value} (ik:Src P b1.size g' ((⟨tmps,[]⟩:Act).eval x) m news w) (kO:kN M b1.size m lE news) (f6:(n+m)*b1.bytes≤140737488355328)
 {y:V} (bY:gL (.br b1.size (n+m) λi=>bif Nat.blt i n then get i else lE (i-n)) y) {rs:List e8} {aO:List Prop}:
 Yields P K M β g {e:=some {d:=.v y,own:=some e},gY:=[s],rs,aO} o tmps w:=by
 obtain⟨r⟩:=ek cf ab;obtain⟨dx⟩:=ek cf eu;have n4:=h.bj.gY [s];have eC:=dK (ds:=[]) h hp hs;have Aa:P.underlying t=some (.slice e):=by rw [r.hd,oY r hk]
 have ua:(⟨tmps,[]⟩:Act).eval (.tmp s)=tmps.getD s undef:=rfl;rw [ua]at eC
 have ra:∃base,tmps.getD s undef = .slice base n n∧cU M (.slice base n n) (.br b1.size n get):=by
  generalize tmps.getD s undef=hv at eC
  cases eC with
  |full base k n get h=>exact⟨base,rfl,h⟩
 obtain⟨base,an,gm⟩:=ra;have cK:n<n+m:=by omega
 have ub:∃el:List Value,kN M b1.size n get el∧∀w':World,w'.heap=w.heap→(Builtin.firstCells b1.size n (.slice base n n)).run P w' = .ok el.toArray w':=by
  rcases J6 (ce.v _ _ gm:ce M β _ _) with⟨sg|⟨a,sg⟩,jx⟩|⟨b,off,cap,el,sg,hcap,holds,hold⟩
  ·simp only [Value.slice.injEq]at sg;obtain⟨rfl,rfl,_⟩:=sg;exact⟨[],wQ _ _,λw' _=>run_firstCells_none w' b1.size 0 0 0⟩
  ·simp only [Value.slice.injEq]at sg;obtain⟨rfl,rfl,_⟩:=sg;refine⟨[],wQ _ _,λw' nn=>?_⟩
   exact run_firstCells_some (P:=P) w' b1.size 0 a 0 0 [] (by simp) (λj u hj=>by simp at hj)
  ·simp only [Value.slice.injEq]at sg;obtain⟨rfl,_,rfl⟩:=sg;refine⟨el,holds,λw' nn=>?_⟩
   refine run_firstCells_some (P:=P) w' b1.size n ⟨b,off,none⟩ n n el (by rw [holds.len]) (λj u hj=>?_)
   rw [addr_add,q4 (w:=w) (by rw [nn])]
   exact h.bj.mem _ _ _ (hold j u hj)
 obtain⟨el,holds,ub⟩:=ub
 have J9:((n+m:Nat):Int)≤9223372036854775807:=by
  have:n+m≤(n+m)*b1.bytes:=Nat.le_mul_of_pos_right _ z_
  omega
 have J':=growslice_fits (need:=n+m) (old:=n) (bytes:=b1.bytes) cK f6;have hcap:=grownCap_ge w (n+m) n e;have rb:=holds.app kO
 have uc:dx.z.cells.size=b1.size:=by
  obtain⟨kJ,_⟩:=wK (M:=M) dx.zU;have:=dx.JM
  simp at kJ;omega
 generalize tW:(Builtin.zeroCells dx.z.cells (grownCap w (n+m) n e-(n+m))).toList=zs
 have J_:Builtin.zeroCells dx.z.cells (grownCap w (n+m) n e-(n+m))=zs.toArray:=by rw [←tW]
 have Ka:zs.length=(grownCap w (n+m) n e-(n+m))*b1.size:=by
  rw [←tW];simp [Builtin.zeroCells,uc]
 have eV:∀ty,(Builtin.append_ #[t,g'] ty #[tmps.getD s undef,(⟨tmps,[]⟩:Act).eval x]).run P w =
  .ok (.slice (some ⟨w.heap.size,0,none⟩) (n+m) (grownCap w (n+m) n e)) (w.drew.alloc (.cells ⟨el++news++zs⟩ e (0,0))):=by
  intro ty;have:=run_append_grow_src (P:=P) w t g' ty e dx.info dx.z Aa dx.hi dx.dJ base n n el (by rw [dx.size];exact ub w.drew rfl) _ m news (by rw [dx.size];exact ik) cK J9 (by rw [dx.bytes];exact J')
  rw [an,this,J_];simp
 have nn:(w.drew.alloc (.cells ⟨el++news++zs⟩ e (0,0))).heap=w.heap.push (.cells ⟨el++news++zs⟩ e (0,0)):=rfl
 have Kb:(el++news++zs).length=grownCap w (n+m) n e*b1.size:=by
  rw [List.length_append,rb.len,Ka,←Nat.add_mul];congr 1;omega
 obtain⟨cw,hle⟩:=n4.newRow (vs:=el++news++zs) (T:=e) (n:=(n+m)*b1.size) nn
 have z1:(el++news++zs).take ((n+m)*b1.size)=el++news:=by
  rw [List.take_append_of_le_length (by rw [rb.len];exact Nat.le_refl _),List.take_of_length_le (by rw [rb.len];exact Nat.le_refl _)]
 refine .inl ⟨_,_,DR am hc ff gv n5 ua rfl eV,_,β,hle,λ_ _ h=>h,λ_ _ h=>.inl h,cw,λe1 he=>?_⟩
 cases he;refine⟨.v _ _ (bY _ _ ((rb.mono hle).br hcap λq u hu=>?_)),λT l0 az=>?_⟩
 ·rw [z1];exact DQ hu
 ·cases az;have:=J2 (l0:=l0) (T:=e) n4 (vs:=el++news++zs) (T':=e) (n:=n+m) (cap:=grownCap w (n+m) n e) rfl nn hcap (by rw [dx.cellsOf,Kb];exact Nat.le_refl _)
  rw [dx.cellsOf]at this;exact this
def Rw(h:fy P K N M β g tmps w)(hp:fl tmps p)(cf:fe P tt=true){t g' e:TypeId}{aF b1:es}(ab:look tt t=some aF)(hk:aF.k = .br e)(eu:look tt e=some b1){s:Nat}{x:Operand}{c:Call}
 (am:o.op = .call c) (hc:c.callee = .builtin .append) (ff:c.args.toList=[.tmp s,x]) (gv:c.argTypes.toList[0]? = some t) (n5:c.argTypes.toList[1]? = some g')
 {n m:Nat} {get lE:Nat→V} (hs:rd g.env g.bL p tt o.type (.tmp s)=some (.v (.br b1.size n get))) {Kc:aP} (Ac:look g.env s=some Kc) (fZ:Kc.own=some e) (z_:1≤b1.bytes)
 {news:List Value} (ik:Src P b1.size g' ((⟨tmps,[]⟩:Act).eval x) m news w) (kO:kN M b1.size m lE news) (f6:(n+m)*b1.bytes≤140737488355328)
 {y:V} (bY:gL (.br b1.size (n+m) λi=>bif Nat.blt i n then get i else lE (i-n)) y) {rs:List e8} {aO:List Prop}:
 Yields P K M β g {e:=some {d:=.v y,own:=some e},gY:=[s],rs,aO} o tmps w:=by
 obtain⟨r⟩:=ek cf ab;obtain⟨dx⟩:=ek cf eu;have n4:=h.bj.gY [s];have eC:=dK (ds:=[]) h hp hs;have Aa:P.underlying t=some (.slice e):=by rw [r.hd,oY r hk]
 have ua:(⟨tmps,[]⟩:Act).eval (.tmp s)=tmps.getD s undef:=rfl;rw [ua]at eC;have Kd:=h.bj.own (.slot s) Kc e Ac fZ;simp only [cb]at Kd;have Ad:=h.bj.hand Ac fZ
 -- lJ row Z4 is grown
 have Rx:∀(base:Option Addr) (lg:Nat) (el:List Value),tmps.getD s undef = .slice base n lg→kN M b1.size n get el→
  (∀w':World,w'.heap=w.heap→(Builtin.firstCells b1.size n (.slice base n lg)).run P w' = .ok el.toArray w')→lg<n+m→
  Yields P K M β g {e:=some {d:=.v y,own:=some e},gY:=[s],rs,aO} o tmps w:=by
  intro base lg el an holds ub cK
  have J9:((n+m:Nat):Int)≤9223372036854775807:=by
   have:n+m≤(n+m)*b1.bytes:=Nat.le_mul_of_pos_right _ z_
   omega
  have J':=growslice_fits (need:=n+m) (old:=lg) (bytes:=b1.bytes) cK f6;have hcap:=grownCap_ge w (n+m) lg e;have rb:=holds.app kO
  have uc:dx.z.cells.size=b1.size:=by
   obtain⟨kJ,_⟩:=wK (M:=M) dx.zU;have:=dx.JM
   simp at kJ;omega
  generalize tW:(Builtin.zeroCells dx.z.cells (grownCap w (n+m) lg e-(n+m))).toList=zs
  have J_:Builtin.zeroCells dx.z.cells (grownCap w (n+m) lg e-(n+m))=zs.toArray:=by rw [←tW]
  have Ka:zs.length=(grownCap w (n+m) lg e-(n+m))*b1.size:=by
   rw [←tW];simp [Builtin.zeroCells,uc]
  have eV:∀ty,(Builtin.append_ #[t,g'] ty #[tmps.getD s undef,(⟨tmps,[]⟩:Act).eval x]).run P w =
   .ok (.slice (some ⟨w.heap.size,0,none⟩) (n+m) (grownCap w (n+m) lg e)) (w.drew.alloc (.cells ⟨el++news++zs⟩ e (0,0))):=by
   intro ty;have:=run_append_grow_src (P:=P) w t g' ty e dx.info dx.z Aa dx.hi dx.dJ base n lg el (by rw [dx.size];exact ub w.drew rfl) _ m news (by rw [dx.size];exact ik) cK J9 (by rw [dx.bytes];exact J')
   rw [an,this,J_];simp
  have nn:(w.drew.alloc (.cells ⟨el++news++zs⟩ e (0,0))).heap=w.heap.push (.cells ⟨el++news++zs⟩ e (0,0)):=rfl
  have Kb:(el++news++zs).length=grownCap w (n+m) lg e*b1.size:=by
   rw [List.length_append,rb.len,Ka,←Nat.add_mul];congr 1;omega
  obtain⟨cw,hle⟩:=n4.newRow (vs:=el++news++zs) (T:=e) (n:=(n+m)*b1.size) nn
  have z1:(el++news++zs).take ((n+m)*b1.size)=el++news:=by
   rw [List.take_append_of_le_length (by rw [rb.len];exact Nat.le_refl _),List.take_of_length_le (by rw [rb.len];exact Nat.le_refl _)]
  refine .inl ⟨_,_,DR am hc ff gv n5 ua rfl eV,_,β,hle,λ_ _ h=>h,λ_ _ h=>.inl h,cw,λe1 he=>?_⟩
  cases he;refine⟨.v _ _ (bY _ _ ((rb.mono hle).br hcap λq u hu=>?_)),λT l0 az=>?_⟩
  ·rw [z1];exact DQ hu
  ·cases az;have:=J2 (l0:=l0) (T:=e) n4 (vs:=el++news++zs) (T':=e) (n:=n+m) (cap:=grownCap w (n+m) lg e) rfl nn hcap (by rw [dx.cellsOf,Kb];exact Nat.le_refl _)
   rw [dx.cellsOf]at this;exact this
 have bH:(tmps.getD s undef = .slice none 0 0∧n=0)∨∃(b off cap:Nat) (el:List Value),tmps.getD s undef = .slice (some ⟨b,off,none⟩) n cap∧n≤cap∧kN M b1.size n get el∧∀(q:Nat) u,el[q]? = some u→M b (off+q)=some u:=by
  rcases J6 eC with⟨an|⟨a,an⟩,jx⟩|hx
  ·exact .inl ⟨an,jx⟩
  ·subst jx;rcases Kd with h0|⟨bp,n',Ry,vs,T',Z,_⟩
   ·exact .inl ⟨h0,rfl⟩
   ·rw [an]at Z;simp only [Value.slice.injEq,Option.some.injEq]at Z;obtain⟨rfl,rfl,rfl⟩:=Z;exact .inr ⟨bp,0,0,[],an,Nat.le_refl _,wQ _ _,λq u hu=>by simp at hu⟩
  ·exact .inr hx
 rcases bH with⟨an,jx⟩|⟨b,off,cap,el,an,hcap,holds,hold⟩
 ·subst jx;by_cases hm:m=0
  ·subst hm;refine .inl ⟨_,_,DR am hc ff gv n5 (ua.trans an) rfl (λty=>Z2 (w:=w) t g' ty e dx.info Aa dx.hi _ news (by rw [dx.size];exact ik)),M,β,Mem.le_refl _,λ_ _ h=>h,λ_ _ h=>.inl h,n4,λe1 he=>?_⟩
   cases he;exact⟨.v _ _ (bY _ _ (.lC _ _)),λT l0 _=>JH l0 T⟩
  ·refine Rx none 0 [] an (wQ _ _) (λw' _=>run_firstCells_none w' b1.size 0 0 0) (by omega)
 ·by_cases cK:cap<n+m
  ·refine Rx (some ⟨b,off,none⟩) cap el an holds (λw' nn=>?_) cK
   refine run_firstCells_some (P:=P) w' b1.size n ⟨b,off,none⟩ n cap el (by rw [holds.len]) (λj u hj=>?_)
   rw [addr_add,q4 (w:=w) (by rw [nn])]
   exact h.bj.mem _ _ _ (hold j u hj)
  · -- there is room
   rcases Kd with h0|⟨bp,n',Ry,vs,T',Z,al6,bf,mB,jM,dw,q9⟩
   ·rw [an]at h0;simp at h0
   ·rw [an]at Z;simp only [Value.slice.injEq,Option.some.injEq,Addr.mk.injEq,and_true]at Z;obtain⟨⟨rfl,rfl⟩,rfl,rfl⟩:=Z;rw [dx.cellsOf]at mB jM
    have hlen:n*b1.size+news.length≤vs.length:=by
     rw [kO.len,←Nat.add_mul];exact Nat.le_trans (Nat.mul_le_mul_right _ (by omega)) mB
    have eV:∀ty,(Builtin.append_ #[t,g'] ty #[tmps.getD s undef,(⟨tmps,[]⟩:Act).eval x]).run P w =
     .ok (.slice (some ⟨b,0,none⟩) (n+m) cap) (w.setRow b (vs.take (n*b1.size)++news++vs.drop (n*b1.size+news.length)).toArray):=by
     intro ty;have:=Z1 (P:=P) (w:=w) t g' ty e dx.info Aa dx.hi b n cap _ m news (by rw [dx.size];exact ik) (by omega) bf (by rw [dx.size];exact hlen)
     rw [dx.size]at this;rw [an,this]
    generalize Rz:vs.take (n*b1.size)++news++vs.drop (n*b1.size+news.length)=vs' at eV
    have Z5:vs'.length=vs.length:=by rw [←Rz,z6 hlen]
    have tX:(w.setRow b vs'.toArray).heap[b]? = some (.cells ⟨vs'⟩ T' (0,0)):=setRow_heap w b _ _ T' (0,0) bf;have hle:M.le (iH M b (n*b1.size) news):=J1 jM;have jK:hF (tmps.getD s undef)=some b:=by rw [an];rfl
    have cw:bv P K (iH M b (n*b1.size) news) β {env:=gM [s] g.env,H:=g.H,aL:=g.aL} tmps (w.setRow b vs'.toArray):=by
     refine n4.free b dw (λr cs ah hb=>(Ad (.slot s)).unbox b r cs jK ah hb) (λl e1 gO e0 sh=>?_) (λbp cW _=>setRow_other w b bp _ cW) hle (λbp o' cW=>?_) (λo' md n6=>?_)
     ·by_cases DS:l = .slot s
      ·subst DS;simp only [aD.at,np,List.mem_singleton,if_true,Option.map_eq_some_iff]at e0;obtain⟨_,_,rfl⟩:=e0;simp at sh
      ·exact(Ad (.slot s)).apart l e1 gO b e0 sh DS jK
     ·simp [iH,cW]
     ·rw [cell_of_heap tX,←Rz,J5 hlen];unfold iH at n6;split at n6
      ·rename_i jv;rw [if_pos ⟨jv.2.1,jv.2.2⟩];exact n6
      ·rename_i jv;rw [if_neg (λAe=>jv ⟨rfl,Ae.1,Ae.2⟩)]
       have:=h.bj.mem _ _ _ n6
       rwa [cell_of_heap bf]at this
    refine .inl ⟨_,_,DR am hc ff gv n5 ua rfl eV,_,β,hle,λ_ _ h=>h,λ_ _ h=>.inl h,cw,λe1 he=>?_⟩
    cases he;refine⟨.v _ _ (bY _ _ (((holds.app kO).mono hle).br (by omega) λq u hu=>?_)),λT l0 az=>?_⟩
    ·by_cases al:q<el.length
     ·rw [List.getElem?_append_left al]at hu;exact hle _ _ _ (hold q u hu)
     ·rw [List.getElem?_append_right (by omega)]at hu
      have:=DQ (M:=M) (b:=b) (lo:=n*b1.size) hu
      rw [holds.len]at this;rw [Nat.zero_add];have o0:n*b1.size+(q-n*b1.size)=q:=by rw [holds.len]at al;omega
      rwa [o0]at this
    ·cases az;refine⟨.inr ⟨b,n+m,cap,vs',T',rfl,by omega,tX,by rw [dx.cellsOf,Z5];exact mB,λo' ke=>?_,dw,q9⟩,λl e1 gO c7 e0 sh _ cO=>?_,λc7 r cs cO ah=>?_⟩
     ·rw [dx.cellsOf,Nat.add_mul]at ke;unfold iH;rw [if_neg (λAe=>by rw [kO.len]at Ae;omega)]
      exact jM o' (by omega)
     ·simp [hF]at cO;subst cO
      have DS:l ≠ .slot s:=by
       rintro rfl
       simp only [after,aD.at,np,List.mem_singleton,if_true,Option.map_eq_some_iff]at e0;obtain⟨_,_,rfl⟩:=e0;simp at sh
      have Z6:cb tmps (w.setRow b vs'.toArray) β l=cb tmps w β l:=by
       cases l with
       |slot wH=>rfl
       |cell r i=>
        have eu:=e0;simp only [after,aD.at]at eu;cases ah:look g.H r with
        |none=>simp [ah]at eu
        |some cs=>
         obtain⟨jN,Z7,oW,fc,DT,_⟩:=h.bj.box r cs ah;have cW:jN≠b:=by rintro rfl;exact(Ad (.slot s)).unbox jN r cs jK ah fc
         simp only [cb,fc];rw [q4 (w:=w) (setRow_other w b jN _ cW)]
      rw [Z6];exact(Ad (.slot s)).apart l e1 gO b e0 sh DS jK
     ·simp [hF]at cO;subst cO;exact(Ad (.slot s)).unbox b r cs jK ah
def RA(h:bv P K M β {env:=g.env,H:=g.H,aL:=g.aL} tmps w)(cf:fe P tt=true){g' e2:TypeId}{aF:es}(ab:look tt g'=some aF)(hk:aF.k = .br e2){v:Value}{k m:Nat}{get:Nat→V}
 (an:ce M β v (.v (.br k m get))):∃news,Src P k g' v m news w∧kN M k m get news:=by
 obtain⟨r⟩:=ek cf ab;have hu:P.underlying g'=some (.slice e2):=by rw [r.hd,oY r hk]
 rcases J6 an with⟨rfl|⟨a,rfl⟩,rfl⟩|⟨b,off,cap,el,rfl,_,kO,hold⟩
 ·exact⟨[],Src.ofNil w hu 0,wQ _ _⟩
 ·exact⟨[],Src.ofSlice w hu a 0 0 [] (by simp) (λj u hj=>by simp at hj) (by simp),wQ _ _⟩
 ·have hc:∀(j:Nat) u,el[j]? = some u→w.cell? ((⟨b,off,none⟩:Addr).add j)=some u:=λj u hj=>by rw [addr_add];exact h.mem _ _ _ (hold j u hj)
  exact⟨el,Src.ofSlice w hu _ m cap el kO.len hc kO.one,kO⟩
def Z8(cf:fe P tt=true){g':TypeId}{aF:es}(ab:look tt g'=some aF)(hk:aF.k = .str)(l:anT)(M:Mem):
 ∃news,Src P 1 g' (.string ⟨⟨l⟩⟩) l.length news w∧kN M 1 l.length (λi=>.int .u8 (l.getD i 0).toNat) news:=by
 obtain⟨r⟩:=ek cf ab;have hu:P.underlying g'=some .string:=by rw [r.hd,pV r hk]
 refine⟨byteCells ⟨⟨l⟩⟩,Src.ofString w hu ⟨⟨l⟩⟩,⟨by simp [byteCells],λi _=>rfl,λu hu=>?_,λi j c u hi hc hu=>?_⟩⟩
 ·obtain⟨_,_,rfl⟩:=List.mem_map.1 hu;rfl
 ·cases j with
  |succ j=>simp [V.cells]at hc
  |zero=>
   simp [V.cells]at hc;subst hc;simp only [byteCells,Nat.mul_one,Nat.add_zero,List.getElem?_map,Option.map_eq_some_iff]at hu;obtain⟨a,ha,rfl⟩:=hu;have:l[i]? = some a:=ha
   simp [this];exact .int _ _
end
end Go.Ab

/- The abstract machine: a step of code over plain data, proved against the model. -/
import Derived.Orders
import Derived.KernelRfl
import Derived.Laws.Sem
import Derived.Laws.Entries
import Derived.ChangeKeysEq
import Derived.Laws.Cells
import Derived.Laws.CopyRow
import Derived.Laws.Slices
import Derived.Laws.Strings2
import Derived.Deep.AppendSrc
set_option linter.all false
namespace Go.Ab
abbrev av3:=List UInt8
inductive V where
 |int (k:IntKind) (n:Int)
 |bool (b:Bool)
 |str (s:av3)
 |agg (cs:List V)
 |bM (k n:Nat) (get:Nat→V)
 |iface (t:TypeId) (x:V)
 |gU |jA |iR
 |any
 |oS (k:Nat) (get:Nat→V)
def V.cells:V→List V
 |.agg cs=>cs
 |x=>[x]
inductive D where
 |v (x:V)
 |ptr (r off:Nat)
 |cu (r off:Nat) (u:TypeId)
 |e8 (x:V)
 |full (k n:Nat) (get:Nat→V)
 |fn (f:FuncId) (fq:List D)
 |agg (cs:List D)
 |cn (cs:List D)
structure aW where
 d:D
 own:Option TypeId:=none
structure aI where
 env:List (Nat×aW)
 H:List (Nat×List aW)
 aY:Nat
inductive mo where
 |int (k:IntKind) |bool |str
 |dN (cG:List (Nat×TypeId×Nat))
 |bM (e:TypeId) |arr (n:Nat) (e:TypeId) |ptr |x5 |pL
deriving DecidableEq
structure d9 where
 k:mo
 size:Nat
 bytes:Nat
 zero:List V
 jM:List (Nat×TypeId):=[]
abbrev dD:=List (TypeId×d9)
def look{α:Type}:List (Nat×α)→Nat→Option α
 |[],_=>none
 |(j,x)::l,i=>bif Nat.beq j i then some x else look l i
def del{α:Type}:List (Nat×α)→Nat→List (Nat×α)
 |[],_=>[]
 |(j,x)::l,i=>bif Nat.beq j i then del l i else(j,x)::del l i
def mo.isAgg:mo→Bool
 |.dN _ |.arr _ _=>true
 |_=>false
abbrev Path:=List (Nat×Bool)
def Path.has(p:Path)(x:Nat×Bool):Bool:=p.any λy=>Nat.beq y.1 x.1&&(y.2 == x.2)
def Path.sub(q p:Path):Bool:=q.all p.has
inductive Out where
 |ret (d:D) (own:Option TypeId)
 |bl (x:V)
inductive fu where
 |val (x:V)
 |raw
 |own
 |marks (c:Nat)
 |call (o:Out) (H:Option (List (List aW))) (os:List Nat)
def aM(i:Int)(n:Nat):Bool:=decide (0≤i)&&decide (i<n)
def gV(i:Int)(n:Nat):Bool:=decide (0≤i)&&decide (i≤n)
def l5(a b:Int)(n:Nat):Bool:=decide (0≤a)&&(decide (a≤b)&&decide (b≤n))
def tz(a:Int):Bool:=!decide (a=0)
def room(n b:Nat):Bool:=decide (n*b≤140737488355328)
def b3(n:Nat):Bool:=decide (n≤9223372036854775807)
structure dg where
 env:List (Nat×aW)
 b5:List (Nat×Path×D)
 H:List (Nat×List aW)
 aY:Nat
 rs:List fu
 a':List Prop
 ids:List (Nat×Nat):=[]
def MV:Value→Option V
 |.int k n=>some (.int k n)
 |.bool b=>some (.bool b)
 |.string s=>some (.str s.data.toList)
 |.pointer none=>some .gU
 |.nilIface=>some .jA
 |.nilFunc=>some .iR
 |_=>none
def rd(env:List (Nat×aW))(b5:List (Nat×Path×D))(p:Path)(tt:dD)(ty:TypeId):Operand→Option D
 |.tmp t=>match look b5 t with
  |some (q,d)=>bif q.sub p then some d else none
  |none=>(look env t).map (·.d)
 |.const (.slice none 0 0)=>match look tt ty with
  |some {k:=.bM _,zero:=[.bM k 0 get],..}=>some (.v (.bM k 0 get))
  |_=>none
 |.const v=>(MV v).map .v
 |.func f=>some (.fn f [])
 |.global _=>none
def l6(f:TypeId→Operand→Option D):List Operand→List TypeId→Option (List D)
 |[],_=>some []
 |x::xs,t::ts=>match f t x,l6 f xs ts with
  |some d,some ds=>some (d::ds)
  |_,_=>none
 |_::_,[]=>none
def BU:List D→Option (List V)
 |[]=>some []
 |.v x::l=>(BU l).map (x :: ·)
 |_::_=>none
def mV(cs:List D):D:=match BU cs with|some vs=>.v (.agg vs)|none=>.agg cs
def cellsD:D→List D
 |.v x=>x.cells.map .v
 |.agg cs=>cs
 |d=>[d]
def sf:List D→Bool
 |[]=>true
 |.cu _ _ _::_=>false
 |_::l=>sf l
def qO:D→Bool
 |.cn _=>true
 |_=>false
def setAt{α:Type}:List α→Nat→List α→List α
 |cs,0,[]=>cs
 |_::cs,0,x::xs=>x::setAt cs 0 xs
 |c::cs,n+1,xs=>c::setAt cs n xs
 |[],_,_=>[]
def sg(place:Nat→Option (Nat×Nat))(cells:List D):List (Nat×D)→Option (List D)
 |[]=>some cells
 |(i,d)::rest=>match place i with
  |none=>none
  |some (off,size)=>
   bif Nat.beq (cellsD d).length size&&Nat.ble (off+size) cells.length && !qO d then sg place (setAt cells off (cellsD d)) rest else none
abbrev Mem:=Nat→Nat→Option Value
def Mem.le(M M':Mem):Prop:=∀b o v,M b o=some v→M' b o=some v
def Mem.le_refl(M:Mem):M.le M:=λ_ _ _ h=>h
def Mem.le_trans{A B C:Mem}(h:A.le B)(cS:B.le C):A.le C:=λb o v e=>cS b o v (h b o v e)
inductive dj(M:Mem):Value→V→Prop where
 |int (k:IntKind) (n:Int):dj M (.int k n) (.int k n)
 |bool (b:Bool):dj M (.bool b) (.bool b)
 |str (l:av3):dj M (.string ⟨⟨l⟩⟩) (.str l)
 |agg (vs:List Value) (cs:List V) (hn:vs.length=cs.length) (Z:∀v,v∈vs→v.oneCell'=true)
  (h:∀(i:Nat) v c,vs[i]? = some v→cs[i]? = some c→dj M v c):dj M (.agg ⟨vs⟩) (.agg cs)
 |l7 (k:Nat) (get:Nat→V):dj M (.slice none 0 0) (.bM k 0 get)
 |oT (a:Addr) (k:Nat) (get:Nat→V):dj M (.slice (some a) 0 0) (.bM k 0 get)
 |bM (b off k n cap:Nat) (get:Nat→V) (val:Nat→Nat→Value) (hc:n≤cap)
  (hk:∀i,i<n→(get i).cells.length=k)
  (cX:∀i j,i<n→j<k→M b (off+i*k+j)=some (val i j)) (Z:∀i j,i<n→j<k→(val i j).oneCell'=true)
  (h:∀(i j:Nat) c,i<n→(get i).cells[j]? = some c→dj M (val i j) c):dj M (.slice (some ⟨b,off,none⟩) n cap) (.bM k n get)
 |iface (t:TypeId) (v:Value) (x:V) (h:dj M v x):dj M (.iface t v) (.iface t x)
 |gU:dj M (.pointer none) .gU
 |jA:dj M .nilIface .jA
 |iR:dj M .nilFunc .iR
 |any (v:Value) (Z:v.oneCell'=true):dj M v .any
 |oS (k:Nat) (get:Nat→V):dj M (.slice none 0 0) (.oS k get)
def hv(raw x:V):Prop:=∀(M:Mem) (v:Value),dj M v raw→dj M v x
def pM(k:IntKind)(a b:Int):Int:=k.wrap (BitVec.ofInt k.bits a &&& BitVec.ofInt k.bits b).toNat
def qP(k:IntKind)(a b:Int):Int:=k.wrap (BitVec.ofInt k.bits a |||BitVec.ofInt k.bits b).toNat
def mW(k:IntKind)(a b:Int):Int:=k.wrap (BitVec.ofInt k.bits a ^^^ BitVec.ofInt k.bits b).toNat
def MW(k:IntKind)(a b:Int):Int:=k.wrap (BitVec.ofInt k.bits a &&& ~~~BitVec.ofInt k.bits b).toNat
def oU(k:IntKind)(x y:Int):Int:=k.wrap (x*2 ^ min y.toNat k.bits)
def nr(k:IntKind)(x y:Int):Int:=x.fdiv (2 ^ min y.toNat k.bits)
def oa(y:Int):Bool:=decide (0≤y)
def MX(op:BinOp)(k:IntKind)(x y:Int):Option (V×List Prop):=
 match op with
 |.shl=>some (.int k (oU k x y),[oa y=true])
 |.shr=>some (.int k (nr k x y),[oa y=true])
 |_=>none
def MY(op:BinOp)(k:IntKind)(a b:Int):Option (V×List Prop):=
 match op with
 |.add=>some (.int k (k.wrap (a+b)),[])
 |.sub=>some (.int k (k.wrap (a-b)),[])
 |.mul=>some (.int k (k.wrap (a*b)),[])
 |.quo=>some (.int k (k.wrap (a.tdiv b)),[tz b=true])
 |.rem=>some (.int k (a.tmod b),[tz b=true])
 |.eql=>some (.bool (decide (a=b)),[])
 |.neq=>some (.bool (!decide (a=b)),[])
 |.lss=>some (.bool (decide (a<b)),[])
 |.leq=>some (.bool (decide (a≤b)),[])
 |.gtr=>some (.bool (decide (b<a)),[])
 |.geq=>some (.bool (decide (b≤a)),[])
 |.and=>some (.int k (pM k a b),[])
 |.or=>some (.int k (qP k a b),[])
 |.xor=>some (.int k (mW k a b),[])
 |.andNot=>some (.int k (MW k a b),[])
 |_=>none
def MZ(op:BinOp)(a b:av3):Option (V×List Prop):=
 match op with
 |.add=>some (.str (a++b),[b3 (a.length+b.length)=true])
 |.eql=>some (.bool (decide (a=b)),[])
 |.neq=>some (.bool (!decide (a=b)),[])
 |.lss=>some (.bool (Op.bytesLess a b),[])
 |.leq=>some (.bool (Op.bytesLess a b||decide (a=b)),[])
 |.gtr=>some (.bool (!(Op.bytesLess a b||decide (a=b))),[])
 |.geq=>some (.bool (!Op.bytesLess a b),[])
 |_=>none
def isNil:mo→D→Option Bool
 |.ptr,.v .gU=>some true
 |.ptr,.ptr _ _=>some false
 |.ptr,.e8 _=>some false
 |.pL,.v .jA=>some true
 |.pL,.v (.iface _ _)=>some false
 |.x5,.v .iR=>some true
 |.x5,.fn _ _=>some false
 |_,_=>none
def Ga:mo→D→Bool
 |.ptr,.v .gU=>true
 |.pL,.v .jA=>true
 |.x5,.v .iR=>true
 |_,_=>false
def jf:List (Option mo)→List V→List V→Option Bool
 |[],[],[]=>some true
 |some (.int _)::ks,.int k a::l,.int k' b::m=>bif decide (k=k') then(jf ks l m).map λr=>decide (a=b)&&r else none
 |some .str::ks,.str a::l,.str b::m=>(jf ks l m).map λr=>decide (a=b)&&r
 |some .bool::ks,.bool a::l,.bool b::m=>(jf ks l m).map λr=>(a == b)&&r
 |_,_,_=>none
def mX(tt:dD):Nat→List (Nat×TypeId×Nat)→List (Option mo)
 | 0,cG=>cG.map λf=>(look tt f.2.1).map (·.k)
 |d+1,cG=>cG.flatMap λf=>match look tt f.2.1 with
  |some {k:=.dN gs,..}=>mX tt d gs
  |o=>[o.map (·.k)]
def Wo(k:Option mo)(af8:Bool)(op:BinOp)(a b:D):Option (V×List Prop):=
 match a,b with
 |.v (.int k x),.v (.int k' y)=>match MX op k x y with
  |some z=>some z
  |none=>bif decide (k=k')then MY op k x y else none
 |.v (.str x),.v (.str y)=>MZ op x y
 |.v (.bool x),.v (.bool y)=>match k,op with
  |some .bool,.eql=>some (.bool (x == y),[])
  |some .bool,.neq=>some (.bool (!(x == y)),[])
  |_,_=>none
 |a,b=>match k with
  |some k=>bif Ga k b&&af8 then match isNil k a,op with
   |some t,.eql=>some (.bool t,[])
   |some t,.neq=>some (.bool (!t),[])
   |_,_=>none
   else none
  |none=>none
def isConst:Operand→Bool
 |.const _=>true
 |_=>false
def Wp(op:UnOp)(a:V):Option V:=
 match op,a with
 |.not,.bool b=>some (.bool (!b))
 |.neg,.int k n=>some (.int k (k.wrap (0-n)))
 |_,_=>none
def BV(env:List (Nat×aW))(b5:List (Nat×Path×D))(t:Nat):Option Bool:=
 match look b5 t with
 |some (_,.v (.bool b))=>some b
 |some _=>none
 |none=>match look env t with
  |some ⟨.v (.bool b),_⟩=>some b
  |_=>none
def under(g:dg):Path→Prop→Prop
 |[],q=>q
 |(t,w)::p,q=>match BV g.env g.b5 t with
  |some b=>b=w→under g p q
  |none=>under g p q
structure lw where
 e:Option aW
 hy:List Nat:=[]
 hs:List (Nat×List aW):=[]
 eU:Nat:=0
 rs:List fu
 a':List Prop:=[]
def oV(g:dg):Operand→Option TypeId
 |.tmp t=>(look g.env t).bind (·.own)
 |_=>none
def af9(t:Nat)(o:Oper):Bool:=
 match o.op with
 |.assign (.tmp u)=>Nat.beq u t
 |.store _ _ (.tmp u)=>Nat.beq u t
 |.call {callee:=.builtin .append,args,..}=>match args.toList with
  |.tmp u::_=>Nat.beq u t
  |_=>false
 |_=>false
def af'(ops:List Oper)(dst:Option Nat):Bool:=
 match dst with
 |some t=>ops.any (af9 t)
 |none=>false
def refs:D→List Nat
 |.ptr r _=>[r]
 |.cu r _ _=>[r]
 |.fn _ fq=>fq.flatMap fun |.ptr r _=>[r] |_=>[]
 |.agg cs=>cs.flatMap fun |.ptr r _=>[r] |.cu r _ _=>[r] |.fn _ fq=>(fq.flatMap fun |.ptr r _=>[r] |_=>[]) |_=>[]
 |_=>[]
def idx(l:List Nat)(r:Nat):Option Nat:=
 match l with
 |[]=>none
 |x::l=>bif Nat.beq x r then some 0 else(idx l r).map (· + 1)
def dedup:List Nat→List Nat
 |[]=>[]
 |x::l=>bif (dedup l).any (Nat.beq x)then dedup l else x::dedup l
mutual
def eD(f:Nat→Option Nat):D→Option D
 |.v x=>some (.v x)
 |.ptr r off=>(f r).map (.ptr · off)
 |.cu r off u=>(f r).map (.cu · off u)
 |.e8 x=>some (.e8 x)
 |.full k n get=>some (.full k n get)
 |.fn g fq=>(lx f fq).map (.fn g)
 |.agg cs=>(lx f cs).map .agg
 |.cn cs=>(lx f cs).map .cn
def lx(f:Nat→Option Nat):List D→Option (List D)
 |[]=>some []
 |d::l=>match eD f d,lx f l with
  |some dL,some cI=>some (dL::cI)
  |_,_=>none
end
def Gb(f:Nat→Option Nat)(e:aW):Option aW:=(eD f e.d).map λd=>{d,own:=e.own}
def ns(f:Nat→Option Nat):List aW→Option (List aW)
 |[]=>some []
 |e::l=>match Gb f e,ns f l with
  |some aZ,some cI=>some (aZ::cI)
  |_,_=>none
def ke(f:Nat→Option Nat):List (List aW)→Option (List (List aW))
 |[]=>some []
 |b::l=>match ns f b,ke f l with
  |some bJ,some cI=>some (bJ::cI)
  |_,_=>none
def boxes(H:List (Nat×List aW)):List Nat→Option (List (List aW))
 |[]=>some []
 |r::l=>match look H r,boxes H l with
  |some b,some bs=>some (b::bs)
  |_,_=>none
def cY{α:Type}:Nat→List α→List (Nat×α)
 |_,[]=>[]
 |n,x::l=>(n,x)::cY (n+1) l
def ly:List Nat→List (List aW)→List (Nat×List aW)
 |r::l,b::bs=>(r,b)::ly l bs
 |_,_=>[]
def mapM'{α β:Type}(f:α→Option β):List α→Option (List β)
 |[]=>some []
 |x::l=>match f x,mapM' f l with
  |some y,some ys=>some (y::ys)
  |_,_=>none
structure gH where
 call:FuncId→List D→List (Nat×TypeId)→List (List aW)→Out→List (List aW)→Prop
 eq:TypeId→Bool
inductive ob where
 |go (e:lw)
 |bl (x:V) (hs:List (Nat×List aW)) (a':List Prop)
def oW(H:List (Nat×List aW)):Nat→List Nat→List Nat
 | 0,l=>l
 |n+1,l=>oW H n (dedup (l++l.flatMap λr=>((look H r).getD []).flatMap λe=>refs e.d))
def nt:List Nat→Bool
 |[]=>true
 |x::l=>!l.any (Nat.beq x)&&nt l
def handed(tt:dD)(g:dg)(xs:List Operand)(ts:List TypeId):List Nat→Option (List (Nat×Option Nat×TypeId))
 |[]=>some []
 |i::os=>match xs[i]?,handed tt g xs ts os with
  |some (.tmp t),some l=>match look g.env t with
   |some ⟨_,some e⟩=>bif (look g.b5 t).isNone&&l.all (λx=>!(match x.2.1 with |some u=>Nat.beq u t |none=>false) && !Nat.beq x.1 i)then some ((i,some t,e)::l)else none
   |_=>none
  |some (.const (.slice none 0 0)),some l=>match(ts[i]?).bind (look tt) with
   |some {k:=.bM e,..}=>bif l.all (λx=>!Nat.beq x.1 i)then some ((i,none,e)::l)else none
   |_=>none
  |_,_=>none
def x6(cm:gH)(tt:dD)(g:dg)(p:Path)(xs:List Operand)(ts:List TypeId)(f:FuncId)(args:List D):Option ob:=
 let ρ:=oW g.H 2 (dedup (args.flatMap refs))
 match g.rs with
 |.call out cH os::rs=>
  match lx (idx ρ) args,(boxes g.H ρ).bind (ke (idx ρ)),handed tt g xs ts os with
  |some jN,some H1,some hd=>bif !nt ρ || !(p.isEmpty||os.isEmpty)then none else
   let es:=hd.map λx=>(x.1,x.2.2)
   let hy:=hd.filterMap λx=>x.2.1
   match out,cH with
   |.ret d own,none=>(eD (λj=>ρ[j]?) d).map λdL=>.go {e:=some {d:=dL,own},hy,rs,a':=[cm.call f jN es H1 out H1]}
   |.ret d own,some cH=>match eD (λj=>ρ[j]?) d,ke (λj=>ρ[j]?) cH with
    |some dL,some iS=>bif Nat.beq cH.length ρ.length then some (.go {e:=some {d:=dL,own},hy,hs:=ly ρ iS,rs,a':=[cm.call f jN es H1 out cH]})else none
    |_,_=>none
   |.bl x,none=>some (.bl x [] [cm.call f jN es H1 out H1])
   |.bl x,some cH=>match ke (λj=>ρ[j]?) cH with
    |some iS=>bif Nat.beq cH.length ρ.length then some (.bl x (ly ρ iS) [cm.call f jN es H1 out cH])else none
    |none=>none
  |_,_,_=>none
 |_=>none
def Gc:V→Option TypeId→Option TypeId
 |.bM _ _ _,t=>t
 |_,_=>none
def Wq(tt:dD):Nat→List (Nat×TypeId×Nat)→Nat→Option TypeId
 | 0,_,_=>none
 |d+1,cG,j=>match cG.find? λf=>Nat.ble f.1 j&&Nat.blt j (f.1+f.2.2) with
  |some f=>match look tt f.2.1 with
   |some {k:=.bM e,..}=>some e
   |some {k:=.dN gs,..}=>Wq tt d gs (j-f.1)
   |_=>none
  |none=>none
def Gd(tt:dD):mo→Nat→Option TypeId
 |.dN cG,j=>Wq tt 5 cG j
 |.bM e,0=>some e
 |_,_=>none
def Wr(tt:dD)(jM:List (Nat×TypeId))(k:mo)(i:Nat):Option TypeId:=
 match Gd tt k i with
 |some e=>some e
 |none=>(jM.find? λy=>Nat.beq (y.1+1) i).bind λy=>match look tt y.2 with |some {k,..}=>Gd tt k 1 |none=>none
def BW(jM:List (Nat×TypeId))(id i:Nat)(x:V):D:=
 match x with
 |.gU=>match jM.find? λy=>Nat.beq y.1 i with
  |some y=>.cu id i y.2
  |none=>.v x
 |_=>.v x
def Ge(tt:dD)(t:TypeId)(id:Nat):Option (List aW):=
 match look tt t with
 |some {k:=.bM e,zero,..}=>some (zero.map λx=>{d:=.v x,own:=Gc x (some e)})
 |some {k:=.dN cG,zero,jM,..}=>some ((cY 0 zero).map fun(i,x)=>
  {d:=BW jM id i x,own:=Gc x (Wr tt jM (.dN cG) i)})
 |some {zero,..}=>some (zero.map λx=>{d:=.v x})
 |none=>none
def V.isAgg:V→Bool
 |.agg _=>true
 |_=>false
def M0:V→V
 |.bM k 0 g=>.oS k g
 |x=>x
def pN(ty:Nat→Option TypeId):Nat→List aW→List aW
 |_,[]=>[]
 |i,e::l=>(match e.d with
  |.v (.oS k g)=>{d:=.v (.bM k 0 g),own:=ty i}
  |_=>e)::pN ty (i+1) l
def elems(isAgg:Bool)(size:Nat):Nat→List (Nat×D)→Option (List V)
 |_,[]=>some []
 |i,(j,.v x)::ca=>bif Nat.beq i j&&Nat.beq x.cells.length size&&(x.isAgg == isAgg) then(elems isAgg size (i+1) ca).map (x :: ·)else none
 |_,_=>none
def sh(tt:dD)(t:TypeId)(i:Nat):TypeId:=
 match look tt t with
 |some {k:=.dN cG,..}=>match cG[i]? with
  |some f=>f.2.1
  |none=>0
 |some {k:=.arr _ e,..}=>e
 |some {k:=.bM e,..}=>e
 |_=>0
def x7(tt:dD)(aH:d9)(id i:Nat)(d:D):aW:=
 match d with
 |.v .gU=>{d:=BW aH.jM id i .gU}
 |.v (.oS k g)=>match Wr tt aH.jM aH.k i with
  |some T=>{d:=.v (.bM k 0 g),own:=some T}
  |none=>{d}
 |d=>{d}
def qQ(tt:dD)(aH:d9)(id:Nat):Nat→List D→List aW
 |_,[]=>[]
 |i,d::l=>x7 tt aH id i d::qQ tt aH id (i+1) l
def oc(g:dg)(o:Oper):Option (Nat×Nat):=
 match o.dst.bind (look g.ids) with
 |some id=>bif (look g.H id).isNone&&Nat.blt id g.aY then some (id,0)else none
 |none=>some (g.aY,1)
def Ws:Nat→Nat→List (Nat×TypeId)
 | 0,_=>[]
 |f+1,c=>bif Nat.beq c 0 then[] else((c % 1000000-1) / 1000,(c % 1000000-1) % 1000)::Ws f (c / 1000000)
def marks(T:Nat):List (Nat×TypeId):=Ws 8 (T / 1000000)
def marksOf:Nat→List aW→List (Nat×TypeId)
 |_,[]=>[]
 |i,e::l=>match e.own with
  |some T=>(i,T)::marksOf (i+1) l
  |none=>marksOf (i+1) l
def tA:List (Nat×TypeId)→List (Nat×TypeId)→Bool
 |[],[]=>true
 |x::l,y::m=>Nat.beq x.1 y.1&&Nat.beq x.2 y.2&&tA l m
 |_,_=>false
def x8:List (Nat×TypeId)→Nat→Option TypeId
 |[],_=>none
 |x::l,i=>bif Nat.beq x.1 i then some x.2 else x8 l i
def M1:D→Bool
 |.v (.agg _)=>true
 |.agg _=>true
 |_=>false
def pO(ms:List (Nat×TypeId)):Nat→List D→List aW
 |_,[]=>[]
 |i,d::l=>{d,own:=x8 ms i}::pO ms (i+1) l
def step1(cm:gH)(tt:dD)(ops:List Oper)(g:dg)(p:Path)(o:Oper):Option ob:=
 let r:=rd g.env g.b5 p tt o.type
 let val (d:Option D):Option ob:=d.map λd=>.go {e:=some {d},rs:=g.rs}
 let BX (x:Option (V×List Prop)):Option ob:=x.map fun(x,a')=>.go {e:=some {d:=.v x},rs:=g.rs,a'}
 let Gf (raw:V) (mk:V→D) (a':List Prop):Option ob:=match g.rs with
  |.val x::rs=>some (.go {e:=some {d:=mk x},rs,a':=hv raw x::a'})
  |.raw::rs=>some (.go {e:=some {d:=mk raw},rs,a':=a'})
  |_=>none
 match o.op with
 |.move x=>match r x with
  |some d=>match oV g x,x with
   |some e,.tmp t=>match g.rs with
    |.own::rs=>bif p.isEmpty then some (.go {e:=some {d,own:=some e},hy:=[t],rs})else none
    |_=>bif p.isEmpty&&af' ops o.dst then some (.go {e:=some {d,own:=some e},hy:=[t],rs:=g.rs})else some (.go {e:=some {d},rs:=g.rs})
   |_,_=>some (.go {e:=some {d},rs:=g.rs})
  |none=>none
 |.assign x=>match r x with
  |some d=>match oV g x,x with
   |some e,.tmp t=>bif p.isEmpty then some (.go {e:=some {d,own:=some e},hy:=[t],rs:=g.rs})else some (.go {e:=some {d},rs:=g.rs})
   |_,.const (.slice none 0 0)=>match look tt o.type with
    |some {k:=.bM e,..}=>bif p.isEmpty then some (.go {e:=some {d,own:=some e},rs:=g.rs})else some (.go {e:=some {d},rs:=g.rs})
    |_=>none
   |_,_=>some (.go {e:=some {d},rs:=g.rs})
  |none=>none
 |.pick (.tmp c) a b=>match r (.tmp c),rd g.env g.b5 ((c,true)::p) tt o.type a,rd g.env g.b5 ((c,false)::p) tt o.type b with
  |some (.v (.bool tB)),some (.v (.bool BY)),some (.v (.bool vi))=>val (some (.v (.bool (bif tB then BY else vi))))
  |_,_,_=>none
 |.alloc t=>match oc g o with
  |some (id,eU)=>match Ge tt t id with
   |some z=>some (.go {e:=some {d:=.ptr id 0},hs:=[(id,z)],eU,rs:=g.rs})
   |none=>none
  |none=>none
 |.box t x=>match r x,oc g o,look tt t with
  |some d,some (id,eU),some aH=>bif qO d || !sf (cellsD d) || !Nat.beq (cellsD d).length aH.size then none else some (.go {e:=some {d:=.ptr id 0},hs:=[(id,qQ tt aH id 0 (cellsD d))],eU,rs:=g.rs})
  |_,_,_=>none
 |.build t parts=>match look tt t,mapM' (fun(i,x)=>(rd g.env g.b5 p tt (sh tt t i) x).map λd=>(i,d)) parts.toList with
  |some {k:=.dN cG,zero,..},some ca=>bif cG.all (λf=>Nat.ble 1 f.2.2)then match g.rs with
   |.own::rs=>((sg (λi=>(cG[i]?).map λf=>(f.1,f.2.2)) (zero.map λx=>.v (M0 x)) ca).map mV).map λd=>.go {e:=some {d},rs}
   |_=>val ((sg (λi=>(cG[i]?).map λf=>(f.1,f.2.2)) (zero.map .v) ca).map mV)
   else none
  |some {k:=.arr _ e,zero,..},some ca=>match look tt e with
   |some {size,..}=>val ((sg (λi=>some (i*size,size)) (zero.map .v) ca).map mV)
   |none=>none
  |_,_=>none
 |.buildSlice t len parts=>match look tt t,mapM' (fun(i,x)=>(rd g.env g.b5 p tt (sh tt t i) x).map λd=>(i,d)) parts.toList with
  |some {k:=.bM e,..},some ca=>match look tt e with
   |some {k,size,..}=>
    match elems k.isAgg size 0 ca,g.rs with
    |some xs,.val x::rs=>bif Nat.ble (len*size) 16777216&&Nat.ble 1 size&&Nat.beq xs.length len then some (.go {e:=some {d:=.v x,own:=some e},rs,a':=[hv (.bM size len λi=>xs.getD i .gU) x]})else none
    |_,_=>none
   |none=>none
  |_,_=>none
 |.load t a=>match r a,look tt t with
  |some (
   .ptr q off),some aH=>match look g.H q with
   |some cs=>bif aH.k.isAgg then
    bif Nat.ble (off+aH.size) cs.length then match g.rs with
     |.marks c::rs=>bif p.isEmpty&&tA (marks c) (marksOf 0 ((cs.drop off).take aH.size)) then
      some (.go {e:=some {d:=mV (((cs.drop off).take aH.size).map (·.d)),own:=some c},hs:=[(q,setAt cs off (((cs.drop off).take aH.size).map λe=>{d:=e.d}))],rs})else none
     |_=>val (some (mV (((cs.drop off).take aH.size).map (·.d))))else none
    else match cs[off]? with
     |some e=>match e.own,g.rs with
      |some _,.own::rs=>bif p.isEmpty then some (.go {e:=some e,hs:=[(q,setAt cs off [{d:=e.d}])],rs})else none
      |_,_=>val (some e.d)
     |none=>none
   |none=>none
  |some (.e8 x),some aH=>bif x.isAgg == aH.k.isAgg&&Nat.beq x.cells.length aH.size then val (some (.v x))else none
  |_,_=>none
 |.store t a x=>match r a,rd g.env g.b5 p tt t x,look tt t with
  |some (
   .ptr q off),some d,some aH=>match look g.H q with
   |some cs=>bif Nat.beq (cellsD d).length aH.size&&Nat.ble (off+aH.size) cs.length&&p.isEmpty && !qO d&&sf (cellsD d) then
    match x,oV g x,d with
    |.tmp u,some s,.v (.bM ..)=>some (.go {e:=none,hy:=[u],hs:=[(q,setAt cs off [{d,own:=some s}])],rs:=g.rs})
    |.const (.slice none 0 0),_,_=>match aH.k with
     |.bM s=>some (.go {e:=none,hs:=[(q,setAt cs off [{d,own:=some s}])],rs:=g.rs})
     |_=>none
    |.tmp u,some s,_=>match g.rs with
     |.marks _::rs=>bif M1 d&&((marks s).all λx=>Nat.blt x.1 aH.size)then some (.go {e:=none,hy:=[u],hs:=[(q,setAt cs off (pO (marks s) 0 (cellsD d)))],rs})else none
     |_=>some (.go {e:=none,hs:=[(q,pN (λi=>Gd tt aH.k (i-off)) 0 (setAt cs off ((cellsD d).map λd=>{d})))],rs:=g.rs})
    |_,_,_=>some (.go {e:=none,hs:=[(q,pN (λi=>Gd tt aH.k (i-off)) 0 (setAt cs off ((cellsD d).map λd=>{d})))],rs:=g.rs})
    else none
   |none=>none
  |_,_,_=>none
 |.nilCheck x=>match r x with
  |some (.ptr q off)=>val (some (.ptr q off))
  |some (.e8 x)=>val (some (.e8 x))
  |_=>none
 |.binOp op t x y _=>match r x,r y with
  |some (.v (.agg xs)),some (.v (.agg ys))=>match look tt t with
   |some {k:=.dN cG,..}=>bif cm.eq t then match op,jf (mX tt 4 cG) xs ys with
    |.eql,some r=>val (some (.v (.bool r)))
    |.neq,some r=>val (some (.v (.bool (!r))))
    |_,_=>none
    else none
   |_=>none
  |some a,some b=>BX (Wo ((look tt t).map (·.k)) (isConst y) op a b)
  |_,_=>none
 |.unOp op _ x=>match r x with
  |some (.v a)=>val ((Wp op a).map .v)
  |_=>none
 |.convert s t x=>match look tt s,look tt t,r x with
  |some {k:=.int _,..},some {k:=.int k,..},some (.v (.int _ n))=>val (some (.v (.int k (k.wrap n))))
  |some {k:=.str,..},some {k:=.str,..},some (.v (.str s))=>val (some (.v (.str s)))
  |some {k:=.bM e,..},some {k:=.str,..},some (.v (.bM 1 n get))=>match look tt e,g.rs with
   |some {k:=.int .u8,..},.val (.str l)::rs=>some (.go {e:=some {d:=.v (.str l)},rs,a':=[l.length=n∧∀i,i<n→get i = .int .u8 ((l.getD i 0).toNat:Int)]})
   |_,_=>none
  |_,_,_=>none
 |.makeInterface t x=>match r x,look tt t with
  |some (.v x),some {k,..}=>match k with
   |.pL=>none
   |_=>val (some (.v (.iface t x)))
  |_,_=>none
 |.makeFunc (.func f) first fq=>bif first.isEmpty then(mapM' r fq.toList).map λds=>.go {e:=some {d:=.fn f ds},rs:=g.rs}else none
 |.slice t x lo hi kf=>match kf,look tt t with
  |none,some {k:=.str,..}=>match r x,lo.map r,hi.map r with
   |some (.v (.str s)),none,none=>val (some (.v (.str s)))
   |some (.v (.str s)),some (some (.v (.int _ a))),none=>BX (some (.str (s.drop a.toNat),[gV a s.length=true]))
   |some (.v (.str s)),none,some (some (.v (.int _ b)))=>BX (some (.str (s.take b.toNat),[gV b s.length=true]))
   |some (.v (.str s)),some (some (.v (.int _ a))),some (some (.v (.int _ b)))=>BX (some (.str ((s.take b.toNat).drop a.toNat),[l5 a b s.length=true]))
   |_,_,_=>none
  |none,some {k:=.bM e,..}=>match look tt e,r x,lo.map r,hi.map r with
   |some {size,..},some (.v (.bM k n get)),some (some (.v (.int _ a))),none=>bif Nat.beq k size then Gf (.bM k (n-a.toNat) λi=>get (a.toNat+i)) .v [gV a n=true]else none
   |some {size,..},some (.v (.bM k n get)),none,some (some (.v (.int _ b)))=>bif Nat.beq k size then Gf (.bM k b.toNat get) .v [gV b n=true]else none
   |some {size,..},some (.v (.bM k n get)),some (some (.v (.int _ a))),some (some (.v (.int _ b)))=>bif Nat.beq k size then Gf (.bM k (b.toNat-a.toNat) λi=>get (a.toNat+i)) .v [l5 a b n=true]else none
   |some {size,..},some (.v (.bM k n get)),none,none=>bif Nat.beq k size then val (some (.v (.bM k n get)))else none
   |_,_,_,_=>none
  |some _,some {k:=.bM e,..}=>match look tt e,r x,lo,hi.map r,kf.map r with
   |some {size,..},some (.v (.bM k n get)),none,some (some (.v (.int _ b))),some (some (.v (.int _ c)))=>bif Nat.beq k size then some (.go {e:=some {d:=.full k b.toNat get},rs:=g.rs,a':=[b=c,gV b n=true]})else none
   |_,_,_,_,_=>none
  |_,_=>none
 |.fieldAddr s x f=>match r x,look tt s with
  |some (.ptr q off),some {k:=.dN cG,..}=>match cG[f]? with
   |some (cV,_,fZ)=>bif Nat.ble 1 fZ then val (some (.ptr q (off+cV)))else none
   |none=>none
  |some (
   .e8 (.agg cs)),some {k:=.dN cG,..}=>match cG[f]? with
   |some (
    cV,h_,fZ)=>match look tt h_ with
    |some aH=>bif Nat.ble 1 fZ&&Nat.ble (cV+fZ) cs.length then
     bif aH.k.isAgg then val (some (.e8 (.agg ((cs.drop cV).take fZ))))else bif Nat.beq fZ 1 then match cs[cV]? with
      |some c=>bif c.isAgg then none else val (some (.e8 c))
      |none=>none
     else none
     else none
    |none=>none
   |none=>none
  |_,_=>none
 |.field s x f=>match r x,look tt s with
  |some (
   .v (.agg cs)),some {k:=.dN cG,..}=>match cG[f]? with
   |some (cV,h_,fZ)=>match look tt h_ with
    |some aH=>bif Nat.ble (cV+fZ) cs.length then bif aH.k.isAgg then val (some (.v (.agg ((cs.drop cV).take fZ))))else match cs[cV]? with
     |some c=>val (some (.v c))
     |none=>none
     else none
    |none=>none
   |none=>none
  |some (.agg cs),some {k:=.dN cG,..}=>match cG[f]? with
   |some (cV,h_,fZ)=>match look tt h_,cs[cV]? with
    |some aH,some c=>bif aH.k.isAgg || !Nat.beq fZ 1||qO c then none else val (some c)
    |_,_=>none
   |none=>none
  |_,_=>none
 |.indexAddr t x i=>match r x,r i,look tt t with
  |some (.v (.bM k n get)),some (.v (.int _ j)),some {k:=.bM e,..}=>match look tt e with
   |some {size,..}=>bif Nat.beq k size&&Nat.ble 1 size then Gf (get j.toNat) .e8 [aM j n=true]else none
   |none=>none
  |_,_,_=>none
 |.index t x i=>match r x,r i,look tt t with
  |some (.v (.str s)),some (.v (.int _ j)),some {k:=.str,..}=>BX (some (.int .u8 (s.getD j.toNat 0).toNat,[aM j s.length=true]))
  |_,_,_=>none
 |.typeAssert x _ t ok=>match r x,look tt t with
  |some (.v (.iface bY y)),some {k,..}=>match k with
   |.pL=>none
   |_=>bif Nat.beq bY t then val (some (bif ok then .cn [.v y,.v (.bool true)]else .v y))else none
  |_,_=>none
 |.extract x i=>match r x with
  |some (.cn ds)=>val ds[i]?
  |_=>none
 |.call c=>match c.callee with
  |.value x=>match r x,l6 (rd g.env g.b5 p tt) c.args.toList c.argTypes.toList with
   |some (.fn f fq),some ds=>x6 cm tt g p c.args.toList c.argTypes.toList f (ds++fq)
   |_,_=>none
  |.builtin .len=>match mapM' (λy=>r y) c.args.toList,(c.argTypes.toList[0]?).bind (look tt) with
   |some [.v (.str s)],some {k:=.str,..}=>val (some (.v (.int .i64 s.length)))
   |some [.v (.bM _ n _)],some {k:=.bM _,..}=>val (some (.v (.int .i64 n)))
   |_,_=>none
  |.builtin .append=>match c.args.toList,(c.argTypes.toList[0]?).bind (look tt),(c.argTypes.toList[1]?).bind (look tt) with
   |[.tmp t,x],some {k:=.bM e,..},some t2=>match look tt e,r (.tmp t),r x,look g.env t,g.rs with
    |some co,some (.v (.bM k n get)),some d2,some ⟨_,some aZ⟩,.val y::rs=>
     bif Nat.beq e aZ&&Nat.beq k co.size&&Nat.ble 1 co.size&&Nat.ble 1 co.bytes&&p.isEmpty then
      match d2,t2.k with
      |.v (.bM ak m mp),.bM _=>bif Nat.beq ak k then
       some (.go {e:=some {d:=.v y,own:=some e},hy:=[t],rs,a':=[hv (.bM k (n+m) λi=>bif Nat.blt i n then get i else mp (i-n)) y,room (n+m) co.bytes=true]})
       else none
      |.v (.str s),.str=>bif Nat.beq k 1 then
       some (.go {e:=some {d:=.v y,own:=some e},hy:=[t],rs,a':=[hv (.bM k (n+s.length) λi=>bif Nat.blt i n then get i else .int .u8 (s.getD (i-n) 0).toNat) y,room (n+s.length) co.bytes=true]})
       else none
      |_,_=>none
     else none
    |some co,some (.full k n get),some d2,_,.val y::rs=>
     bif Nat.beq k co.size&&Nat.ble 1 co.size&&Nat.ble 1 co.bytes&&p.isEmpty then
      match d2,t2.k with
      |.v (.bM ak m mp),.bM _=>bif Nat.beq ak k&&Nat.ble 1 m then
       some (.go {e:=some {d:=.v y,own:=some e},hy:=[t],rs,a':=[hv (.bM k (n+m) λi=>bif Nat.blt i n then get i else mp (i-n)) y,room (n+m) co.bytes=true]})
       else none
      |_,_=>none
     else none
    |_,_,_,_,_=>none
   |_,_,_=>none
  |.builtin .min=>match mapM' (λy=>r y) c.args.toList with
   |some [.v (.int k a),.v (.int ak b)]=>bif decide (k=ak)then val (some (.v (.int k (bif decide (b<a)then b else a))))else none
   |_=>none
  |.builtin .max=>match mapM' (λy=>r y) c.args.toList with
   |some [.v (.int k a),.v (.int ak b)]=>bif decide (k=ak)then val (some (.v (.int k (bif decide (a<b)then b else a))))else none
   |_=>none
  |_=>none
 |.panic x=>match r x with
  |some (.v (.iface t y))=>some (.bl (.iface t y) [] [])
  |_=>none
 |_=>none
def gW:List Nat→List (Nat×aW)→List (Nat×aW)
 |[],env=>env
 |t::l,env=>match look env t with
  |some e=>(t,{e with own:=none})::gW l env
  |none=>gW l env
inductive tC where
 |go (g:dg)
 |bl (x:V) (st:aI) (a':List Prop)
def pP:List (Nat×aW)→List (Nat×aW)
 |[]=>[]
 |(t,e)::l=>(t,{d:=e.d})::pP l
def pQ(ops:List Oper)(g:dg)(o:Oper):Option Path:=
 match o.guard with
 |none=>some []
 |some (j,w)=>match(ops[j]?).bind (·.dst) with
  |some t=>match look g.b5 t with
   |some (q,.v (.bool _))=>some (q++[(t,w)])
   |some _=>none
   |none=>match look g.env t with
    |some ⟨.v (.bool _),_⟩=>some [(t,w)]
    |_=>none
  |none=>none
def x9(b5:List (Nat×Path×D))(t:Nat):Bool:=b5.all λx=>Nat.beq x.1 t||x.2.1.all λy=>!Nat.beq y.1 t
def kg(
 cm:gH) (tt:dD) (N:Nat) (ops:List Oper) (g:dg) (o:Oper):Option tC:=
 match pQ ops g o with
 |none=>none
 |some p=>
  match step1 cm tt ops g p o with
  |none=>none
  |some (.bl x hs a')=>bif p.isEmpty then some (.bl x {env:=pP g.env,H:=hs++g.H,aY:=g.aY} (a'++g.a'))else none
  |some (
   .go f)=>
   let e4:dg:={g with rs:=f.rs,a':=f.a'.map (under g p)++g.a'}
   match o.dst with
   |none=>bif p.isEmpty then some (.go {e4 with env:=gW f.hy g.env,H:=f.hs++g.H,aY:=g.aY+f.eU})else none
   |some t=>bif Nat.blt t N&&x9 g.b5 t then
    match p with
    |[]=>some (.go {e4 with
     env:=match f.e with|some e=>(t,e)::gW f.hy g.env|none=>del (gW f.hy g.env) t
     b5:=del g.b5 t,H:=f.hs++g.H,aY:=g.aY+f.eU})
    |_::_=>match f.e,f.hs,f.hy with
     |some e,[],[]=>bif p.all (λy=>!Nat.beq y.1 t)&&Nat.beq f.eU 0 then some (.go {e4 with env:=del g.env t,b5:=(t,p,e.d)::del g.b5 t})else none
     |_,_,_=>none
    else none
def tD(cm:gH)(tt:dD)(N:Nat)(ops:List Oper):List Oper→dg→Option tC
 |[],g=>some (.go g)
 |o::l,g=>match kg cm tt N ops g o with
  |some (.go e4)=>tD cm tt N ops l e4
  |x=>x
mutual
def below(n:Nat):D→Bool
 |.v _ |.e8 _ |.full _ _ _=>true
 |.ptr r _=>Nat.blt r n
 |.cu r _ _=>Nat.blt r n
 |.fn _ fq=>vj n fq
 |.agg cs |.cn cs=>vj n cs
def vj(n:Nat):List D→Bool
 |[]=>true
 |d::l=>below n d&&vj n l
end
def si(n:Nat):List aW→Bool
 |[]=>true
 |e::l=>below n e.d&&si n l
def BZ(env:List (Nat×aW)):List Nat→Option (List (Nat×aW))
 |[]=>some []
 |t::l=>match look env t,BZ env l with
  |some e,some cI=>some ((t,e)::cI)
  |_,_=>none
def B0(H:List (Nat×List aW)):List Nat→Option (List (Nat×List aW))
 |[]=>some []
 |r::l=>match look H r,B0 H l with
  |some e,some cI=>some ((r,e)::cI)
  |_,_=>none
def vk(live:List Nat)(boxes:List Nat)(n:Nat)(env:List (Nat×aW))(H:List (Nat×List aW))(aY:Nat):Option aI:=
 match BZ env live,B0 H boxes with
 |some od,some H'=>bif Nat.ble n aY&&od.all (λx=>below n x.2.d)&&H'.all (λx=>Nat.blt x.1 n&&si n x.2)then some {env:=od,H:=H',aY:=n}else none
 |_,_=>none
inductive Fin where
 |go (st:aI) (a':List Prop)
 |bl (x:V) (st:aI) (a':List Prop)
def dj.mono{M M':Mem}(cX:M.le M'){v:Value}{x:V}(h:dj M v x):dj M' v x:=by
 induction h with
 |int k n=>exact .int k n
 |bool b=>exact .bool b
 |str l=>exact .str l
 |agg vs cs hn Z _ aJ=>exact .agg vs cs hn Z aJ
 |l7 k get=>exact .l7 k get
 |oT a k get=>exact .oT a k get
 |bM b off k n cap get val hc hk hm Z _ aJ=>exact .bM b off k n cap get val hc hk (λi j hi hj=>cX _ _ _ (hm i j hi hj)) Z aJ
 |iface t v x _ aJ=>exact .iface t v x aJ
 |gU=>exact .gU
 |jA=>exact .jA
 |iR=>exact .iR
 |any v Z=>exact .any v Z
 |oS k get=>exact .oS k get
inductive cw(M:Mem)(β:Nat→Option Nat):Value→D→Prop where
 |v (u:Value) (x:V) (h:dj M u x):cw M β u (.v x)
 |ptr (r off b:Nat) (h:β r=some b):cw M β (.pointer (some ⟨b,off,none⟩)) (.ptr r off)
 |l8 (r off:Nat) (u:TypeId):cw M β (.pointer none) (.cu r off u)
 |cu (r off b:Nat) (u:TypeId) (h:β r=some b):cw M β (.pointer (some ⟨b,off,none⟩)) (.cu r off u)
 |e8 (b off:Nat) (x:V) (val:Nat→Value) (cX:∀j,j<x.cells.length→M b (off+j)=some (val j)) (Z:∀j,j<x.cells.length→(val j).oneCell'=true)
  (h:∀(j:Nat) c,x.cells[j]? = some c→dj M (val j) c):cw M β (.pointer (some ⟨b,off,none⟩)) (.e8 x)
 |full (base:Option Addr) (k n:Nat) (get:Nat→V) (h:dj M (.slice base n n) (.bM k n get)):cw M β (.slice base n n) (.full k n get)
 |fn (f:FuncId) (vs:List Value) (cs:List D) (hn:vs.length=cs.length)
  (h:∀(i:Nat) v c,vs[i]? = some v→cs[i]? = some c→cw M β v c):cw M β (.func (.func f) #[] ⟨vs⟩) (.fn f cs)
 |agg (vs:List Value) (cs:List D) (hn:vs.length=cs.length) (Z:∀v,v∈vs→v.oneCell'=true)
  (h:∀(i:Nat) v c,vs[i]? = some v→cs[i]? = some c→cw M β v c):cw M β (.agg ⟨vs⟩) (.agg cs)
 |cn (vs:List Value) (cs:List D) (hn:vs.length=cs.length)
  (h:∀(i:Nat) v c,vs[i]? = some v→cs[i]? = some c→cw M β v c):cw M β (.tuple ⟨vs⟩) (.cn cs)
def cw.mono{M M':Mem}{β:Nat→Option Nat}(cX:M.le M'){v:Value}{d:D}(h:cw M β v d):cw M' β v d:=by
 induction h with
 |v u x h=>exact .v u x (h.mono cX)
 |ptr r off b h=>exact .ptr r off b h
 |l8 r off u=>exact .l8 r off u
 |cu r off b u h=>exact .cu r off b u h
 |e8 b off x val hm Z h=>exact .e8 b off x val (λj hj=>cX _ _ _ (hm j hj)) Z (λj c hc=>(h j c hc).mono cX)
 |full b k n get h=>exact .full b k n get (h.mono cX)
 |fn f vs cs hn _ aJ=>exact .fn f vs cs hn aJ
 |agg vs cs hn Z _ aJ=>exact .agg vs cs hn Z aJ
 |cn vs cs hn _ aJ=>exact .cn vs cs hn aJ
def tE{n:Nat}:∀{l:List D} {i:Nat} {d:D},vj n l=true→l[i]? = some d→below n d=true
 |[],_,_,_,h=>by simp at h
 |d::l,0,_,hb,h=>by simp [vj]at hb;simp at h;exact h ▸ hb.1
 |d::l,i+1,_,hb,h=>by simp [vj]at hb;simp at h;exact tE hb.2 h
def cw.Wt{M:Mem}{β β':Nat→Option Nat}{n:Nat}(hD:∀r,r<n→β' r=β r){v:Value}{d:D}(h:cw M β v d):Ab.below n d=true→cw M β' v d:=by
 induction h with
 |v u x h=>intro _;exact .v u x h
 |ptr r off b h=>intro hb;exact .ptr r off b (by rw [hD r (by simpa [Ab.below,Nat.blt_eq]using hb)];exact h)
 |l8 r off u=>intro hb;exact .l8 r off u
 |cu r off b u h=>intro hb;exact .cu r off b u (by rw [hD r (by simpa [Ab.below,Nat.blt_eq]using hb)];exact h)
 |e8 b off x val hm Z h=>intro _;exact .e8 b off x val hm Z h
 |full b k n get h=>intro _;exact .full b k n get h
 |fn f vs cs hn _ aJ=>intro hb;exact .fn f vs cs hn λi v c av hc=>aJ i v c av hc (tE (by simpa [Ab.below]using hb) hc)
 |agg vs cs hn Z _ aJ=>intro hb;exact .agg vs cs hn Z λi v c av hc=>aJ i v c av hc (tE (by simpa [Ab.below]using hb) hc)
 |cn vs cs hn _ aJ=>intro hb;exact .cn vs cs hn λi v c av hc=>aJ i v c av hc (tE (by simpa [Ab.below]using hb) hc)
def x'{f:Nat→Option Nat}:∀{l cI:List D},lx f l=some cI→l.length=cI.length∧∀(i:Nat) d,l[i]? = some d→∃dL,cI[i]? = some dL∧eD f d=some dL
 |[],cI,h=>by simp [lx]at h;subst h;simp
 |d::l,cI,h=>by
  simp only [lx]at h;split at h<;>simp at h
  rename_i dL hL hd aa;subst h;obtain⟨Z,ab⟩:=x' aa;refine⟨by simp [Z],λi x hx=>?_⟩
  cases i with
  |zero=>simp at hx;subst hx;exact⟨dL,by simp,hd⟩
  |succ i=>simp at hx;simpa using ab i x hx
def cw.eD{M:Mem}{β β':Nat→Option Nat}{f:Nat→Option Nat}(hD:∀r s b,f r=some s→β r=some b→β' s=some b){v:Value}{d:D}(h:cw M β v d):
 ∀{dL},eD f d=some dL→cw M β' v dL:=by
 induction h with
 |v u x h=>intro dL hd;simp [Ab.eD]at hd;subst hd;exact .v u x h
 |ptr r off b h=>
  intro dL hd;simp only [Ab.eD,Option.map_eq_some_iff]at hd;obtain⟨s,hs,rfl⟩:=hd;exact .ptr s off b (hD r s b hs h)
 |l8 r off u=>
  intro dL hd;simp only [Ab.eD,Option.map_eq_some_iff]at hd;obtain⟨s,hs,rfl⟩:=hd;exact .l8 s off u
 |cu r off b u h=>
  intro dL hd;simp only [Ab.eD,Option.map_eq_some_iff]at hd;obtain⟨s,hs,rfl⟩:=hd;exact .cu s off b u (hD r s b hs h)
 |e8 b off x val hm Z h=>intro dL hd;simp [Ab.eD]at hd;subst hd;exact .e8 b off x val hm Z h
 |full b k n get h=>intro dL hd;simp [Ab.eD]at hd;subst hd;exact .full b k n get h
 |fn f vs cs hn _ aJ=>
  intro dL hd;simp only [Ab.eD,Option.map_eq_some_iff]at hd;obtain⟨cs',ei,rfl⟩:=hd;obtain⟨Z,ab⟩:=x' ei;refine .fn f vs cs' (by omega) λi v c av hc=>?_
  have hi:i<cs.length:=by have:=(List.getElem?_eq_some_iff.1 hc).1;omega
  obtain⟨d1,gI,ai⟩:=ab i cs[i] (List.getElem?_eq_getElem hi);rw [hc]at gI;cases gI;exact aJ i v _ av (List.getElem?_eq_getElem hi) ai
 |agg vs cs hn Z _ aJ=>
  intro dL hd;simp only [Ab.eD,Option.map_eq_some_iff]at hd;obtain⟨cs',ei,rfl⟩:=hd;obtain⟨h0,ab⟩:=x' ei;refine .agg vs cs' (by omega) Z λi v c av hc=>?_
  have hi:i<cs.length:=by have:=(List.getElem?_eq_some_iff.1 hc).1;omega
  obtain⟨d1,gI,ai⟩:=ab i cs[i] (List.getElem?_eq_getElem hi);rw [hc]at gI;cases gI;exact aJ i v _ av (List.getElem?_eq_getElem hi) ai
 |cn vs cs hn _ aJ=>
  intro dL hd;simp only [Ab.eD,Option.map_eq_some_iff]at hd;obtain⟨cs',ei,rfl⟩:=hd;obtain⟨Z,ab⟩:=x' ei;refine .cn vs cs' (by omega) λi v c av hc=>?_
  have hi:i<cs.length:=by have:=(List.getElem?_eq_some_iff.1 hc).1;omega
  obtain⟨d1,gI,ai⟩:=ab i cs[i] (List.getElem?_eq_getElem hi);rw [hc]at gI;cases gI;exact aJ i v _ av (List.getElem?_eq_getElem hi) ai
def cw.M3{M:Mem}{β β':Nat→Option Nat}(hD:∀r b,β r=some b→β' r=some b){v:Value}{d:D}(h:cw M β v d):cw M β' v d:=by
 induction h with
 |v u x h=>exact .v u x h
 |ptr r off b h=>exact .ptr r off b (hD r b h)
 |l8 r off u=>exact .l8 r off u
 |cu r off b u h=>exact .cu r off b u (hD r b h)
 |e8 b off x val hm Z h=>exact .e8 b off x val hm Z h
 |full b k n get h=>exact .full b k n get h
 |fn f vs cs hn _ aJ=>exact .fn f vs cs hn aJ
 |agg vs cs hn Z _ aJ=>exact .agg vs cs hn Z aJ
 |cn vs cs hn _ aJ=>exact .cn vs cs hn aJ
def cw.af_{M:Mem}{β β':Nat→Option Nat}{n:Nat}(hD:∀r,r<n→∀b,β r=some b→β' r=some b){v:Value}{d:D}(h:cw M β v d):Ab.below n d=true→cw M β' v d:=by
 induction h with
 |v u x h=>intro _;exact .v u x h
 |ptr r off b h=>intro hb;exact .ptr r off b (hD r (by simpa [Ab.below,Nat.blt_eq]using hb) b h)
 |l8 r off u=>intro hb;exact .l8 r off u
 |cu r off b u h=>intro hb;exact .cu r off b u (hD r (by simpa [Ab.below,Nat.blt_eq]using hb) b h)
 |e8 b off x val hm Z h=>intro _;exact .e8 b off x val hm Z h
 |full b k n get h=>intro _;exact .full b k n get h
 |fn f vs cs hn _ aJ=>intro hb;exact .fn f vs cs hn λi v c av hc=>aJ i v c av hc (tE (by simpa [Ab.below]using hb) hc)
 |agg vs cs hn Z _ aJ=>intro hb;exact .agg vs cs hn Z λi v c av hc=>aJ i v c av hc (tE (by simpa [Ab.below]using hb) hc)
 |cn vs cs hn _ aJ=>intro hb;exact .cn vs cs hn λi v c av hc=>aJ i v c av hc (tE (by simpa [Ab.below]using hb) hc)
structure Ctx where
 vl:Mem
 F:Nat→Option Obj
 jO:Nat→Option Nat
 hY:Os×Array (Nat×ByteArray)
 ds:List Deferred:=[]
inductive Loc where
 |slot (s:Nat)
 |cell (r i:Nat)
deriving DecidableEq
def aI.at(st:aI):Loc→Option aW
 |.slot s=>look st.env s
 |.cell r i=>(look st.H r).bind (·[i]?)
def ce(tmps:Array Value)(w:World)(β:Nat→Option Nat):Loc→Value
 |.slot s=>tmps.getD s undef
 |.cell r i=>match β r with
  |some b=>(w.cell? ⟨b,i,none⟩).getD undef
  |none=>undef
def kh:Value→Option Nat
 |.slice (some a) _ _=>some a.block
 |_=>none
def l9(P:Program)(F:Nat→Option Obj)(M:Mem)(w:World)(T:TypeId)(v:Value):Prop:=
 v = .slice none 0 0∨∃b n cap vs T',v = .slice (some ⟨b,0,none⟩) n cap∧n≤cap∧w.heap[b]? = some (.cells ⟨vs⟩ T' (0,0))∧cap*P.cellsOf T≤vs.length∧
  (∀o,n*P.cellsOf T≤o→M b o=none)∧F b=none∧T'=T
def ki(P:Program)(F:Nat→Option Obj)(M:Mem)(w:World)(T:TypeId):Value→Prop
 |.agg cs=>(∀x,x∈marks T→l9 P F M w x.2 (cs.getD x.1 undef))∧∀x,x∈marks T→∀y,y∈marks T→x.1≠y.1→∀b,kh (cs.getD x.1 undef)=some b→kh (cs.getD y.1 undef)≠some b
 |v=>l9 P F M w T v
def jg(T:TypeId):Value→Nat→Prop
 |.agg cs,b=>∃x,x∈marks T∧kh (cs.getD x.1 undef)=some b
 |v,b=>kh v=some b
def M4 (P : Program) : List Nat := ["strconv.ErrSyntax", "strconv.ErrRange"].filterMap P.globalNamed
def M5:Array Value:=((List.range 20).map λi=>Value.int .u64 ((10 ^ i:Nat):Int)).toArray
def tF(P:Program)(F:Nat→Option Obj):Prop:=
 (∀g,g∈M4 P→∃cs t k1 fR,F g=some (.cells cs t k1)∧cs[0]? = some fR∧(fR = .nilIface∨∃co sj,fR = .iface co sj))∧
 ∀ g, P.globalNamed "internal/strconv.uint64pow10" = some g → ∃ t k1, F g = some (.cells M5 t k1)
def tF.mono{P:Program}{F tG:Nat→Option Obj}(h:tF P F)(dF:∀b a',F b=some a'→tG b=some a'):tF P tG:=⟨λg hg=>by
 obtain⟨cs,t,k1,fR,Z,ab,aj⟩:=h.1 g hg;exact⟨cs,t,k1,fR,dF _ _ Z,ab,aj⟩,λg hg=>by
 obtain⟨t,k1,Z⟩:=h.2 g hg;exact⟨t,k1,dF _ _ Z⟩⟩
def lz(P:Program)(T:TypeId)(n:Nat)(cs:List aW):Prop:=∀e,e∈cs→∀r off u,e.d = .cu r off u→liesAt P P.depth T (n / P.cellsOf T) off u 1=true
def aga(P:Program)(T:TypeId)(vs:List Value)(cs:List aW):Prop:=(∀v,v∈vs→v.oneCell'=true)∧lz P T vs.length cs
def lz.sub{P:Program}{T:TypeId}{n:Nat}{cs cs':List aW}(h:lz P T n cs)(hs:∀e,e∈cs'→∃bG,bG∈cs∧bG.d=e.d):lz P T n cs':=λe he r off u hd=>by
 obtain⟨bG,Z,ab⟩:=hs e he;exact h bG Z r off u (ab.trans hd)
structure bL(P:Program)(K:Ctx)(M:Mem)(β:Nat→Option Nat)(st:aI)(tmps:Array Value)(w:World):Prop where
 e5:∀l e,st.at l=some e→cw M β (ce tmps w β l) e.d
 own:∀l e T,st.at l=some e→e.own=some T→ki P K.F M w T (ce tmps w β l)
 uniq:∀l cI e aZ T T' b,st.at l=some e→e.own=some T→st.at cI=some aZ→aZ.own=some T'→
  jg T (ce tmps w β l) b→jg T' (ce tmps w β cI) b→l=cI
 unbox:∀l e T b r cs,st.at l=some e→e.own=some T→jg T (ce tmps w β l) b→look st.H r=some cs→β r≠some b
 box:∀r cs,look st.H r=some cs→∃b vs T,β r=some b∧w.heap[b]? = some (.cells ⟨vs⟩ T (0,0))∧vs.length=cs.length∧(∀o,M b o=none)∧K.F b=none∧aga P T vs cs
 inj:∀r cJ b cs cs',look st.H r=some cs→look st.H cJ=some cs'→β r=some b→β cJ=some b→r=cJ
 lt:∀r b,β r=some b→r<st.aY
 mem:∀b o v,M b o=some v→w.cell? ⟨b,o,none⟩=some v
 m0:K.vl.le M
 frame:∀b a',K.F b=some a'→w.heap[b]? = some a'∧∀o,M b o=K.vl b o
 iC:∀r b,K.jO r=some b→β r=some b
 jh:tF P K.F
 hY:(w.os,w.output)=K.hY
def aI.M6{st:aI}{r i:Nat}{cs:List aW}(h:look st.H r=some cs):st.at (.cell r i)=cs[i]? := by simp [aI.at,h]
def B1:∀{l:List D},sf l=true→∀d,d∈l→∀r off u,d ≠ .cu r off u
 |[],h,d,hd=>by cases hd
 |x::l,h,d,hd=>by
  have ab:sf l=true:=by cases x<;>first|exact h|cases h
  rcases List.mem_cons.1 hd with rfl|kC
  ·intro r off u e;subst e;cases h
  ·exact B1 ab d kC
def lz.M7{P:Program}{T:TypeId}{n r:Nat}{st b9:aI}{cs cs':List aW}(h:lz P T n cs)(Z:look st.H r=some cs)(ab:look b9.H r=some cs')
 (he:∀l aZ,b9.at l=some aZ→∃e,st.at l=some e∧(e.d=aZ.d∨∀q off u,aZ.d ≠ .cu q off u)):lz P T n cs':=λe hm q off u hd=>by
 obtain⟨i,hi,rfl⟩:=List.getElem_of_mem hm;obtain⟨bG,g1,g2⟩:=he (.cell r i) cs'[i] (by rw [aI.M6 ab];exact List.getElem?_eq_getElem hi)
 rw [aI.M6 Z]at g1;rcases g2 with g2|g2
 ·exact h bG (List.mem_of_getElem? g1) q off u (g2.trans hd)
 ·exact absurd hd (g2 q off u)
def dy{α:Type}(j:Nat)(x:α)(l:List (Nat×α))(i:Nat):look ((j,x)::l) i=if j=i then some x else look l i:=by
 by_cases h:j=i
 ·simp [look,h]
 ·have:Nat.beq j i=false:=by rw [Bool.eq_false_iff];simpa using h
  simp [look,h,this]
def qR{α:Type}(l:List (Nat×α))(t i:Nat):look (del l t) i=if t=i then none else look l i:=by
 induction l with
 |nil=>simp [del,look]
 |cons x l aJ=>
  obtain⟨j,x⟩:=x;by_cases h:j=t
  ·subst h;have:Nat.beq j j=true:=by simp
   simp only [del,this,cond_true,aJ,dy];by_cases ab:j=i<;>simp [ab]
  ·have cS:Nat.beq j t=false:=by rw [Bool.eq_false_iff];simpa using h
   simp only [del,cS,cond_false,dy,aJ];by_cases ab:j=i
   ·subst ab;simp [Ne.symm h]
   ·simp [ab]
def cell_of_heap{w:World}{b o:Nat}{vs:List Value}{T:TypeId}{oX:Nat×Nat}(h:w.heap[b]? = some (.cells ⟨vs⟩ T oX)):w.cell? ⟨b,o,none⟩=vs[o]? := by
 simp [World.cell?,h]
def lt_of_heap{w:World}{b:Nat}{a':Obj}(h:w.heap[b]? = some a'):b<w.heap.size:=by
 rcases Nat.lt_or_ge b w.heap.size with cS|cS
 ·exact cS
 ·simp [Array.getElem?_eq_none cS]at h
def lt_of_cell{w:World}{b o:Nat}{v:Value}(h:w.cell? ⟨b,o,none⟩=some v):b<w.heap.size:=by
 unfold World.cell? at h;split at h
 ·rename_i bm;exact lt_of_heap bm
 ·cases h
def sk{w w':World}{b o:Nat}(h:w'.heap[b]? = w.heap[b]?):w'.cell? ⟨b,o,none⟩=w.cell? ⟨b,o,none⟩:=by
 simp [World.cell?,h]
section
variable {P:Program} {K:Ctx} {M M':Mem} {β β':Nat→Option Nat} {st b9:aI} {tmps en:Array Value} {w w':World}
def l9.lt{F:Nat→Option Obj}{T:TypeId}{v:Value}{b:Nat}(h:l9 P F M w T v)(hb:kh v=some b):b<w.heap.size:=by
 rcases h with rfl|⟨bJ,n,cap,vs,T',rfl,_,bm,_⟩
 ·simp [kh]at hb
 ·simp [kh]at hb;subst hb;exact lt_of_heap bm
def l9.free{F:Nat→Option Obj}{T:TypeId}{v:Value}{b:Nat}(h:l9 P F M w T v)(hb:kh v=some b):F b=none:=by
 rcases h with rfl|⟨bJ,n,cap,vs,T',rfl,_,bm,_,_,dF,_⟩
 ·simp [kh]at hb
 ·simp [kh]at hb;subst hb;exact dF
def l9.congr{F:Nat→Option Obj}{T:TypeId}{v:Value}(h:l9 P F M w T v)(hw:∀b,kh v=some b→w'.heap[b]? = w.heap[b]?)(cX:∀b o,kh v=some b→M' b o=M b o):
 l9 P F M' w' T v:=by
 rcases h with rfl|⟨bJ,n,cap,vs,T',rfl,Z,bm,ab,aj,dF⟩
 ·exact .inl rfl
 ·exact .inr ⟨bJ,n,cap,vs,T',rfl,Z,(hw bJ rfl).trans bm,ab,λo aw=>(cX bJ o rfl).trans (aj o aw),dF⟩
def l9.at{F:Nat→Option Obj}{T:TypeId}{v:Value}(h:l9 P F M w T v):ki P F M w T v:=by
 rcases h with rfl|⟨bJ,n,cap,vs,T',rfl,Z,bm,ab,aj,dF⟩
 ·exact .inl rfl
 ·exact .inr ⟨bJ,n,cap,vs,T',rfl,Z,bm,ab,aj,dF⟩
def l9.x_{F tG:Nat→Option Obj}{T:TypeId}{v:Value}(h:l9 P F M w T v)(dF:∀b,kh v=some b→F b=none→tG b=none):l9 P tG M w T v:=by
 rcases h with rfl|⟨bJ,n,cap,vs,T',rfl,Z,bm,ab,aj,aD,aX⟩
 ·exact .inl rfl
 ·exact .inr ⟨bJ,n,cap,vs,T',rfl,Z,bm,ab,aj,dF bJ rfl aD,aX⟩
def ki.cases{F:Nat→Option Obj}{T:TypeId}{v:Value}(h:ki P F M w T v):
 (∃cs,v = .agg cs)∨(l9 P F M w T v∧∀b,jg T v b↔kh v=some b):=by
 cases v<;>first
  |exact .inl ⟨_,rfl⟩
  |exact .inr ⟨h,λ_=>Iff.rfl⟩
def ki.lt{F:Nat→Option Obj}{T:TypeId}{v:Value}{b:Nat}(h:ki P F M w T v)(hb:jg T v b):b<w.heap.size:=by
 rcases h.cases with⟨cs,rfl⟩|⟨Z,ab⟩
 ·obtain⟨x,hx,hb⟩:=hb;exact(h.1 x hx).lt hb
 ·exact Z.lt ((ab b).1 hb)
def ki.free{F:Nat→Option Obj}{T:TypeId}{v:Value}{b:Nat}(h:ki P F M w T v)(hb:jg T v b):F b=none:=by
 rcases h.cases with⟨cs,rfl⟩|⟨Z,ab⟩
 ·obtain⟨x,hx,hb⟩:=hb;exact(h.1 x hx).free hb
 ·exact Z.free ((ab b).1 hb)
def ki.congr{F:Nat→Option Obj}{T:TypeId}{v:Value}(h:ki P F M w T v)(hw:∀b,jg T v b→w'.heap[b]? = w.heap[b]?)(cX:∀b o,jg T v b→M' b o=M b o):
 ki P F M' w' T v:=by
 rcases h.cases with⟨cs,rfl⟩|⟨Z,ab⟩
 ·exact⟨λx hx=>(h.1 x hx).congr (λb hb=>hw b ⟨x,hx,hb⟩) (λb o hb=>cX b o ⟨x,hx,hb⟩),h.2⟩
 ·exact(Z.congr (λb hb=>hw b ((ab b).2 hb)) (λb o hb=>cX b o ((ab b).2 hb))).at
def ki.x_{F tG:Nat→Option Obj}{T:TypeId}{v:Value}(h:ki P F M w T v)(dF:∀b,jg T v b→F b=none→tG b=none):ki P tG M w T v:=by
 rcases h.cases with⟨cs,rfl⟩|⟨Z,ab⟩
 ·exact⟨λx hx=>(h.1 x hx).x_ λb hb=>dF b ⟨x,hx,hb⟩,h.2⟩
 ·exact(Z.x_ λb hb=>dF b ((ab b).2 hb)).at
def ki.bM{F:Nat→Option Obj}{T:TypeId}{v:Value}{vl:Mem}{k n:Nat}{get:Nat→V}(h:ki P F M w T v){jO:Nat→Option Nat}(av:cw vl jO v (.v (.bM k n get))):l9 P F M w T v:=by
 cases av with|v _ _ av=>cases av<;>exact h
def M8(h:bL P K M β st tmps w){r i:Nat}{cs:List aW}{e:aW}(ai:look st.H r=some cs)(hi:cs[i]? = some e):
 ∃b vs T v,β r=some b∧w.heap[b]? = some (.cells ⟨vs⟩ T (0,0))∧vs[i]? = some v∧ce tmps w β (.cell r i)=v:=by
 obtain⟨b,vs,T,hb,bm,aa,_⟩:=h.box r cs ai;have M9:i<cs.length:=(List.getElem?_eq_some_iff.1 hi).1;have av:vs[i]? = some vs[i]:=List.getElem?_eq_getElem (by omega)
 exact⟨b,vs,T,_,hb,bm,av,by simp only [ce,hb,cell_of_heap bm,av,Option.getD_some]⟩
def bL.B2(h:bL P K M β st tmps w){r b:Nat}{cs:List aW}(ai:look st.H r=some cs)(hb:β r=some b):b<w.heap.size:=by
 obtain⟨bJ,vs,T,bQ,bm,_⟩:=h.box r cs ai;rw [hb]at bQ;cases bQ;exact lt_of_heap bm
def bL.free(h:bL P K M β st tmps w)(b:Nat)(dF:K.F b=none)(vm:∀r cs,look st.H r=some cs→β r≠some b)
 (f0:∀l e T,st.at l=some e→e.own=some T→¬ jg T (ce tmps w β l) b)
 (hw:∀bJ,bJ≠b→bJ<w.heap.size→w'.heap[bJ]? = w.heap[bJ]?) (cX:M.le M') (Gg:∀bJ o,bJ≠b→M' bJ o=M bJ o)
 (Gh:∀o v,M' b o=some v→w'.cell? ⟨b,o,none⟩=some v) (oY:(w'.os,w'.output)=(w.os,w.output):=by rfl):bL P K M' β st tmps w':=by
 have ci:∀l e,st.at l=some e→ce tmps w' β l=ce tmps w β l:=by
  intro l e aa;cases l with
  |slot s=>rfl
  |cell r i=>
   simp only [aI.at]at aa;cases ai:look st.H r with
   |none=>simp [ai]at aa
   |some cs=>
    obtain⟨cb,vs,T,cy,bm,_⟩:=h.box r cs ai;have dk:cb≠b:=λe=>vm r cs ai (e ▸ cy)
    simp only [ce,cy];rw [sk (hw cb dk (lt_of_heap bm))]
 constructor
 ·intro l e aa;rw [ci l e aa];exact(h.e5 l e aa).mono cX
 ·intro l e T aa aC;rw [ci l e aa];refine(h.own l e T aa aC).congr (λcb cy=>hw cb ?_ ((h.own l e T aa aC).lt cy)) (λcb o cy=>Gg cb o ?_) <;>
  ·rintro rfl;exact f0 l e T aa aC cy
 ·intro l cI e aZ T T' cb aa aC cN ec hb bQ;rw [ci l e aa]at hb;rw [ci cI aZ cN]at bQ;exact h.uniq l cI e aZ T T' cb aa aC cN ec hb bQ
 ·intro l e T cb r cs aa aC hb ai;rw [ci l e aa]at hb;exact h.unbox l e T cb r cs aa aC hb ai
 ·intro r cs ai;obtain⟨cb,vs,T,cy,bm,Z,ab,aj⟩:=h.box r cs ai;have dk:cb≠b:=λe=>vm r cs ai (e ▸ cy)
  exact⟨cb,vs,T,cy,(hw cb dk (lt_of_heap bm)).trans bm,Z,λo=>(Gg cb o dk).trans (ab o),aj⟩
 ·exact h.inj
 ·exact h.lt
 ·intro cb o v av;by_cases dk:cb=b
  ·subst dk;exact Gh o v av
  ·rw [Gg cb o dk]at av;have:=h.mem cb o v av
   rw [sk (hw cb dk (lt_of_cell this))];exact this
 ·exact Mem.le_trans h.m0 cX
 ·intro cb a' cy;have dk:cb≠b:=by rintro rfl;rw [dF]at cy;cases cy
  obtain⟨Z,ab⟩:=h.frame cb a' cy;exact⟨(hw cb dk (lt_of_heap Z)).trans Z,λo=>(Gg cb o dk).trans (ab o)⟩
 ·exact h.iC
 ·exact h.jh
 ·exact oY.trans h.hY
def bL.grow(h:bL P K M β st tmps w)(hw:∀b,b<w.heap.size→w'.heap[b]? = w.heap[b]?)(oY:(w'.os,w'.output)=(w.os,w.output):=by rfl):bL P K M β st tmps w':=by
 have hn:∀b,w.heap.size≤b→K.F b=none:=by
  intro b hb;cases dF:K.F b with
  |none=>rfl
  |some a'=>have:=lt_of_heap (h.frame b a' dF).1;omega
 refine h.free w.heap.size (hn _ (Nat.le_refl _)) ?_ ?_ (λb _ hb=>hw b hb) (Mem.le_refl _) (λ_ _ _=>rfl) ?_ oY
 ·intro r cs ai hb;have:=h.B2 ai hb;omega
 ·intro l e T aa aC hb;have:=(h.own l e T aa aC).lt hb;omega
 ·intro o v av;have:=lt_of_cell (h.mem _ _ _ av);omega
def bL.sub(h:bL P K M β st tmps w)(hn:b9.aY=st.aY)
 (he:∀l aZ,b9.at l=some aZ→∃e,st.at l=some e∧e.d=aZ.d∧∀T,aZ.own=some T→e.own=some T)
 (eL:∀r cs',look b9.H r=some cs'→∃cs,look st.H r=some cs∧cs.length=cs'.length):bL P K M β b9 tmps w:=by
 constructor
 ·intro l aZ aa;obtain⟨e,Z,ab,_⟩:=he l aZ aa;rw [←ab];exact h.e5 l e Z
 ·intro l aZ T aa aC;obtain⟨e,Z,_,aj⟩:=he l aZ aa;exact h.own l e T Z (aj T aC)
 ·intro l cI e aZ T T' b aa aC cN ec;obtain⟨e1,Z,_,aj⟩:=he l e aa;obtain⟨e2,lA,_,ya⟩:=he cI aZ cN;exact h.uniq l cI e1 e2 T T' b Z (aj T aC) lA (ya T' ec)
 ·intro l e T b r cs aa aC hb ai;obtain⟨e1,Z,_,aj⟩:=he l e aa;obtain⟨vn,hE,_⟩:=eL r cs ai;exact h.unbox l e1 T b r vn Z (aj T aC) hb hE
 ·intro r cs ai;obtain⟨vn,hE,hlen⟩:=eL r cs ai;obtain⟨b,vs,T,Z,ab,aj,aD,aX,bW,cZ⟩:=h.box r vn hE
  exact⟨b,vs,T,Z,ab,aj.trans hlen,aD,aX,bW,cZ.M7 hE ai λl aZ aa=>by
   obtain⟨e,g1,g2,_⟩:=he l aZ aa;exact⟨e,g1,.inl g2⟩⟩
 ·intro r cJ b cs cs' ai fe hb bQ;obtain⟨c1,Z,_⟩:=eL r cs ai;obtain⟨c2,ab,_⟩:=eL cJ cs' fe;exact h.inj r cJ b c1 c2 Z ab hb bQ
 ·intro r b hb;rw [hn];exact h.lt r b hb
 ·exact h.mem
 ·exact h.m0
 ·exact h.frame
 ·exact h.iC
 ·exact h.jh
 ·exact h.hY
def bL.agb(h:bL P K M β st tmps w)(hn:b9.aY=st.aY)
 (he:∀l aZ,b9.at l=some aZ→∃e,st.at l=some e∧((e.d=aZ.d∧∀T,aZ.own=some T→e.own=some T)∨∃k g,e.d = .v (.oS k g)∧aZ.d = .v (.bM k 0 g)))
 (eL:∀r cs',look b9.H r=some cs'→∃cs,look st.H r=some cs∧cs.length=cs'.length):bL P K M β b9 tmps w:=by
 have pR:∀l e k g,st.at l=some e→e.d = .v (.oS k g)→ce tmps w β l = .slice none 0 0:=by
  intro l e k g aa hd;have:=h.e5 l e aa
  rw [hd]at this;generalize ce tmps w β l=u at this ⊢
  cases this with
  |v u x hx=>cases hx;rfl
 constructor
 ·intro l aZ aa;obtain⟨e,Z,⟨ab,_⟩|⟨k,g,ab,aj⟩⟩:=he l aZ aa
  ·rw [←ab];exact h.e5 l e Z
  ·rw [aj,pR l e k g Z ab];exact .v _ _ (.l7 k g)
 ·intro l aZ T aa aC;obtain⟨e,Z,⟨_,aj⟩|⟨k,g,ab,aj⟩⟩:=he l aZ aa
  ·exact h.own l e T Z (aj T aC)
  ·rw [pR l e k g Z ab];exact .inl rfl
 ·intro l cI e aZ T T' b aa aC cN ec hb bQ;obtain⟨e1,Z,⟨_,aj⟩|⟨k,g,ab,aj⟩⟩:=he l e aa
  ·obtain⟨e2,lA,⟨_,ya⟩|⟨k,g,agc,ya⟩⟩:=he cI aZ cN
   ·exact h.uniq l cI e1 e2 T T' b Z (aj T aC) lA (ya T' ec) hb bQ
   ·rw [pR cI e2 k g lA agc]at bQ;cases bQ
  ·rw [pR l e1 k g Z ab]at hb;cases hb
 ·intro l e T b r cs aa aC hb ai;obtain⟨vn,hE,_⟩:=eL r cs ai;obtain⟨e1,Z,⟨_,aj⟩|⟨k,g,ab,aj⟩⟩:=he l e aa
  ·exact h.unbox l e1 T b r vn Z (aj T aC) hb hE
  ·rw [pR l e1 k g Z ab]at hb;cases hb
 ·intro r cs ai;obtain⟨vn,hE,hlen⟩:=eL r cs ai;obtain⟨b,vs,T,Z,ab,aj,aD,aX,bW,cZ⟩:=h.box r vn hE
  exact⟨b,vs,T,Z,ab,aj.trans hlen,aD,aX,bW,cZ.M7 hE ai λl aZ aa=>by
   obtain⟨e,g1,⟨g2,_⟩|⟨k,g,_,g3⟩⟩:=he l aZ aa
   ·exact⟨e,g1,.inl g2⟩
   ·exact⟨e,g1,.inr λq off u au=>by rw [g3]at au;cases au⟩⟩
 ·intro r cJ b cs cs' ai fe hb bQ;obtain⟨c1,Z,_⟩:=eL r cs ai;obtain⟨c2,ab,_⟩:=eL cJ cs' fe;exact h.inj r cJ b c1 c2 Z ab hb bQ
 ·intro r b hb;rw [hn];exact h.lt r b hb
 ·exact h.mem
 ·exact h.m0
 ·exact h.frame
 ·exact h.iC
 ·exact h.jh
 ·exact h.hY
structure mY(P:Program)(K:Ctx)(M:Mem)(β:Nat→Option Nat)(st:aI)(tmps:Array Value)(w:World)(l0:Loc)(v:Value)(T:TypeId):Prop where
 own:ki P K.F M w T v
 apart:∀l e T' b,st.at l=some e→e.own=some T'→l≠l0→jg T v b→¬ jg T' (ce tmps w β l) b
 unbox:∀b r cs,jg T v b→look st.H r=some cs→β r≠some b
def bL.put(h:bL P K M β st tmps w){t:Nat}{v:Value}{e:aW}(aF:t<tmps.size)(av:cw M β v e.d)
 (aw:∀T,e.own=some T→mY P K M β st tmps w (.slot t) v T):
 bL P K M β {st with env:=(t,e)::st.env} (tmps.setIfInBounds t v) w:=by
 have fr:∀l,({st with env:=(t,e)::st.env}:aI).at l=if l = .slot t then some e else st.at l:=by
  intro l;cases l with
  |slot s=>
   simp only [aI.at,dy,Loc.slot.injEq];by_cases hs:t=s
   ·subst hs;simp
   ·simp [hs,Ne.symm hs]
  |cell r i=>simp [aI.at]
 have ci:∀l,ce (tmps.setIfInBounds t v) w β l=if l = .slot t then v else ce tmps w β l:=by
  intro l;cases l with
  |slot s=>
   simp only [ce,Loc.slot.injEq];by_cases hs:s=t
   ·subst hs;simp [aF]
   ·simp [hs,Ne.symm hs]
  |cell r i=>simp [ce]
 constructor
 ·intro l e1 aa;rw [fr]at aa;rw [ci];by_cases h0:l = .slot t
  ·simp only [h0,if_true]at aa ⊢;cases aa;exact av
  ·simp only [h0,if_false]at aa ⊢;exact h.e5 l e1 aa
 ·intro l e1 T aa aC;rw [fr]at aa;rw [ci];by_cases h0:l = .slot t
  ·simp only [h0,if_true]at aa ⊢;cases aa;exact(aw T aC).own
  ·simp only [h0,if_false]at aa ⊢;exact h.own l e1 T aa aC
 ·intro l cI e1 e2 T T' b aa aC cN ec hb bQ;rw [fr]at aa cN;rw [ci]at hb bQ;by_cases h0:l = .slot t<;>by_cases tH:cI = .slot t
  ·rw [h0,tH]
  ·simp only [h0,tH,if_true,if_false]at aa cN hb bQ;cases aa;exact absurd bQ ((aw T aC).apart cI e2 T' b cN ec tH hb)
  ·simp only [h0,tH,if_true,if_false]at aa cN hb bQ;cases cN;exact absurd hb ((aw T' ec).apart l e1 T b aa aC h0 bQ)
  ·simp only [h0,tH,if_false]at aa cN hb bQ;exact h.uniq l cI e1 e2 T T' b aa aC cN ec hb bQ
 ·intro l e1 T b r cs aa aC hb ai;rw [fr]at aa;rw [ci]at hb;by_cases h0:l = .slot t
  ·simp only [h0,if_true]at aa hb;cases aa;exact(aw T aC).unbox b r cs hb ai
  ·simp only [h0,if_false]at aa hb;exact h.unbox l e1 T b r cs aa aC hb ai
 ·exact h.box
 ·exact h.inj
 ·exact h.lt
 ·exact h.mem
 ·exact h.m0
 ·exact h.frame
 ·exact h.iC
 ·exact h.jh
 ·exact h.hY
def bL.drop(h:bL P K M β st tmps w){t:Nat}{v:Value}:bL P K M β {st with env:=del st.env t} (tmps.setIfInBounds t v) w:=by
 have fr:∀l,({st with env:=del st.env t}:aI).at l=if l = .slot t then none else st.at l:=by
  intro l;cases l with
  |slot s=>
   simp only [aI.at,qR,Loc.slot.injEq];by_cases hs:t=s
   ·subst hs;simp
   ·simp [hs,Ne.symm hs]
  |cell r i=>simp [aI.at]
 have Z:bL P K M β {st with env:=del st.env t} tmps w:=by
  refine h.sub rfl (λl aZ aa=>?_) (λr cs ai=>⟨cs,ai,rfl⟩)
  rw [fr]at aa;by_cases h0:l = .slot t
  ·simp [h0]at aa
  ·simp only [h0,if_false]at aa;exact⟨aZ,aa,rfl,λ_ h=>h⟩
 have ci:∀l e,({st with env:=del st.env t}:aI).at l=some e→ce (tmps.setIfInBounds t v) w β l=ce tmps w β l:=by
  intro l e aa;cases l with
  |slot s=>
   have hs:t≠s:=by rintro rfl;simp [aI.at,qR]at aa
   simp [ce,hs]
  |cell r i=>rfl
 constructor
 ·intro l e aa;rw [ci l e aa];exact Z.e5 l e aa
 ·intro l e T aa aC;rw [ci l e aa];exact Z.own l e T aa aC
 ·intro l cI e aZ T T' b aa aC cN ec hb bQ;rw [ci l e aa]at hb;rw [ci cI aZ cN]at bQ;exact Z.uniq l cI e aZ T T' b aa aC cN ec hb bQ
 ·intro l e T b r cs aa aC hb ai;rw [ci l e aa]at hb;exact Z.unbox l e T b r cs aa aC hb ai
 ·exact Z.box
 ·exact Z.inj
 ·exact Z.lt
 ·exact Z.mem
 ·exact Z.m0
 ·exact Z.frame
 ·exact Z.iC
 ·exact Z.jh
 ·exact Z.hY
def bL.agd(h:bL P K M β st tmps w){dM n':Nat}(mq:∀b,β dM≠some b)(age:dM<n')(at9:st.aY≤n'){vs:List Value}{T:TypeId}{cs:List aW}(hlen:vs.length=cs.length)(gJ:∀v,v∈vs→v.oneCell'=true)(hlies:lz P T vs.length cs)
 (av:∀(i:Nat) v e,vs[i]? = some v→cs[i]? = some e→cw M β v e.d∧∀T,e.own=some T→v = .slice none 0 0):
 bL P K M (λr=>if r=dM then some w.heap.size else β r) {st with H:=(dM,cs)::st.H,aY:=n'} tmps {w with heap:=w.heap.push (.cells ⟨vs⟩ T (0,0))}:=by
 have Wu:∀r b,β r=some b→r≠dM:=λr b hb e=>mq b (e ▸ hb)
 have cy:∀r b,β r=some b→(λr=>if r=dM then some w.heap.size else β r) r=some b:=by
  intro r b hb;simp [Wu r b hb,hb]
 have f5:∀{v d},cw M β v d→cw M (λr=>if r=dM then some w.heap.size else β r) v d:=by
  intro v d hd;refine hd.M3 ?_;exact cy
 have hg:=h.grow (w':={w with heap:=w.heap.push (.cells ⟨vs⟩ T (0,0))}) (λb hb=>by simp [Array.getElem?_push,Nat.ne_of_lt hb])
 have hold:∀r cs,r≠dM→look ((dM,cs)::st.H) r=look st.H r:=λr cs dk=>by simp [dy,Ne.symm dk]
 have agf:∀r cs,look st.H r=some cs→r≠dM:=λr cs ai=>by obtain⟨b,_,_,hb,_⟩:=h.box r cs ai;exact Wu r b hb
 have ci:∀l e,st.at l=some e→ce tmps {w with heap:=w.heap.push (.cells ⟨vs⟩ T (0,0))} (λr=>if r=dM then some w.heap.size else β r) l=ce tmps {w with heap:=w.heap.push (.cells ⟨vs⟩ T (0,0))} β l:=by
  intro l e aa;cases l with
  |slot s=>rfl
  |cell r i=>
   simp only [aI.at]at aa;cases ai:look st.H r with
   |none=>simp [ai]at aa
   |some c=>simp [ce,agf r c ai]
 have Wv:∀i e,cs[i]? = some e→∃v,vs[i]? = some v∧ce tmps {w with heap:=w.heap.push (.cells ⟨vs⟩ T (0,0))} (λr=>if r=dM then some w.heap.size else β r) (.cell dM i)=v:=by
  intro i e hi;have M9:i<cs.length:=(List.getElem?_eq_some_iff.1 hi).1;have eG:vs[i]? = some vs[i]:=List.getElem?_eq_getElem (by omega)
  exact⟨_,eG,by simp [ce,World.cell?,hlen ▸ M9]⟩
 have fr:∀l e,({st with H:=(dM,cs)::st.H,aY:=n'}:aI).at l=some e→(∃i,l = .cell dM i∧cs[i]? = some e)∨(st.at l=some e∧∀i,l ≠ .cell dM i):=by
  intro l e aa;cases l with
  |slot s=>exact .inr ⟨aa,by simp⟩
  |cell r i=>
   by_cases ai:r=dM
   ·subst ai;simp [aI.at,dy]at aa;exact .inl ⟨i,rfl,aa⟩
   ·refine .inr ⟨?_,by simp [ai]⟩
    simpa [aI.at,dy,Ne.symm ai]using aa
 have kD:∀l e T',({st with H:=(dM,cs)::st.H,aY:=n'}:aI).at l=some e→e.own=some T'→(∃i,l = .cell dM i)→ce tmps {w with heap:=w.heap.push (.cells ⟨vs⟩ T (0,0))} (λr=>if r=dM then some w.heap.size else β r) l = .slice none 0 0:=by
  rintro l e T' aa aC ⟨i,rfl⟩
  have hi:cs[i]? = some e:=by simpa [aI.at,dy]using aa
  obtain⟨v,Z,ab⟩:=Wv i e hi;rw [ab];exact(av i v e Z hi).2 T' aC
 constructor
 ·intro l e aa;rcases fr l e aa with⟨i,rfl,hi⟩|⟨aw,_⟩
  ·obtain⟨v,Z,ab⟩:=Wv i e hi;rw [ab];exact f5 (av i v e Z hi).1
  ·rw [ci l e aw];exact f5 (hg.e5 l e aw)
 ·intro l e T' aa aC;rcases fr l e aa with⟨i,k2,hi⟩|⟨aw,_⟩
  ·rw [kD l e T' aa aC ⟨i,k2⟩];exact .inl rfl
  ·rw [ci l e aw];exact hg.own l e T' aw aC
 ·intro l cI e aZ hh pS b aa aC cN ec hb bQ;rcases fr l e aa with⟨i,k2,hi⟩|⟨aw,_⟩
  ·rw [kD l e hh aa aC ⟨i,k2⟩]at hb;cases hb
  ·rcases fr cI aZ cN with⟨i,k2,hi⟩|⟨k3,_⟩
   ·rw [kD cI aZ pS cN ec ⟨i,k2⟩]at bQ;cases bQ
   ·rw [ci l e aw]at hb;rw [ci cI aZ k3]at bQ;exact hg.uniq l cI e aZ hh pS b aw aC k3 ec hb bQ
 ·intro l e hh b r c aa aC hb ai;rcases fr l e aa with⟨i,k2,hi⟩|⟨aw,_⟩
  ·rw [kD l e hh aa aC ⟨i,k2⟩]at hb;cases hb
  ·rw [ci l e aw]at hb
   have cO:b<w.heap.size:=by
    have Z:=(h.own l e hh aw aC)
    have ab:ce tmps {w with heap:=w.heap.push (.cells ⟨vs⟩ T (0,0))} β l=ce tmps w β l:=by
     cases l with
     |slot s=>rfl
     |cell r i=>
      simp only [aI.at]at aw;cases ai:look st.H r with
      |none=>simp [ai]at aw
      |some c=>
       obtain⟨cb,oe,pS,eV,bm,_⟩:=h.box r c ai;simp only [ce,eV];rw [sk (w:=w) (by simp [Array.getElem?_push,Nat.ne_of_lt (lt_of_heap bm)])]
    rw [ab]at hb;exact Z.lt hb
   by_cases jP:r=dM
   ·subst jP;simp;omega
   ·simp [jP];exact hg.unbox l e hh b r c aw aC hb (by simpa [dy,Ne.symm jP]using ai)
 ·intro r c ai;by_cases jP:r=dM
  ·subst jP;simp [dy]at ai;subst ai;refine⟨w.heap.size,vs,T,by simp,by simp,hlen,λo=>?_,?_,gJ,hlies⟩
   ·cases hm:M w.heap.size o with
    |none=>rfl
    |some v=>have:=lt_of_cell (h.mem _ _ _ hm);omega
   ·cases dF:K.F w.heap.size with
    |none=>rfl
    |some a'=>have:=lt_of_heap (h.frame _ a' dF).1;omega
  ·obtain⟨b,oe,hh,Z,ab,aj⟩:=hg.box r c (by simpa [dy,Ne.symm jP]using ai)
   exact⟨b,oe,hh,by simp [jP,Z],ab,aj⟩
 ·intro r cJ b c hZ ai fe hb bQ;by_cases jP:r=dM<;>by_cases yb:cJ=dM
  ·rw [jP,yb]
  ·simp [jP]at hb;simp [yb]at bQ;have:=h.B2 (by simpa [dy,Ne.symm yb]using fe) bQ
   omega
  ·simp [yb]at bQ;simp [jP]at hb;have:=h.B2 (by simpa [dy,Ne.symm jP]using ai) hb
   omega
  ·simp [jP]at hb;simp [yb]at bQ;exact h.inj r cJ b c hZ (by simpa [dy,Ne.symm jP]using ai) (by simpa [dy,Ne.symm yb]using fe) hb bQ
 ·intro r b hb;by_cases jP:r=dM
  ·subst jP;exact age
  ·simp [jP]at hb;have:=h.lt r b hb;simp;omega
 ·exact hg.mem
 ·exact hg.m0
 ·exact hg.frame
 ·intro r b hb;exact cy r b (h.iC r b hb)
 ·exact hg.jh
 ·exact hg.hY
end
section
variable {P:Program} {K:Ctx} {M M':Mem} {β β':Nat→Option Nat} {st b9:aI} {tmps en:Array Value} {w w':World}
def bL.Gi(h:bL P K M β st tmps w){r b:Nat}{cs:List aW}(ai:look st.H r=some cs)(hb:β r=some b){vs vs':List Value}{T:TypeId}
 (bm:w.heap[b]? = some (.cells ⟨vs⟩ T (0,0))) {cs':List aW} (hlen:vs'.length=cs'.length) (gJ:∀v,v∈vs'→v.oneCell'=true) (hlies:lz P T vs.length cs→lz P T vs'.length cs') (ei:cs'.length=cs.length)
 (og:w'.heap[b]? = some (.cells ⟨vs'⟩ T (0,0))) (B3:∀bJ,bJ≠b→w'.heap[bJ]? = w.heap[bJ]?) (i0:Nat)
 (av:∀(i:Nat) v e,vs'[i]? = some v→cs'[i]? = some e→cw M β v e.d∧∀T,e.own=some T→
  (i≠i0∧(∃bG,cs[i]? = some bG∧bG.own=some T)∧vs[i]? = some v)∨(i=i0∧mY P K M β st tmps w (.cell r i0) v T)) (oY:(w'.os,w'.output)=(w.os,w.output):=by rfl):
 bL P K M β {st with H:=(r,cs')::st.H} tmps w':=by
 have Gj:K.F b=none∧∀o,M b o=none:=by
  obtain⟨cb,_,_,Z,_,_,ab,aj,_⟩:=h.box r cs ai;rw [hb]at Z;cases Z;exact⟨aj,ab⟩
 have agh:lz P T vs.length cs:=by
  obtain⟨cb,oe,hh,Z,ab,_,_,_,_,aj⟩:=h.box r cs ai;rw [hb]at Z;cases Z;rw [bm]at ab;cases ab;exact aj
 have iq:∀bJ,bJ≠b→∀o,w'.cell? ⟨bJ,o,none⟩=w.cell? ⟨bJ,o,none⟩:=λbJ dk o=>sk (B3 bJ dk)
 have dk:∀cJ c bJ,look st.H cJ=some c→β cJ=some bJ→cJ≠r→bJ≠b:=λcJ c bJ fe bQ dk e=>dk (h.inj cJ r bJ c cs fe ai bQ (e ▸ hb))
 have fr:∀l e,({st with H:=(r,cs')::st.H}:aI).at l=some e→(∃i v,l = .cell r i∧cs'[i]? = some e∧vs'[i]? = some v∧ce tmps w' β l=v)∨(st.at l=some e∧ce tmps w' β l=ce tmps w β l∧∀i,l ≠ .cell r i):=by
  intro l e aa;cases l with
  |slot s=>exact .inr ⟨aa,rfl,by simp⟩
  |cell cJ i=>
   by_cases hF:cJ=r
   ·subst hF;simp [aI.at,dy]at aa;have hi:i<cs'.length:=(List.getElem?_eq_some_iff.1 aa).1;have eG:vs'[i]? = some vs'[i]:=List.getElem?_eq_getElem (by omega)
    exact .inl ⟨i,_,rfl,aa,eG,by simp only [ce,hb,cell_of_heap og,eG,Option.getD_some]⟩
   ·have cN:st.at (.cell cJ i)=some e:=by simpa [aI.at,dy,Ne.symm hF]using aa
    refine .inr ⟨cN,?_,by simp [hF]⟩
    simp only [aI.at]at cN;cases fe:look st.H cJ with
    |none=>simp [fe]at cN
    |some c=>
     obtain⟨cb,_,_,cy,_⟩:=h.box cJ c fe;simp only [ce,cy];rw [iq cb (dk cJ c cb fe cy hF)]
 have f0:∀l e T,({st with H:=(r,cs')::st.H}:aI).at l=some e→e.own=some T→
  (l ≠ .cell r i0∧(∃bG,st.at l=some bG∧bG.own=some T)∧ce tmps w' β l=ce tmps w β l)∨(l = .cell r i0∧mY P K M β st tmps w (.cell r i0) (ce tmps w' β l) T):=by
  intro l e hh aa aC;rcases fr l e aa with⟨i,v,rfl,hi,eG,ci⟩|⟨aw,ci,iT⟩
  ·rcases(av i v e eG hi).2 hh aC with⟨agi,⟨bG,M_,k4⟩,hold⟩|⟨rfl,hn⟩
   ·refine .inl ⟨by simp [agi],⟨bG,by simp [aI.at,ai,M_],k4⟩,?_⟩
    rw [ci];simp only [ce,hb,cell_of_heap bm,hold,Option.getD_some]
   ·exact .inr ⟨rfl,by rw [ci];exact hn⟩
  ·exact .inl ⟨iT i0,⟨e,aw,aC⟩,ci⟩
 have eL:∀cJ c,look ((r,cs')::st.H) cJ=some c→∃hZ,look st.H cJ=some hZ:=by
  intro cJ c hc;by_cases hF:r=cJ
  ·exact⟨cs,hF ▸ ai⟩
  ·exact⟨c,by simpa [dy,hF]using hc⟩
 constructor
 ·intro l e aa;rcases fr l e aa with⟨i,v,rfl,hi,eG,ci⟩|⟨aw,ci,iT⟩
  ·rw [ci];exact(av i v e eG hi).1
  ·rw [ci];exact h.e5 l e aw
 ·intro l e hh aa aC;rcases f0 l e hh aa aC with⟨_,⟨bG,h0,k4⟩,ci⟩|⟨rfl,hn⟩
  ·rw [ci];refine(h.own l bG hh h0 k4).congr (λcb cy=>B3 cb ?_) (λ_ _ _=>rfl)
   rintro rfl
   exact h.unbox l bG hh cb r cs h0 k4 cy ai hb
  ·refine hn.own.congr (λcb cy=>B3 cb ?_) (λ_ _ _=>rfl)
   rintro rfl
   exact hn.unbox cb r cs cy ai hb
 ·intro l cI e aZ hh pS cb aa aC cN ec cy vo;rcases f0 l e hh aa aC with⟨hl0,⟨bG,h0,k4⟩,ci⟩|⟨rfl,hn⟩<;>rcases f0 cI aZ pS cN ec with⟨agj,⟨yc,tH,B4⟩,qS⟩|⟨rfl,Gk⟩
  ·rw [ci]at cy;rw [qS]at vo;exact h.uniq l cI bG yc hh pS cb h0 k4 tH B4 cy vo
  ·rw [ci]at cy;exact absurd cy (Gk.apart l bG hh cb h0 k4 hl0 vo)
  ·rw [qS]at vo;exact absurd vo (hn.apart cI yc pS cb tH B4 agj cy)
  ·rfl
 ·intro l e hh cb cJ c aa aC cy fe;obtain⟨hZ,kj⟩:=eL cJ c fe;rcases f0 l e hh aa aC with⟨_,⟨bG,h0,k4⟩,ci⟩|⟨rfl,hn⟩
  ·rw [ci]at cy;exact h.unbox l bG hh cb cJ hZ h0 k4 cy kj
  ·exact hn.unbox cb cJ hZ cy kj
 ·intro cJ c fe;by_cases hF:r=cJ
  ·subst hF;simp [dy]at fe;subst fe;exact⟨b,vs',T,hb,og,hlen,Gj.2,Gj.1,gJ,hlies agh⟩
  ·have ir:look st.H cJ=some c:=by simpa [dy,hF]using fe
   obtain⟨cb,oe,hh,Z,ab,aj⟩:=h.box cJ c ir;exact⟨cb,oe,hh,Z,(B3 cb (dk cJ c cb ir Z (Ne.symm hF))).trans ab,aj⟩
 ·intro r1 r2 cb c1 c2 hE ir cy eV;obtain⟨Ww,Z⟩:=eL r1 c1 hE;obtain⟨Wx,ab⟩:=eL r2 c2 ir;exact h.inj r1 r2 cb Ww Wx Z ab cy eV
 ·exact h.lt
 ·intro cb o v hm;by_cases qT:cb=b
  ·subst qT;rw [Gj.2 o]at hm;cases hm
  ·rw [iq cb qT];exact h.mem cb o v hm
 ·exact h.m0
 ·intro cb a' dF;have qT:cb≠b:=by rintro rfl;rw [Gj.1]at dF;cases dF
  obtain⟨Z,ab⟩:=h.frame cb a' dF;exact⟨(B3 cb qT).trans Z,ab⟩
 ·exact h.iC
 ·exact h.jh
 ·exact oY.trans h.hY
def nu:∀(l:List Nat) (env:List (Nat×aW)) (s:Nat),
 look (gW l env) s=if s∈l then(look env s).map (λe=>{e with own:=none})else look env s
 |[],env,s=>by simp [gW]
 |t::l,env,s=>by
  have aJ:=nu l env s;simp only [gW];cases aF:look env t with
  |none=>
   simp only [aJ];by_cases hs:s=t
   ·subst hs;simp [aF]
   ·simp [hs]
  |some e=>
   simp only [dy];by_cases hs:t=s
   ·subst hs;simp [aF]
   ·simp [hs,Ne.symm hs,aJ]
def bL.hy(h:bL P K M β st tmps w)(l:List Nat):bL P K M β {st with env:=gW l st.env} tmps w:=by
 refine h.sub rfl (λhL aZ aa=>?_) (λr cs ai=>⟨cs,ai,rfl⟩)
 cases hL with
 |slot s=>
  simp only [aI.at,nu]at aa ⊢;by_cases hs:s∈l
  ·simp only [hs,if_true,Option.map_eq_some_iff]at aa;obtain⟨e,he,rfl⟩:=aa;exact⟨e,he,rfl,by simp⟩
  ·simp only [hs,if_false]at aa;exact⟨aZ,aa,rfl,λ_ h=>h⟩
 |cell r i=>exact⟨aZ,aa,rfl,λ_ h=>h⟩
def bL.hand(h:bL P K M β st tmps w){s:Nat}{e:aW}{T:TypeId}(hs:look st.env s=some e)(aC:e.own=some T)(l0:Loc):
 mY P K M β {st with env:=gW [s] st.env} tmps w l0 (tmps.getD s undef) T:=by
 have aa:st.at (.slot s)=some e:=hs;refine⟨h.own (.slot s) e T aa aC,λl aZ T' b cN ec _ hb bQ=>?_,λb r cs hb ai=>h.unbox (.slot s) e T b r cs aa aC hb ai⟩
 have eH:∃e2,st.at l=some e2∧e2.own=some T'∧l ≠ .slot s:=by
  cases l with
  |slot sl=>
   simp only [aI.at,nu]at cN ⊢;by_cases vp:sl=s
   ·subst vp;simp at cN;obtain⟨_,_,rfl⟩:=cN;simp at ec
   ·simp [vp]at cN;exact⟨aZ,cN,ec,by simp [vp]⟩
  |cell r i=>exact⟨aZ,cN,ec,by simp⟩
 obtain⟨e2,ab,agk,dk⟩:=eH;exact dk (h.uniq l (.slot s) e2 e T' T b ab agk aa aC bQ hb)
def bL.Wy(h:bL P K M β st tmps w){r i:Nat}{cs cs':List aW}{e:aW}{T:TypeId}(ai:look st.H r=some cs)(hi:cs[i]? = some e)(aC:e.own=some T)
 (ei:cs'.length=cs.length) (ji:∀(j:Nat) aZ,cs'[j]? = some aZ→∃bG,cs[j]? = some bG∧bG.d=aZ.d∧(∀T,aZ.own=some T→bG.own=some T∧j≠i)) (l0:Loc):
 bL P K M β {st with H:=(r,cs')::st.H} tmps w∧mY P K M β {st with H:=(r,cs')::st.H} tmps w l0 (ce tmps w β (.cell r i)) T:=by
 have aa:st.at (.cell r i)=some e:=by simp [aI.at,ai,hi]
 have fr:∀l aZ,({st with H:=(r,cs')::st.H}:aI).at l=some aZ→∃bG,st.at l=some bG∧bG.d=aZ.d∧∀T,aZ.own=some T→bG.own=some T∧l ≠ .cell r i:=by
  intro l aZ cN;cases l with
  |slot s=>exact⟨aZ,cN,rfl,λT h=>⟨h,by simp⟩⟩
  |cell cJ j=>
   by_cases hF:r=cJ
   ·subst hF;simp [aI.at,dy]at cN;obtain⟨bG,Z,ab,aj⟩:=ji j aZ cN;exact⟨bG,by simp [aI.at,ai,Z],ab,λT aC=>⟨(aj T aC).1,by simp [(aj T aC).2]⟩⟩
   ·refine⟨aZ,by simpa [aI.at,dy,hF]using cN,rfl,λT h=>⟨h,by simp [Ne.symm hF]⟩⟩
 have eL:∀cJ c,look ((r,cs')::st.H) cJ=some c→∃hZ,look st.H cJ=some hZ∧hZ.length=c.length:=by
  intro cJ c hc;by_cases hF:r=cJ
  ·subst hF;simp [dy]at hc;subst hc;exact⟨cs,ai,ei.symm⟩
  ·exact⟨c,by simpa [dy,hF]using hc,rfl⟩
 refine⟨h.sub rfl (λl aZ cN=>?_) eL,h.own _ e T aa aC,λl aZ T' b cN ec _ hb bQ=>?_,λb cJ c hb fe=>?_⟩
 ·obtain⟨bG,Z,ab,aj⟩:=fr l aZ cN;exact⟨bG,Z,ab,λT aC=>(aj T aC).1⟩
 ·obtain⟨bG,Z,_,aj⟩:=fr l aZ cN;exact(aj T' ec).2 (h.uniq l _ bG e T' T b Z (aj T' ec).1 aa aC bQ hb)
 ·obtain⟨hZ,Z,_⟩:=eL cJ c fe;exact h.unbox _ e T b cJ hZ aa aC hb Z
def Na(l0:Loc)(T:TypeId):mY P K M β st tmps w l0 (.slice none 0 0) T:=
 ⟨.inl rfl,λ_ _ _ _ _ _ _ hb=>(by cases hb),λ_ _ _ hb=>(by cases hb)⟩
def Wz:∀{l:List Nat} {env od:List (Nat×aW)},BZ env l=some od→∀s e,look od s=some e→look env s=some e
 |[],env,od,h,s,e,he=>by simp [BZ]at h;subst h;simp [look]at he
 |t::l,env,od,h,s,e,he=>by
  simp only [BZ]at h;split at h<;>simp at h
  rename_i e1 hL Z ab;subst h;rw [dy]at he;by_cases kl:t=s
  ·simp [kl]at he;subst he;rw [←kl];exact Z
  ·simp [kl]at he;exact Wz ab s e he
def Nb:∀{l:List Nat} {H H':List (Nat×List aW)},B0 H l=some H'→∀s e,look H' s=some e→look H s=some e
 |[],env,od,h,s,e,he=>by simp [B0]at h;subst h;simp [look]at he
 |t::l,env,od,h,s,e,he=>by
  simp only [B0]at h;split at h<;>simp at h
  rename_i e1 hL Z ab;subst h;rw [dy]at he;by_cases kl:t=s
  ·simp [kl]at he;subst he;rw [←kl];exact Z
  ·simp [kl]at he;exact Nb ab s e he
def sm{α:Type}:∀{l:List (Nat×α)} {i:Nat} {x:α},look l i=some x→(i,x)∈l
 |[],_,_,h=>by simp [look]at h
 |(j,y)::l,i,x,h=>by
  rw [dy]at h;by_cases hj:j=i
  ·simp [hj]at h;subst h;simp [hj]
  ·simp [hj]at h;exact List.mem_cons_of_mem _ (sm h)
def Nc{n:Nat}:∀{l:List aW} {i:Nat} {e:aW},si n l=true→l[i]? = some e→below n e.d=true
 |[],_,_,_,h=>by simp at h
 |d::l,0,_,hb,h=>by simp [si]at hb;simp at h;exact h ▸ hb.1
 |d::l,i+1,_,hb,h=>by simp [si]at hb;simp at h;exact Nc hb.2 h
def bL.vk(h:bL P K M β st tmps w){live yd:List Nat}{n:Nat}(ai:Ab.vk live yd n st.env st.H st.aY=some b9)(eg:∀r b,K.jO r=some b→r<n):
 ∃ β',bL P K M β' b9 tmps w:=by
 unfold Ab.vk at ai;split at ai
 case h_2=>cases ai
 rename_i od H' he eL;rw [Bool.cond_eq_ite]at ai;split at ai
 case isFalse=>cases ai
 rename_i hc;cases ai;simp only [Bool.and_eq_true,List.all_eq_true,Prod.forall,Nat.blt_eq,Nat.ble_eq]at hc;obtain⟨⟨hn,agl⟩,WA⟩:=hc
 have Z:bL P K M β {env:=od,H:=H',aY:=st.aY} tmps w:=by
  refine h.sub rfl (λl aZ aa=>?_) (λr cs ai=>⟨cs,Nb eL _ _ ai,rfl⟩)
  refine⟨aZ,?_,rfl,λ_ h=>h⟩
  cases l with
  |slot s=>exact Wz he _ _ aa
  |cell r i=>
   simp only [aI.at]at aa ⊢;cases ai:look H' r with
   |none=>simp [ai]at aa
   |some c=>simp [ai]at aa;simp [Nb eL _ _ ai,aa]
 have nv:∀l e,({env:=od,H:=H',aY:=st.aY}:aI).at l=some e→below n e.d=true∧(∀r i,l = .cell r i→r<n):=by
  intro l e aa;cases l with
  |slot s=>exact⟨agl s e (sm aa),by simp⟩
  |cell r i=>
   simp only [aI.at]at aa;cases ai:look H' r with
   |none=>simp [ai]at aa
   |some c=>
    simp [ai]at aa;have:=WA r c (sm ai)
    exact⟨Nc this.2 aa,by rintro cJ mZ h;cases h;exact this.1⟩
 refine⟨λr=>if r<n then β r else none,?_⟩
 have ci:∀l e,({env:=od,H:=H',aY:=st.aY}:aI).at l=some e→ce tmps w (λr=>if r<n then β r else none) l=ce tmps w β l:=by
  intro l e aa;cases l with
  |slot s=>rfl
  |cell r i=>simp [ce,(nv _ _ aa).2 r i rfl]
 have jP:∀r c,look H' r=some c→r<n:=λr c ai=>(WA r c (sm ai)).1
 constructor
 ·intro l e aa;rw [ci l e aa];exact(Z.e5 l e aa).Wt (λr ai=>by simp [ai]) (nv l e aa).1
 ·intro l e T aa aC;rw [ci l e aa];exact Z.own l e T aa aC
 ·intro l cI e aZ T T' b aa aC cN ec hb bQ;rw [ci l e aa]at hb;rw [ci cI aZ cN]at bQ;exact Z.uniq l cI e aZ T T' b aa aC cN ec hb bQ
 ·intro l e T b r cs aa aC hb ai;rw [ci l e aa]at hb;have:=Z.unbox l e T b r cs aa aC hb ai
  simpa [jP r cs ai]using this
 ·intro r cs ai;obtain⟨b,vs,T,ab,aj⟩:=Z.box r cs ai;exact⟨b,vs,T,by simpa [jP r cs ai]using ab,aj⟩
 ·intro r cJ b cs cs' ai fe hb bQ;exact Z.inj r cJ b cs cs' ai fe (by simpa [jP r cs ai]using hb) (by simpa [jP cJ cs' fe]using bQ)
 ·intro r b hb;by_cases cO:r<n
  ·exact cO
  ·simp [cO]at hb
 ·exact Z.mem
 ·exact Z.m0
 ·exact Z.frame
 ·intro r b hb;simp [eg r b hb,Z.iC r b hb]
 ·exact Z.jh
 ·exact Z.hY
end
def lB(P:Program):TypeDesc→Option mo
 |.int k=>some (.int k)
 |.bool=>some .bool
 |.string=>some .str
 |.struct cG=>some (.dN (cG.toList.map λf=>(f.offset,f.type,P.cellsOf f.type)))
 |.slice e=>some (.bM e)
 |.array n e=>some (.arr n e)
 |.pointer _=>some .ptr
 |.func _ _ _=>some .x5
 |.interface _=>some .pL
 |_=>none
def vq:Value→V→Bool
 |.int k n,.int k' n'=>decide (k=k')&&decide (n=n')
 |.bool a,.bool b=>a == b
 |.string s,.str l=>decide (s.data.toList=l)
 |.slice none 0 0,.bM _ n _=>Nat.beq n 0
 |.pointer none,.gU=>true
 |.nilIface,.jA=>true
 |.nilFunc,.iR=>true
 |_,_=>false
def vr:List Value→List V→Bool
 |[],[]=>true
 |v::vs,x::xs=>vq v x&&vr vs xs
 |_,_=>false
def ye(P:Program)(inner:TypeId→List Field→Bool):Nat→List Field→Bool
 |_,[]=>true
 | i, f :: l => Nat.beq f.offset i && !decide (f.name = "_") && (match P.underlying f.type with
  |some (.int _) |some .bool |some .string=>ye P inner (i+1) l
  |some (.struct gs)=>inner f.type gs.toList&&ye P inner (i+P.cellsOf f.type) l
  |_=>false)
def sn(P:Program):Nat→List Field→Nat
 | 0,cG=>cG.length
 |d+1,cG=>(cG.map λf=>match P.underlying f.type with
  |some (.struct gs)=>sn P d gs.toList
  |_=>1).sum
def vt(P:Program):Nat→Nat→List Field→Bool
 | 0=>ye P λ_ _=>false
 |d+1=>ye P λt gs=>!P.stoodInHeld t&&Nat.beq (P.cellsOf t) (sn P d gs)&&vt P d 0 gs
def Nd(P:Program)(t:TypeId):Bool:=
 match P.underlying t with
 |some (.struct cG)=>!P.stoodInHeld t && !P.eqGuardType P.depth t&&vt P 4 0 cG.toList
 |_=>false
def WB(P:Program)(t:TypeId)(aH:d9):Bool:=
 match P.info? t,P.underlying t with
 |some i,some d=>decide (lB P d=some aH.k)&&Nat.beq i.size aH.size&&Nat.beq i.bytes aH.bytes&&Nat.beq aH.zero.length aH.size &&
  aH.jM.all (λx=>liesAt P P.depth t (aH.size / P.cellsOf t) x.1 x.2 1) &&
  (match i.zero with|some z=>vr z.cells.toList aH.zero&&(match z with|.agg _=>aH.k.isAgg|.tuple _=>false|_=>!aH.k.isAgg)|none=>false)
 |_,_=>false
def ff(P:Program)(tt:dD):Bool:=tt.all λx=>WB P x.1 x.2
def Nf{M:Mem}{v:Value}{x:V}(h:vq v x=true):dj M v x∧v.oneCell'=true:=by
 unfold vq at h;split at h<;>simp at h
 ·obtain⟨rfl,rfl⟩:=h;exact⟨.int _ _,rfl⟩
 ·subst h;exact⟨.bool _,rfl⟩
 ·rename_i s l;subst h;exact⟨by exact .str s.data.toList,rfl⟩
 ·subst h;exact⟨.l7 _ _,rfl⟩
 ·exact⟨.gU,rfl⟩
 ·exact⟨.jA,rfl⟩
 ·exact⟨.iR,rfl⟩
def yf{M:Mem}:∀{vs:List Value} {xs:List V},vr vs xs=true→vs.length=xs.length∧(∀v,v∈vs→v.oneCell'=true)∧∀(i:Nat) v x,vs[i]? = some v→xs[i]? = some x→dj M v x∧vq v x=true
 |[],[],_=>by simp
 |[],_::_,h=>by simp [vr]at h
 |_::_,[],h=>by simp [vr]at h
 |v::vs,x::xs,h=>by
  simp [vr]at h;obtain⟨Z,ab,aj⟩:=yf (M:=M) h.2;refine⟨by simp [Z],?_,?_⟩
  ·intro u hu;rcases List.mem_cons.1 hu with rfl|hu
   ·exact(Nf (M:=M) h.1).2
   ·exact ab u hu
  ·intro i u y hu b6;cases i with
   |zero=>simp at hu b6;subst hu;subst b6;exact⟨(Nf h.1).1,h.1⟩
   |succ i=>simp at hu b6;exact aj i u y hu b6
structure Row(P:Program)(t:TypeId)(aH:d9) where
 info:TypeInfo
 desc:TypeDesc
 z:Value
 hi:P.info? t=some info
 hd:P.underlying t=some desc
 hk:lB P desc=some aH.k
 size:info.size=aH.size
 bytes:info.bytes=aH.bytes
 dG:info.zero=some z
 Ng:aH.zero.length=aH.size
 B5:vr z.cells.toList aH.zero=true
 jM:(aH.jM.all λx=>liesAt P P.depth t (aH.size / P.cellsOf t) x.1 x.2 1)=true
 aua:match z with|.agg _=>aH.k.isAgg=true|.tuple _=>False|_=>aH.k.isAgg=false
theorem ez{P:Program}{tt:dD}(h:ff P tt=true){t:TypeId}{aH:d9}(aF:look tt t=some aH):Nonempty (Row P t aH):=by
 have hm:=sm aF;unfold ff at h;rw [List.all_eq_true]at h;have:=h _ hm
 unfold WB at this
 dsimp only at this
 split at this
 case h_2=>cases this
 rename_i i d hi hd;simp only [Bool.and_eq_true,decide_eq_true_eq,Nat.beq_eq]at this;obtain⟨⟨⟨⟨⟨Z,ab⟩,aj⟩,aD⟩,nv⟩,aX⟩:=this;split at aX
 case h_2=>cases aX
 rename_i z dG;simp only [Bool.and_eq_true]at aX
 exact⟨⟨i,d,z,hi,hd,Z,ab,aj,dG,aD,aX.1,nv,by
  have:=aX.2
  cases z<;>simp at this<;>simp [this]⟩⟩
def Row.cellsOf{P:Program}{t:TypeId}{aH:d9}(r:Row P t aH):P.cellsOf t=aH.size:=by
 simp [Program.cellsOf,r.hi,r.size]
section runs
variable {P:Program} {t:TypeId} {aH:d9} (w:World)
def Row.run_sizeOf(r:Row P t aH):(sizeOf t).run P w = .ok aH.size w:=by
 rw [Go.run_sizeOf w r.hi,r.cellsOf]
def Row.Gl(r:Row P t aH):(zeroValue t).run P w = .ok r.z w:=by
 simp [zeroValue,typeInfo,r.hi,r.dG]
def Row.run_underlying(r:Row P t aH):(underlying t).run P w = .ok r.desc w:=Go.run_underlying r.hd w
def Row.yg(r:Row P t aH):(isAgg t).run P w = .ok aH.k.isAgg w:=by
 have hk:=r.hk;simp only [isAgg,Sem.run_bind,r.run_underlying,Result.andThen_ok];cases hd:r.desc<;>simp [hd,lB]at hk<;>simp [←hk,mo.isAgg]
end runs
def fF(tmps:Array Value)(p:Path):Prop:=∀x,x∈p→tmps.getD x.1 undef = .bool x.2
structure fG(P:Program)(K:Ctx)(N:Nat)(M:Mem)(β:Nat→Option Nat)(g:dg)(tmps:Array Value)(w:World):Prop where
 bq:bL P K M β {env:=g.env,H:=g.H,aY:=g.aY} tmps w
 size:tmps.size=N
 fresh:∀s id,look g.ids s=some id→look g.H id=none→∀b,β id≠some b
 cond:∀t q d,look g.b5 t=some (q,d)→(fF tmps q→cw M β (tmps.getD t undef) d)∧(¬ fF tmps q→tmps.getD t undef=undef)
def Path.agm{q p:Path}(h:q.sub p=true){tmps:Array Value}(hp:fF tmps p):fF tmps q:=by
 intro x hx;unfold Path.sub at h;rw [List.all_eq_true]at h;have:=h x hx
 unfold Path.has at this;rw [List.any_eq_true]at this;obtain⟨y,b6,m3⟩:=this;simp at m3
 have Z:=hp y b6;rw [←m3.1,←m3.2];exact Z
def agn{M:Mem}{v:Value}{x:V}(h:MV v=some x):dj M v x:=by
 unfold MV at h;split at h<;>simp at h<;>subst h
 ·exact .int _ _
 ·exact .bool _
 ·rename_i s;exact .str s.data.toList
 ·exact .gU
 ·exact .jA
 ·exact .iR
def ed{P:Program}{K:Ctx}{N:Nat}{M:Mem}{β:Nat→Option Nat}{g:dg}{tmps:Array Value}{w:World}(h:fG P K N M β g tmps w){p:Path}(hp:fF tmps p){tt:dD}{ty:TypeId}{x:Operand}{d:D}
 (hx:rd g.env g.b5 p tt ty x=some d) {ds:List Deferred}:cw M β ((⟨tmps,ds⟩:Act).eval x) d:=by
 cases x with
 |tmp t=>
  simp only [rd]at hx;split at hx
  ·rename_i q dL hc;rw [Bool.cond_eq_ite]at hx;split at hx<;>simp at hx
   subst hx;exact(h.cond t q dL hc).1 (Path.agm (by assumption) hp)
  ·simp only [Option.map_eq_some_iff]at hx;obtain⟨e,he,rfl⟩:=hx;exact h.bq.e5 (.slot t) e he
 |const v=>
  simp only [rd]at hx;split at hx
  ·rename_i heq;cases heq
  ·rename_i heq;cases heq;split at hx
   ·cases hx;exact .v _ _ (.l7 _ _)
   ·cases hx
  ·rename_i heq;cases heq;simp only [Option.map_eq_some_iff]at hx;obtain⟨y,b6,rfl⟩:=hx;exact .v _ _ (agn b6)
  ·rename_i heq;cases heq
  ·rename_i heq;cases heq
 |global n=>simp [rd]at hx
 |func f=>
  simp [rd]at hx;subst hx;exact .fn f [] [] rfl (by simp)
def ago{v:Value}(h:v.oneCell'=true):v.cells = #[v]:=by
 cases v<;>first|rfl|(simp [Value.oneCell']at h)
def cw.cells{M:Mem}{β:Nat→Option Nat}{v:Value}{d:D}(h:cw M β v d)(aF:qO d=false):
 v.cells.toList.length=(cellsD d).length∧(∀u,u∈v.cells.toList→u.oneCell'=true)∧∀(i:Nat) u c,v.cells.toList[i]? = some u→(cellsD d)[i]? = some c→cw M β u c:=by
 have single:∀{v:Value} {d:D},v.cells = #[v]→cellsD d=[d]→v.oneCell'=true→cw M β v d→
  v.cells.toList.length=(cellsD d).length∧(∀u,u∈v.cells.toList→u.oneCell'=true)∧∀(i:Nat) u c,v.cells.toList[i]? = some u→(cellsD d)[i]? = some c→cw M β u c:=by
  intro v d Z ab aj aD;rw [Z,ab];refine⟨rfl,by simpa using aj,λi u c hu hc=>?_⟩
  cases i with
  |zero=>simp at hu hc;subst hu;subst hc;exact aD
  |succ i=>simp at hu
 cases h with
 |v u x hx=>
  cases hx with
  |agg vs cs hn Z ai=>
   refine⟨by simp [Value.cells,cellsD,V.cells,hn],by simpa [Value.cells]using Z,λi u c hu hc=>?_⟩
   simp [Value.cells]at hu;simp [cellsD,V.cells]at hc;obtain⟨a,ha,rfl⟩:=hc;exact .v _ _ (ai i u a hu ha)
  |any v Z=>exact single (ago Z) rfl Z (.v _ _ (.any _ Z))
  |_=>exact single rfl rfl rfl (.v _ _ (by constructor<;>assumption))
 |ptr r off b hb=>exact single rfl rfl rfl (.ptr r off b hb)
 |l8 r off u=>exact single rfl rfl rfl (.l8 r off u)
 |cu r off b u hb=>exact single rfl rfl rfl (.cu r off b u hb)
 |e8 b off x val cX Z ai=>exact single rfl rfl rfl (.e8 b off x val cX Z ai)
 |full b k n get h=>exact single rfl rfl rfl (.full b k n get h)
 |fn f vs cs hn ai=>exact single rfl rfl rfl (.fn f vs cs hn ai)
 |agg vs cs hn Z ai=>exact⟨hn,Z,ai⟩
 |cn vs cs hn ai=>simp [qO]at aF
def agp{cs:List D}:∀{xs:List V},BU cs=some xs→cs=xs.map .v:=by
 induction cs with
 |nil=>intro xs h;simp [BU]at h;subst h;rfl
 |cons d l aJ=>
  intro xs h;cases d<;>simp [BU]at h
  obtain⟨ys,b6,rfl⟩:=h;simp [aJ b6]
def yh{M:Mem}{β:Nat→Option Nat}{vs:List Value}{cs:List D}(hn:vs.length=cs.length)(Z:∀v,v∈vs→v.oneCell'=true)
 (h:∀(i:Nat) v c,vs[i]? = some v→cs[i]? = some c→cw M β v c):cw M β (.agg ⟨vs⟩) (mV cs):=by
 unfold mV;split
 ·rename_i xs hx;have:=agp hx
  subst this;refine .v _ _ (.agg vs xs (by simpa using hn) Z λi v c av hc=>?_)
  have:=h i v (.v c) av (by simp [hc])
  cases this;assumption
 ·exact .agg vs cs hn Z h
section
variable {P:Program} {K:Ctx} {N:Nat} {M:Mem} {β:Nat→Option Nat} {st:aI} {g:dg} {tmps:Array Value} {w:World} {v:Value}
def mr{k:IntKind}{n:Int}(h:cw M β v (.v (.int k n))):v = .int k n:=by
 cases h with|v u x h=>cases h;rfl
def oh{x:V}(h:cw M β v (.v x)):dj M v x:=by
 cases h with|v u x h=>exact h
def vu{b:Bool}(h:cw M β v (.v (.bool b))):v = .bool b:=by
 cases h with|v u x h=>cases h;rfl
def m4{l:av3}(h:cw M β v (.v (.str l))):v = .string ⟨⟨l⟩⟩:=by
 cases h with|v u x h=>cases h;rfl
def oZ{r off:Nat}(h:cw M β v (.ptr r off)):∃b,β r=some b∧v = .pointer (some ⟨b,off,none⟩):=by
 cases h with|ptr r off b h=>exact⟨b,h,rfl⟩
def Nh{t:TypeId}{x:V}(h:cw M β v (.v (.iface t x))):∃u,v = .iface t u∧dj M u x:=by
 cases h with|v u x h=>cases h with|iface t u x h=>exact⟨u,rfl,h⟩
def agq{cs:List V}(h:cw M β v (.v (.agg cs))):∃vs:List Value,v = .agg ⟨vs⟩∧vs.length=cs.length∧(∀u,u∈vs→u.oneCell'=true)∧∀(i:Nat) u c,vs[i]? = some u→cs[i]? = some c→dj M u c:=by
 cases h with|v u x h=>cases h with|agg vs cs hn Z h=>exact⟨vs,rfl,hn,Z,h⟩
def agr{cs:List D}(h:cw M β v (.cn cs)):∃vs:List Value,v = .tuple ⟨vs⟩∧vs.length=cs.length∧∀(i:Nat) u c,vs[i]? = some u→cs[i]? = some c→cw M β u c:=by
 cases h with|cn vs cs hn h=>exact⟨vs,rfl,hn,h⟩
def WC{f:FuncId}{cs:List D}(h:cw M β v (.fn f cs)):∃vs:List Value,v = .func (.func f) #[] ⟨vs⟩∧vs.length=cs.length∧∀(i:Nat) u c,vs[i]? = some u→cs[i]? = some c→cw M β u c:=by
 cases h with|fn f vs cs hn h=>exact⟨vs,rfl,hn,h⟩
def tI{k n:Nat}{get:Nat→V}(h:cw M β v (.v (.bM k n get))):((v = .slice none 0 0∨∃a,v = .slice (some a) 0 0)∧n=0)∨
 ∃(b off cap:Nat) (val:Nat→Nat→Value),v = .slice (some ⟨b,off,none⟩) n cap∧n≤cap∧(∀i,i<n→(get i).cells.length=k)∧(∀i j,i<n→j<k→M b (off+i*k+j)=some (val i j))∧
  (∀i j,i<n→j<k→(val i j).oneCell'=true)∧(∀(i j:Nat) c,i<n→(get i).cells[j]? = some c→dj M (val i j) c):=by
 cases h with
 |v u x h=>
  cases h with
  |l7=>exact .inl ⟨.inl rfl,rfl⟩
  |oT a=>exact .inl ⟨.inr ⟨a,rfl⟩,rfl⟩
  |bM b off k n cap get val hc hk cX Z h=>exact .inr ⟨b,off,cap,val,rfl,hc,hk,cX,Z,h⟩
def Gm{x:V}(h:cw M β v (.e8 x)):∃(b off:Nat) (val:Nat→Value),v = .pointer (some ⟨b,off,none⟩)∧(∀j,j<x.cells.length→M b (off+j)=some (val j))∧(∀j,j<x.cells.length→(val j).oneCell'=true)∧
 (∀(j:Nat) c,x.cells[j]? = some c→dj M (val j) c):=by
 cases h with|e8 b off x val cX Z h=>exact⟨b,off,val,rfl,cX,Z,h⟩
def vv{k n:Nat}{get:Nat→V}(h:cw M β v (.v (.bM k n get))):∃a cap,v = .slice a n cap∧n≤cap:=by
 rcases tI h with⟨rfl|⟨a,rfl⟩,rfl⟩|⟨b,off,cap,val,rfl,hc,_⟩
 ·exact⟨_,_,rfl,Nat.le_refl _⟩
 ·exact⟨_,_,rfl,Nat.le_refl _⟩
 ·exact⟨_,_,rfl,hc⟩
def addr_add(b off n:Nat):(⟨b,off,none⟩:Addr).add n=⟨b,off+n,none⟩:=by
 unfold Addr.add;split<;>simp_all
def yi{x:V}(hx:x.isAgg=false):x.cells=[x]:=by
 cases x<;>first|rfl|simp [V.isAgg]at hx
def WD{x:V}{val:Nat→Value}(Z:∀j,j<x.cells.length→(val j).oneCell'=true)(h:∀(j:Nat) c,x.cells[j]? = some c→dj M (val j) c):
 dj M (bif x.isAgg then .agg ⟨(List.range x.cells.length).map val⟩else val 0) x:=by
 cases hx:x.isAgg with
 |false=>
  have:=yi hx
  simpa using h 0 x (by simp [this])
 |true=>
  cases x<;>simp [V.isAgg]at hx
  rename_i cs;refine .agg _ cs (by simp [V.cells]) ?_ ?_
  ·intro u hu;obtain⟨j,hj,rfl⟩:=List.mem_map.1 hu;exact Z j (by simpa using hj)
  ·intro i u c hu hc;simp only [List.getElem?_map,Option.map_eq_some_iff]at hu;obtain⟨j,hj,rfl⟩:=hu
   have:j=i:=by
    rw [List.getElem?_eq_some_iff]at hj;obtain⟨_,h⟩:=hj;simpa using h.symm
   subst this;exact h j c hc
def ags{t:TypeId}{aH:d9}(r:Row P t aH)(Gh:∀b o v,M b o=some v→w.cell? ⟨b,o,none⟩=some v){x:V}(av:cw M β v (.e8 x))(hx:x.isAgg=aH.k.isAgg)(hs:x.cells.length=aH.size):
 ∃u,(Instr.loadAt t v).run P w = .ok u w∧dj M u x:=by
 obtain⟨b,off,val,rfl,cX,Z,h⟩:=Gm av;refine⟨_,?_,WD Z h⟩
 have aa:∀j,j<aH.size→w.cell? ((⟨b,off,none⟩:Addr).add j)=some (val j):=λj hj=>by rw [addr_add];exact Gh _ _ _ (cX j (by omega))
 cases ha:x.isAgg with
 |true=>
  rw [ha]at hx;simp [Instr.loadAt,Instr.sureAddr,loadVar,r.yg,←hx,r.run_sizeOf,run_loadCells w ⟨b,off,none⟩ aH.size val aa,hs]
 |false=>
  rw [ha]at hx;have h0:=cX 0 (by rw [yi ha];simp)
  have:=Gh _ _ _ h0
  simp [Instr.loadAt,Instr.sureAddr,loadVar,r.yg,←hx,run_load];simp at this
  rw [this]
def Gn{t:TypeId}{aH:d9}(r:Row P t aH){b off:Nat}{vs:List Value}{T:TypeId}{f:Nat×Nat}(bm:w.heap[b]? = some (.cells ⟨vs⟩ T f))(hle:off+aH.size≤vs.length)(ha:aH.k.isAgg=true):
 (Instr.loadAt t (.pointer (some ⟨b,off,none⟩))).run P w = .ok (.agg ⟨(vs.drop off).take aH.size⟩) w:=by
 have hlen:((vs.drop off).take aH.size).length=aH.size:=by simp;omega
 have:=run_loadCells_list (P:=P) w ⟨b,off,none⟩ ((vs.drop off).take aH.size) (λj u hj=>by
  rw [addr_add,cell_of_heap bm];rw [List.getElem?_take]at hj;split at hj
  ·simpa using hj
  ·cases hj)
 rw [hlen]at this;simp [Instr.loadAt,Instr.sureAddr,loadVar,r.yg,ha,r.run_sizeOf,this]
def Ni{t:TypeId}{aH:d9}(r:Row P t aH){b off:Nat}{u:Value}(hc:w.cell? ⟨b,off,none⟩=some u)(ha:aH.k.isAgg=false):
 (Instr.loadAt t (.pointer (some ⟨b,off,none⟩))).run P w = .ok u w:=by
 simp [Instr.loadAt,Instr.sureAddr,loadVar,r.yg,ha,run_load,hc]
def Nj{t:TypeId}{aH:d9}(r:Row P t aH){cG:List (Nat×TypeId×Nat)}(hk:aH.k = .dN cG):∃gs:Array Field,r.desc = .struct gs∧cG=gs.toList.map λf=>(f.offset,f.type,P.cellsOf f.type):=by
 have:=r.hk
 rw [hk]at this;cases hd:r.desc<;>simp [hd,lB]at this
 exact⟨_,rfl,this.symm⟩
def pT{t:TypeId}{aH:d9}(r:Row P t aH){e:TypeId}(hk:aH.k = .bM e):r.desc = .slice e:=by
 have:=r.hk
 rw [hk]at this;cases hd:r.desc<;>simp [hd,lB]at this
 rw [this]
def qU{t:TypeId}{aH:d9}(r:Row P t aH)(hk:aH.k = .str):r.desc = .string:=by
 have:=r.hk
 rw [hk]at this;cases hd:r.desc<;>simp [hd,lB]at this;rfl
def B6{t:TypeId}{aH:d9}(r:Row P t aH){k:IntKind}(hk:aH.k = .int k):r.desc = .int k:=by
 have:=r.hk
 rw [hk]at this;cases hd:r.desc<;>simp [hd,lB]at this
 rw [this]
def agt{t:TypeId}{aH:d9}(r:Row P t aH){n:Nat}{e:TypeId}(hk:aH.k = .arr n e):r.desc = .array n e:=by
 have:=r.hk
 rw [hk]at this;cases hd:r.desc<;>simp [hd,lB]at this
 rw [this.1,this.2]
def WE{s:TypeId}{aH:d9}(r:Row P s aH){cG:List (Nat×TypeId×Nat)}(hk:aH.k = .dN cG){f cV h_ fZ:Nat}(ba:cG[f]? = some (cV,h_,fZ))(eo:1≤fZ)(b off:Nat):
 (Instr.fieldAt s (.pointer (some ⟨b,off,none⟩)) f).run P w = .ok (.pointer (some ⟨b,off+cV,none⟩)) w:=by
 obtain⟨gs,hd,rfl⟩:=Nj r hk;simp only [List.getElem?_map,Option.map_eq_some_iff]at ba;obtain⟨fd,km,he⟩:=ba;simp only [Prod.mk.injEq]at he;obtain⟨rfl,rfl,rfl⟩:=he;have Gp:gs[f]? = some fd:=by simpa using km
 have hs:(sizeOf fd.type).run P w = .ok (P.cellsOf fd.type) w:=by
  cases hi:P.info? fd.type with
  |none=>simp [Program.cellsOf,hi]at eo
  |some i=>exact Go.run_sizeOf w hi
 have dk:P.cellsOf fd.type≠0:=by omega
 simp [Instr.fieldAt,r.run_underlying,hd,Gp,Instr.sureAddr,fieldPlace,hs,dk,addr_add]
def WF{s:TypeId}{aH:d9}(r:Row P s aH){cG:List (Nat×TypeId×Nat)}(hk:aH.k = .dN cG){f cV h_ fZ:Nat}(ba:cG[f]? = some (cV,h_,fZ)){yj:d9}(r2:Row P h_ yj)(vs:List Value)(hle:cV+fZ≤vs.length):
 (yj.k.isAgg=true→(Instr.field s (.agg ⟨vs⟩) f).run P w = .ok (.agg ⟨(vs.drop cV).take fZ⟩) w)∧
 (yj.k.isAgg=false→∀u,vs[cV]? = some u→(Instr.field s (.agg ⟨vs⟩) f).run P w = .ok u w):=by
 obtain⟨gs,hd,rfl⟩:=Nj r hk;simp only [List.getElem?_map,Option.map_eq_some_iff]at ba;obtain⟨fd,km,he⟩:=ba;simp only [Prod.mk.injEq]at he;obtain⟨rfl,rfl,rfl⟩:=he;have Gp:gs[f]? = some fd:=by simpa using km
 have eo:=r2.cellsOf;refine⟨λha=>?_,λha u hu=>?_⟩
 ·simp [Instr.field,r.run_underlying,hd,Gp,asAgg,part,r2.yg,ha,r2.run_sizeOf,eo,List.extract_eq_take_drop]
 ·simp [Instr.field,r.run_underlying,hd,Gp,asAgg,part,r2.yg,ha,hu]
def agu{t:TypeId}{aH:d9}(r:Row P t aH){e:TypeId}(hk:aH.k = .bM e){co:d9}(dV:Row P e co){k:IntKind}{j:Int}{b off n cap:Nat}(h0:0≤j)(Z:j<n):
 (Instr.indexAt t (.slice (some ⟨b,off,none⟩) n cap) (.int k j)).run P w = .ok (.pointer (some ⟨b,off+j.toNat*co.size,none⟩)) w:=by
 simp [Instr.indexAt,asIntOf,r.run_underlying,pT r hk,h0,Z,dV.run_sizeOf,addr_add]
def agv{t:TypeId}{aH:d9}(r:Row P t aH)(hk:aH.k = .str){k:IntKind}{j:Int}{l:av3}(h0:0≤j)(Z:j<l.length):
 (Instr.index t (.string ⟨⟨l⟩⟩) (.int k j)).run P w = .ok (.int .u8 (l.getD j.toNat 0).toNat) w:=by
 have cO:j.toNat<l.length:=by omega
 have agw:j.toNat<(ByteArray.mk ⟨l⟩).size:=cO;have hs:(ByteArray.mk ⟨l⟩)[j.toNat]? = some l[j.toNat]:=by rw [getElem?_pos (ByteArray.mk ⟨l⟩) j.toNat agw];rfl
 simp [Instr.index,asIntOf,r.run_underlying,qU r hk,h0,hs,List.getElem?_eq_getElem cO]
def Gq(l:av3):(⟨⟨l⟩⟩:ByteArray).toList=l:=by
 rw [ByteArray.toList_eq]
end
section
variable {P:Program} {K:Ctx} {N:Nat} {M:Mem} {β:Nat→Option Nat} {g:dg} {tmps:Array Value} {w:World} {o:Oper} {f:lw} {p:Path} {tt:dD} {cm:gH} {ops:List Oper}
def after(g:dg)(f:lw):aI:={env:=gW f.hy g.env,H:=f.hs++g.H,aY:=g.aY+f.eU}
def iU(P:Program)(K:Ctx)(M:Mem)(β:Nat→Option Nat)(g:dg)(f:lw)(tmps:Array Value)(v:Value)(w':World):Prop:=
 ∃M' β',M.le M'∧(∀r b,β r=some b→β' r=some b)∧(∀r b,β' r=some b→β r=some b∨(look f.hs r).isSome=true)∧bL P K M' β' (after g f) tmps w'∧
  ∀e,f.e=some e→cw M' β' v e.d∧∀T l0,e.own=some T→mY P K M' β' (after g f) tmps w' l0 v T
def Yields(P:Program)(K:Ctx)(M:Mem)(β:Nat→Option Nat)(g:dg)(f:lw)(o:Oper)(tmps:Array Value)(w:World):Prop:=
 (∃v w',(execOp (Act.eval ⟨tmps,[]⟩) o).run P w = .ok (.value v) w'∧iU P K M β g f tmps v w')∨
 (f.e=none∧∃w',(execOp (Act.eval ⟨tmps,[]⟩) o).run P w = .ok .skip w'∧iU P K M β g f tmps undef w')∨
 (∃fn vs,(execOp (Act.eval ⟨tmps,[]⟩) o).run P w = .ok (.enter fn vs) w∧Calls P fn vs w λe w'=>∃v,e = .returned v∧iU P K M β g f tmps v w')
def fg(h:fG P K N M β g tmps w){v:Value}{d:D}(ai:(execOp (Act.eval ⟨tmps,[]⟩) o).run P w = .ok (.value v) w)(hd:cw M β v d){rs:List fu}{a':List Prop}:
 Yields P K M β g {e:=some {d},rs,a'} o tmps w:=
 .inl ⟨v,w,ai,M,β,Mem.le_refl _,λ_ _ h=>h,λ_ _ h=>.inl h,h.bq,λe he=>by cases he;exact⟨hd,by simp⟩⟩
def jj(x:Sem Value){v:Value}{w':World}(h:x.run P w = .ok v w'):(do pure (.value (←x)):Sem Next).run P w = .ok (.value v) w':=by
 simp [h]
def Gr(h:fG P K N M β g tmps w)(hp:fF tmps p){x:Operand}(aw:o.op = .move x∨o.op = .assign x){d:D}(hx:rd g.env g.b5 p tt o.type x=some d):
 Yields P K M β g {e:=some {d},rs:=g.rs} o tmps w:=
 fg h (v:=(⟨tmps,[]⟩:Act).eval x) (by rcases aw with aw|aw<;>simp [execOp,aw]) (ed h hp hx)
def WG(h:fG P K N M β g tmps w)(hp:fF tmps p){t:Nat}(aw:o.op = .move (.tmp t)∨o.op = .assign (.tmp t)){d:D}(hx:rd g.env g.b5 p tt o.type (.tmp t)=some d)
 {s:TypeId} (hs:oV g (.tmp t)=some s) {rs:List fu}:Yields P K M β g {e:=some {d,own:=some s},hy:=[t],rs} o tmps w:=by
 refine .inl ⟨(⟨tmps,[]⟩:Act).eval (.tmp t),w,by rcases aw with aw|aw<;>simp [execOp,aw],M,β,Mem.le_refl _,λ_ _ h=>h,λ_ _ h=>.inl h,?_,λe he=>?_⟩
 ·have:=h.bq.hy [t];exact this
 ·cases he;refine⟨ed h hp hx,λT l0 aC=>?_⟩
  cases aC;simp only [oV,Option.bind_eq_some_iff]at hs;obtain⟨e,he,hs⟩:=hs;exact h.bq.hand he hs l0
def agx(h:fG P K N M β g tmps w)(hp:fF tmps p)(aw:o.op = .assign (.const (.slice none 0 0))){d:D}(hx:rd g.env g.b5 p tt o.type (.const (.slice none 0 0))=some d)(s:TypeId):
 Yields P K M β g {e:=some {d,own:=some s},rs:=g.rs} o tmps w:=by
 refine .inl ⟨.slice none 0 0,w,by simp [execOp,aw,Act.eval],M,β,Mem.le_refl _,λ_ _ h=>h,λ_ _ h=>.inl h,h.bq,λe he=>?_⟩
 cases he;exact⟨ed (ds:=[]) h hp hx,λT l0 _=>Na l0 T⟩
def agy(h:fG P K N M β g tmps w)(hp:fF tmps p){c:Nat}{a b:Operand}(aw:o.op = .pick (.tmp c) a b){tB BY vi:Bool}(hc:rd g.env g.b5 p tt o.type (.tmp c)=some (.v (.bool tB)))
 (ha:rd g.env g.b5 ((c,true)::p) tt o.type a=some (.v (.bool BY))) (hb:rd g.env g.b5 ((c,false)::p) tt o.type b=some (.v (.bool vi))):
 Yields P K M β g {e:=some {d:=.v (.bool (bif tB then BY else vi))},rs:=g.rs} o tmps w:=by
 have kj:(⟨tmps,[]⟩:Act).eval (.tmp c) = .bool tB:=vu (ed h hp hc);have WH:tmps.getD c undef = .bool tB:=kj;cases tB with
 |true=>
  refine fg h (v:=(⟨tmps,[]⟩:Act).eval a) (by simp [execOp,aw,kj,asBool]) ?_
  exact ed h (p:=(c,true)::p) (λx hx=>by rcases List.mem_cons.1 hx with rfl|hx;exact WH;exact hp x hx) ha
 |false=>
  refine fg h (v:=(⟨tmps,[]⟩:Act).eval b) (by simp [execOp,aw,kj,asBool]) ?_
  exact ed h (p:=(c,false)::p) (λx hx=>by rcases List.mem_cons.1 hx with rfl|hx;exact WH;exact hp x hx) hb
def bL.Nk{st:aI}(h:bL P K M β st tmps w)(o:Nat):M w.heap.size o=none:=by
 cases hm:M w.heap.size o with
 |none=>rfl
 |some v=>have:=lt_of_cell (h.mem _ _ _ hm);omega
def WI(h:fG P K N M β g tmps w){vs:List Value}{T:TypeId}{cs:List aW}(hlen:vs.length=cs.length)(gJ:∀v,v∈vs→v.oneCell'=true)(hlies:lz P T vs.length cs)
 (av:∀(i:Nat) v e,vs[i]? = some v→cs[i]? = some e→cw M β v e.d∧∀T,e.own=some T→v = .slice none 0 0)
 (ai:(execOp (Act.eval ⟨tmps,[]⟩) o).run P w = .ok (.value (.pointer (some ⟨w.heap.size,0,none⟩))) {w with heap:=w.heap.push (.cells ⟨vs⟩ T (0,0))}) {id eU:Nat} (hid:oc g o=some (id,eU)):
 Yields P K M β g {e:=some {d:=.ptr id 0},hs:=[(id,cs)],eU,rs:=g.rs} o tmps w:=by
 have ba:(∀b,β id≠some b)∧id<g.aY+eU:=by
  unfold oc at hid;split at hid
  ·rename_i aub aa;rw [Bool.cond_eq_ite]at hid;split at hid<;>cases hid
   rename_i hc;simp only [Bool.and_eq_true,Option.isNone_iff_eq_none,Nat.blt_eq]at hc;rw [Option.bind_eq_some_iff]at aa;obtain⟨s,_,aa⟩:=aa;exact⟨h.fresh s _ aa hc.1,by omega⟩
  ·cases hid;exact⟨λb hb=>by have:=h.bq.lt _ b hb;simp at this,by omega⟩
 refine .inl ⟨_,_,ai,M,_,Mem.le_refl _,?_,?_,h.bq.agd (n':=g.aY+eU) ba.1 ba.2 (by simp) (T:=T) hlen gJ hlies av,λe he=>?_⟩
 ·intro r b hb;have dk:r≠id:=λe=>ba.1 b (e ▸ hb)
  simp [dk,hb]
 ·intro r b hb;by_cases dk:r=id
  ·exact .inr (by simp [dy,dk])
  ·simp [dk]at hb;exact .inl hb
 ·cases he;exact⟨.ptr _ _ _ (by simp),by simp⟩
def WJ{α:Type}:∀(l:List α) (n i:Nat),(cY n l)[i]? = (l[i]?).map (n+i,·)
 |[],n,i=>by simp [cY]
 |x::l,n,0=>by simp [cY]
 |x::l,n,i+1=>by simp [cY,WJ l (n+1) i];congr 1;funext;congr 1;omega
def WK{α:Type}:∀(l:List α) (n:Nat),(cY n l).length=l.length
 |[],n=>rfl
 |x::l,n=>by simp [cY,WK l (n+1)]
def WL{x:V}{t:Option TypeId}{T:TypeId}(h:Gc x t=some T):∃k n get,x = .bM k n get:=by
 cases x<;>simp [Gc]at h;exact⟨_,_,_,rfl⟩
def WM(jM:List (Nat×TypeId))(id i:Nat)(x:V):BW jM id i x = .v x∨(x = .gU∧∃u,BW jM id i x = .cu id i u∧(i,u)∈jM):=by
 unfold BW;split
 ·split
  ·rename_i y b6;right
   have Z:=List.find?_some b6;have ab:=List.mem_of_find?_eq_some b6;obtain⟨j,u⟩:=y;obtain rfl:j=i:=by simpa using Z
   exact⟨rfl,u,rfl,ab⟩
  ·exact .inl rfl
 ·exact .inl rfl
def agz{t:TypeId}{id:Nat}{z:List aW}(h:Ge tt t id=some z):∃aH,look tt t=some aH∧z.length=aH.zero.length∧
 ∀(i:Nat) e,z[i]? = some e→∃x,aH.zero[i]? = some x∧(e.d = .v x∨(x = .gU∧∃u,e.d = .cu id i u∧(i,u)∈aH.jM))∧∀T,e.own=some T→∃k n get,x = .bM k n get:=by
 unfold Ge at h;split at h<;>simp at h
 ·rename_i e fZ kE zero k5 aa;subst h;refine⟨_,aa,by simp,λi aZ he=>?_⟩
  simp only [List.getElem?_map,Option.map_eq_some_iff]at he;obtain⟨x,hx,rfl⟩:=he;exact⟨x,hx,.inl rfl,λT aC=>WL aC⟩
 ·rename_i cG fZ kE zero k5 aa;subst h;refine⟨_,aa,by simp [WK],λi aZ he=>?_⟩
  simp only [List.getElem?_map,Option.map_eq_some_iff,WJ]at he;obtain⟨_,⟨x,hx,rfl⟩,rfl⟩:=he;simp only [Nat.zero_add];exact⟨x,hx,WM k5 id i x,λT aC=>WL aC⟩
 ·rename_i k fZ kE zero k5 _ _ aa;subst h;refine⟨_,aa,by simp,λi aZ he=>?_⟩
  simp only [List.getElem?_map,Option.map_eq_some_iff]at he;obtain⟨x,hx,rfl⟩:=he;exact⟨x,hx,.inl rfl,by simp⟩
def agA(h:fG P K N M β g tmps w)(cf:ff P tt=true){t:TypeId}(aw:o.op = .alloc t){z:List aW}{id eU:Nat}(dG:Ge tt t id=some z)(hid:oc g o=some (id,eU)):
 Yields P K M β g {e:=some {d:=.ptr id 0},hs:=[(id,z)],eU,rs:=g.rs} o tmps w:=by
 obtain⟨aH,aa,hlen,WN⟩:=agz dG;obtain⟨r⟩:=ez cf aa;obtain⟨Z,ab,aj⟩:=yf (M:=M) r.B5;refine WI h (vs:=r.z.cells.toList) (T:=t) (by omega) ab (λe he q off u hd=>?_) (λi v e av he=>?_) ?_ hid
 ·obtain⟨i,hi,rfl⟩:=List.getElem_of_mem he;obtain⟨x,hx,jk,_⟩:=WN i z[i] (List.getElem?_eq_getElem hi);rcases jk with jk|⟨_,auc,jk,hm⟩
  ·rw [jk]at hd;cases hd
  ·rw [jk]at hd;cases hd;have:=List.all_eq_true.1 r.jM _ hm
   have eo:=r.Ng;rw [show r.z.cells.toList.length=aH.size by omega]
   exact this
 ·obtain⟨x,hx,hd,f0⟩:=WN i e he;obtain⟨aD,aX⟩:=aj i v x av hx
  refine⟨by
   rcases hd with hd|⟨rfl,u,hd,_⟩
   ·rw [hd];exact .v _ _ aD
   ·rw [hd];cases aD;exact .l8 _ _ _,λT aC=>?_⟩
  obtain⟨k,n,get,rfl⟩:=f0 T aC;unfold vq at aX;split at aX<;>simp_all
 ·simp [execOp,aw,Instr.alloc,r.Gl,newVar,newRow]
def Nl(tt:dD)(aH:d9)(id:Nat):∀(l:List D) (i j:Nat),(qQ tt aH id i l)[j]? = (l[j]?).map (x7 tt aH id (i+j))
 |[],i,j=>by simp [qQ]
 |d::l,i,0=>by simp [qQ]
 |d::l,i,j+1=>by
  simp only [qQ,List.getElem?_cons_succ];rw [Nl tt aH id l (i+1) j,show i+1+j=i+(j+1)by omega]
def Nn(tt:dD)(aH:d9)(id:Nat):∀(l:List D) (i:Nat),(qQ tt aH id i l).length=l.length
 |[],i=>rfl
 |d::l,i=>by simp only [qQ,List.length_cons,Nn tt aH id l (i+1)]
def WO{M:Mem}{β:Nat→Option Nat}(tt:dD)(aH:d9)(id i:Nat)(d:D)(qV:∀r o u,d ≠ .cu r o u){v:Value}(h:cw M β v d):
 cw M β v (x7 tt aH id i d).d∧(∀T,(x7 tt aH id i d).own=some T→v = .slice none 0 0)∧∀r o u,(x7 tt aH id i d).d = .cu r o u→(o,u)∈aH.jM:=by
 unfold x7;split
 ·rcases WM aH.jM id i .gU with Z|⟨_,u,Z,ab⟩
  ·simp only [Z];exact⟨h,(λT aC=>by cases aC),(λr o u e=>by cases e)⟩
  ·simp only [Z]
   cases h with|v u x hx=>cases hx with
    |gU=>exact⟨.l8 _ _ _,(λT aC=>by cases aC),(λr o u e=>by cases e;exact ab)⟩
 ·split
  ·cases h with|v u x hx=>cases hx with
    |oS=>exact⟨.v _ _ (.l7 _ _),λ_ _=>rfl,λr o u e=>by cases e⟩
  ·exact⟨h,(λT aC=>by cases aC),(λr o u e=>by cases e)⟩
 ·exact⟨h,(λT aC=>by cases aC),λr o u e=>absurd e (qV r o u)⟩
def agB(h:fG P K N M β g tmps w)(hp:fF tmps p){t:TypeId}{x:Operand}(aw:o.op = .box t x){d:D}(hx:rd g.env g.b5 p tt o.type x=some d)(aF:qO d=false)(qV:sf (cellsD d)=true)(cf:ff P tt=true){aH:d9}(aa:look tt t=some aH)(eo:(cellsD d).length=aH.size){id eU:Nat}(hid:oc g o=some (id,eU)):
 Yields P K M β g {e:=some {d:=.ptr id 0},hs:=[(id,qQ tt aH id 0 (cellsD d))],eU,rs:=g.rs} o tmps w:=by
 obtain⟨r⟩:=ez cf aa;obtain⟨Z,ab,aj⟩:=(ed (ds:=[]) h hp hx).cells aF;refine WI h (vs:=((⟨tmps,[]⟩:Act).eval x).cells.toList) (T:=t) (by rw [Nn];simpa using Z) ab (λe he q off u hd=>?_) (λi v e av he=>?_) ?_ hid
 ·obtain⟨i,hi,rfl⟩:=List.getElem_of_mem he;have hg:(qQ tt aH id 0 (cellsD d))[i]? = some _:=List.getElem?_eq_getElem hi;rw [Nl,Option.map_eq_some_iff]at hg;obtain⟨c,hc,No⟩:=hg;rw [←No]at hd;have Np:i<((⟨tmps,[]⟩:Act).eval x).cells.toList.length:=by rw [Nn]at hi;omega
  have:=(WO tt aH id (0+i) c (B1 qV c (List.mem_of_getElem? hc)) (aj i _ c (List.getElem?_eq_getElem Np) hc)).2.2 q off u hd
  have hb:=List.all_eq_true.1 r.jM _ this;rw [Z,eo];exact hb
 ·rw [Nl,Option.map_eq_some_iff]at he;obtain⟨c,hc,rfl⟩:=he;obtain⟨g1,g2,_⟩:=WO tt aH id (0+i) c (B1 qV c (List.mem_of_getElem? hc)) (aj i v c av hc);exact⟨g1,g2⟩
 ·simp [execOp,aw,Instr.box,newVar,newRow]
end
def oi{α:Type}:∀(cs:List α) (off:Nat) (xs:List α),off+xs.length≤cs.length→(setAt cs off xs).length=cs.length∧∀(i:Nat),(setAt cs off xs)[i]? = if off≤i∧i<off+xs.length then xs[i-off]? else cs[i]?
 |[],0,[],_=>by simp [setAt]
 |[],0,x::xs,h=>by simp at h
 |[],n+1,xs,h=>by simp at h
 |c::cs,0,[],_=>by
  refine⟨by simp [setAt],λi=>?_⟩
  simp only [setAt,List.length_nil];rw [if_neg (by omega)]
 |c::cs,0,x::xs,h=>by
  obtain⟨Z,ab⟩:=oi cs 0 xs (by simp at h ⊢;omega)
  refine⟨by simp [setAt,Z],λi=>?_⟩
  cases i with
  |zero=>simp [setAt]
  |succ i=>
   simp only [setAt,List.getElem?_cons_succ,ab i,Nat.zero_add,List.length_cons];by_cases hi:i<xs.length<;>simp [hi]
 |c::cs,n+1,xs,h=>by
  obtain⟨Z,ab⟩:=oi cs n xs (by simp at h ⊢;omega)
  refine⟨by simp [setAt,Z],λi=>?_⟩
  cases i with
  |zero=>simp [setAt]
  |succ i=>
   simp only [setAt,List.getElem?_cons_succ,ab i];by_cases hi:n≤i∧i<n+xs.length
   ·rw [if_pos hi,if_pos (by omega)];congr 1;omega
   ·rw [if_neg hi,if_neg (by omega)]
def Nq(off:Nat):∀(l:List Value) (k:Nat) (cs:Array Value),off+k+l.length≤cs.size→
 ((l.zipIdx k).foldl (λcs (x:Value×Nat)=>cs.setIfInBounds (off+x.2) x.1) cs).size=cs.size∧
 ∀(i:Nat),((l.zipIdx k).foldl (λcs (x:Value×Nat)=>cs.setIfInBounds (off+x.2) x.1) cs)[i]? = if off+k≤i∧i<off+k+l.length then l[i-(off+k)]? else cs[i]?
 |[],k,cs,h=>by
  refine⟨rfl,λi=>?_⟩
  simp only [List.zipIdx_nil,List.foldl_nil,List.length_nil];rw [if_neg (by omega)]
 |x::l,k,cs,h=>by
  obtain⟨Z,ab⟩:=Nq off l (k+1) (cs.setIfInBounds (off+k) x) (by simp at h ⊢;omega)
  simp only [List.zipIdx_cons,List.foldl_cons];refine⟨by simpa using Z,λi=>?_⟩
  rw [ab i];simp only [List.length_cons]at h ⊢;by_cases aj:off+(k+1)≤i∧i<off+(k+1)+l.length
  ·rw [if_pos aj,if_pos (by omega)]
   obtain⟨j,rfl⟩:∃j,i=off+k+1+j:=⟨i-(off+k+1),by omega⟩
   rw [show off+k+1+j-(off+(k+1))=j by omega,show off+k+1+j-(off+k)=j+1 by omega]
   simp
  ·rw [if_neg aj];by_cases aD:i=off+k
   ·subst aD;rw [if_pos (by omega)]
    have:off+k<cs.size:=by omega
    simp [this]
   ·rw [if_neg (by omega)]
    rw [Array.getElem?_setIfInBounds_ne (Ne.symm aD)]
section
variable {P:Program} {K:Ctx} {N:Nat} {M:Mem} {β:Nat→Option Nat} {g:dg} {tmps:Array Value} {w:World} {o:Oper} {f:lw} {p:Path} {tt:dD} {cm:gH} {ops:List Oper}
structure Cells(M:Mem)(β:Nat→Option Nat)(vs:List Value)(cs:List D):Prop where
 len:vs.length=cs.length
 one:∀v,v∈vs→v.oneCell'=true
 rep:∀(i:Nat) v c,vs[i]? = some v→cs[i]? = some c→cw M β v c
def Gs{vs:List Value}(h:∀v,v∈vs→v.oneCell'=true){i:Nat}{v:Value}(hi:vs[i]? = some v):v.oneCell'=true:=h v (List.mem_of_getElem? hi)
def WP{vs:List Value}(h:∀(i:Nat) v,vs[i]? = some v→v.oneCell'=true):∀v,v∈vs→v.oneCell'=true:=λv av=>by
 obtain⟨i,hi⟩:=List.getElem?_of_mem av;exact h i v hi
def Cells.set{vs:List Value}{cs:List D}(h:Cells M β vs cs){ws:List Value}{ds:List D}(cS:Cells M β ws ds){off:Nat}(hle:off+ds.length≤cs.length){vs':List Value}(hlen:vs'.length=vs.length)
 (iV:∀(i:Nat),vs'[i]? = if off≤i∧i<off+ws.length then ws[i-off]? else vs[i]?):Cells M β vs' (setAt cs off ds):=by
 obtain⟨Z,ab⟩:=oi cs off ds hle;refine⟨by rw [hlen,Z,h.len],WP λi v av=>?_,λi v c av hc=>?_⟩
 ·rw [iV i]at av;split at av
  ·exact Gs cS.one av
  ·exact Gs h.one av
 ·rw [iV i]at av;rw [ab i]at hc;by_cases hi:off≤i∧i<off+ds.length
  ·rw [if_pos hi]at hc;rw [if_pos (by rw [cS.len];exact hi)]at av
   exact cS.rep _ v c av hc
  ·rw [if_neg hi]at hc;rw [if_neg (by rw [cS.len];exact hi)]at av
   exact h.rep _ v c av hc
def Nr{place:Nat→Option (Nat×Nat)}:∀{ca:List (Nat×D)} {vs:List (Nat×Value)} {cs cs':List D} {cells:Array Value},vs.length=ca.length→
 (∀(i:Nat) a b,ca[i]? = some a→vs[i]? = some b→a.1=b.1∧cw M β b.2 a.2)→Cells M β cells.toList cs→sg place cs ca=some cs'→
 ∃jQ,Instr.fill place cells vs=some jQ∧Cells M β jQ.toList cs'
 |[],[],cs,cs',cells,_,_,hc,h=>by simp [sg]at h;subst h;exact⟨cells,rfl,hc⟩
 |[],_::_,_,_,_,h,_,_,_=>by simp at h
 |_::_,[],_,_,_,h,_,_,_=>by simp at h
 |(i,d)::ca,(j,v)::vs,cs,cs',cells,hn,ai,hc,h=>by
  obtain⟨WQ,hd⟩:=ai 0 (i,d) (j,v) (by simp) (by simp)
  simp only at WQ hd
  subst WQ;simp only [sg]at h;split at h
  ·cases h
  ·rename_i off size jR;rw [Bool.cond_eq_ite]at h;split at h
   case isFalse=>cases h
   rename_i hb;simp only [Bool.and_eq_true,Nat.beq_eq,Nat.ble_eq,Bool.not_eq_true']at hb;obtain⟨⟨cy,eV⟩,Ns⟩:=hb;obtain⟨Z,ab,aj⟩:=hd.cells Ns;have eo:cells.size=cs.length:=by simpa using hc.len
   have ei:v.cells.size=size:=by simpa [cy]using Z
   have ba:=Nq off v.cells.toList 0 cells (by simp [ei];omega)
   have Nt:v.cells.zipIdx.foldl (λcs (x:Value×Nat)=>cs.setIfInBounds (off+x.2) x.1) cells=(v.cells.toList.zipIdx 0).foldl (λcs (x:Value×Nat)=>cs.setIfInBounds (off+x.2) x.1) cells:=by
    rw [←Array.foldl_toList,Array.toList_zipIdx]
   have kj:Cells M β (v.cells.zipIdx.foldl (λcs (x:Value×Nat)=>cs.setIfInBounds (off+x.2) x.1) cells).toList (setAt cs off (cellsD d)):=by
    rw [Nt];refine hc.set ⟨Z,ab,aj⟩ (by omega) (by simpa using ba.1) (λk=>?_)
    have:=ba.2 k
    simp only [Nat.add_zero]at this;rw [Array.getElem?_toList,this];simp only [Array.getElem?_toList]
   obtain⟨jQ,B7,pU⟩:=Nr (place:=place) (by simpa using hn) (λk a b ha hb=>ai (k+1) a b (by simpa using ha) (by simpa using hb)) kj h
   refine⟨jQ,?_,pU⟩
   simp only [Instr.fill,jR];rw [if_neg (by simp;omega)]
   exact B7
def tJ{α dO:Type}{f:α→Option dO}:∀{l:List α} {cI:List dO},mapM' f l=some cI→cI.length=l.length∧∀(i:Nat) a b,l[i]? = some a→cI[i]? = some b→f a=some b
 |[],cI,h=>by simp [mapM']at h;subst h;simp
 |x::l,cI,h=>by
  simp only [mapM']at h;split at h<;>simp at h
  rename_i y ys b6 agC;subst h;obtain⟨Z,ab⟩:=tJ agC;refine⟨by simp [Z],λi a b ha hb=>?_⟩
  cases i with
  |zero=>simp at ha hb;subst ha;subst hb;exact b6
  |succ i=>simp at ha hb;exact ab i a b ha hb
def Row.WR{t:TypeId}{aH:d9}(r:Row P t aH):Cells M β r.z.cells.toList (aH.zero.map .v):=by
 obtain⟨Z,ab,aj⟩:=yf (M:=M) r.B5;refine⟨by simpa using Z,ab,λi v c av hc=>?_⟩
 simp only [List.getElem?_map,Option.map_eq_some_iff]at hc;obtain⟨x,hx,rfl⟩:=hc;exact .v _ _ (aj i v x av hx).1
def agD{M:Mem}{v:Value}{x:V}(h:vq v x=true):dj M v (M0 x):=by
 have h0:=(Nf (M:=M) h).1;unfold vq at h;split at h<;>first|exact h0|skip
 ·rename_i k n g;have:n=0:=by simpa using h
  subst this;exact .oS _ _
 ·cases h
def Row.agE{t:TypeId}{aH:d9}(r:Row P t aH):Cells M β r.z.cells.toList (aH.zero.map λx=>.v (M0 x)):=by
 obtain⟨Z,ab,aj⟩:=yf (M:=M) r.B5;refine⟨by simpa using Z,ab,λi v c av hc=>?_⟩
 simp only [List.getElem?_map,Option.map_eq_some_iff]at hc;obtain⟨x,hx,rfl⟩:=hc;exact .v _ _ (agD (aj i v x av hx).2)
def Nu(h:fG P K N M β g tmps w)(hp:fF tmps p){ty:Nat→TypeId}{parts:Array (Nat×Operand)}{ca:List (Nat×D)}(mt:mapM' (fun(x:Nat×Operand)=>(rd g.env g.b5 p tt (ty x.1) x.2).map λd=>(x.1,d)) parts.toList=some ca):
 ((parts.map fun(x:Nat×Operand)=>(x.1,(⟨tmps,[]⟩:Act).eval x.2)).toList).length=ca.length∧
 ∀(i:Nat) a b,ca[i]? = some a→(parts.map fun(x:Nat×Operand)=>(x.1,(⟨tmps,[]⟩:Act).eval x.2)).toList[i]? = some b→a.1=b.1∧cw M β b.2 a.2:=by
 obtain⟨Z,ab⟩:=tJ mt;refine⟨by simpa using Z.symm,λi a b ha hb=>?_⟩
 simp only [Array.toList_map,List.getElem?_map,Option.map_eq_some_iff]at hb;obtain⟨x,hx,rfl⟩:=hb;have:=ab i x a hx ha
 simp only [Option.map_eq_some_iff]at this;obtain⟨d,hd,rfl⟩:=this;exact⟨rfl,ed h hp hd⟩
def run_places{cG:Array Field}{l:List (Nat×TypeId×Nat)}(aa:l=cG.toList.map λf=>(f.offset,f.type,P.cellsOf f.type))(hs:∀f,f∈cG.toList→1≤P.cellsOf f.type):
 (cG.mapM λf=>(do pure (f.offset,←sizeOf f.type):Sem (Nat×Nat))).run P w = .ok (cG.map λf=>(f.offset,P.cellsOf f.type)) w:=by
 obtain⟨tK⟩:=cG;rw [List.mapM_toArray]
 have key:∀(l:List Field),(∀f,f∈l→1≤P.cellsOf f.type)→(l.mapM λf=>(do pure (f.offset,←sizeOf f.type):Sem (Nat×Nat))).run P w = .ok (l.map λf=>(f.offset,P.cellsOf f.type)) w:=by
  intro l;induction l with
  |nil=>intro _;rfl
  |cons f l aJ=>
   intro ba;have h0:=ba f (by simp)
   have Z:(sizeOf f.type).run P w = .ok (P.cellsOf f.type) w:=by
    cases hi:P.info? f.type with
    |none=>simp [Program.cellsOf,hi]at h0
    |some i=>exact Go.run_sizeOf w hi
   simp only [List.mapM_cons,Sem.run_bind,Z,Result.andThen_ok,Sem.run_pure,aJ (λf h=>ba f (by simp [h])),List.map_cons]
 simp only [Sem.run_map,key tK (by simpa using hs),Result.andThen_ok]
 simp
def WS(h:fG P K N M β g tmps w)(hp:fF tmps p)(cf:ff P tt=true){t:TypeId}{aH:d9}(aa:look tt t=some aH){cG:List (Nat×TypeId×Nat)}(hk:aH.k = .dN cG)(mu:cG.all (λf=>Nat.ble 1 f.2.2)=true)
 {parts:Array (Nat×Operand)} (aw:o.op = .build t parts) {ca:List (Nat×D)} (mt:mapM' (fun(x:Nat×Operand)=>(rd g.env g.b5 p tt (sh tt t x.1) x.2).map λd=>(x.1,d)) parts.toList=some ca)
 {zs:List D} (vw:∀(r:Row P t aH),Cells M β r.z.cells.toList zs) {cs:List D} (ba:sg (fun(i:Nat)=>(cG[i]?).map fun(f:Nat×TypeId×Nat)=>(f.1,f.2.2)) zs ca=some cs) {rs:List fu}:
 Yields P K M β g {e:=some {d:=mV cs},rs} o tmps w:=by
 obtain⟨r⟩:=ez cf aa;obtain⟨gs,hd,Nv⟩:=Nj r hk;obtain⟨Z,ab⟩:=Nu h hp mt;obtain⟨cells,B7,hc⟩:=Nr Z ab (vw r) ba
 have Gt:∀f,f∈gs.toList→1≤P.cellsOf f.type:=by
  intro fd km;rw [List.all_eq_true]at mu;have:=mu (fd.offset,fd.type,P.cellsOf fd.type) (by rw [Nv];exact List.mem_map.2 ⟨fd,km,rfl⟩)
  simpa using this
 have jR:(fun(i:Nat)=>(gs.map λf=>(f.offset,P.cellsOf f.type))[i]?)=fun(i:Nat)=>(cG[i]?).map fun(f:Nat×TypeId×Nat)=>(f.1,f.2.2):=by
  funext i
  rw [Nv];cases hi:gs[i]? <;> simp [hi]
 refine fg h (v:=.agg cells) ?_ ?_
 ·simp only [execOp,aw];refine jj _ ?_;have agF:=run_places (P:=P) (w:=w) Nv Gt;simp only [Instr.build,Sem.run_bind,r.Gl,Result.andThen_ok,r.run_underlying,hd,agF,jR];have:Instr.fill (fun(i:Nat)=>(cG[i]?).map fun(f:Nat×TypeId×Nat)=>(f.1,f.2.2)) r.z.cells (parts.map fun(x:Nat×Operand)=>(x.1,(⟨tmps,[]⟩:Act).eval x.2)).toList=some cells:=B7
  rw [this];rfl
 ·have:=yh hc.len hc.one hc.rep
  simpa using this
def agG(h:fG P K N M β g tmps w)(hp:fF tmps p)(cf:ff P tt=true){t:TypeId}{aH:d9}(aa:look tt t=some aH){n:Nat}{e:TypeId}(hk:aH.k = .arr n e){co:d9}(eH:look tt e=some co)
 {parts:Array (Nat×Operand)} (aw:o.op = .build t parts) {ca:List (Nat×D)} (mt:mapM' (fun(x:Nat×Operand)=>(rd g.env g.b5 p tt (sh tt t x.1) x.2).map λd=>(x.1,d)) parts.toList=some ca)
 {cs:List D} (ba:sg (λi=>some (i*co.size,co.size)) (aH.zero.map .v) ca=some cs):
 Yields P K M β g {e:=some {d:=mV cs},rs:=g.rs} o tmps w:=by
 obtain⟨r⟩:=ez cf aa;obtain⟨r2⟩:=ez cf eH;obtain⟨Z,ab⟩:=Nu h hp mt;obtain⟨cells,B7,hc⟩:=Nr Z ab (r.WR (β:=β)) ba;refine fg h (v:=.agg cells) ?_ ?_
 ·simp only [execOp,aw];refine jj _ ?_;simp only [Instr.build,Sem.run_bind,r.Gl,Result.andThen_ok,r.run_underlying,agt r hk,r2.run_sizeOf];have:Instr.fill (λi=>some (i*co.size,co.size)) r.z.cells (parts.map fun(x:Nat×Operand)=>(x.1,(⟨tmps,[]⟩:Act).eval x.2)).toList=some cells:=B7
  rw [this];rfl
 ·have:=yh hc.len hc.one hc.rep
  simpa using this
end
section
variable {P:Program} {K:Ctx} {N:Nat} {M:Mem} {β:Nat→Option Nat} {g:dg} {tmps:Array Value} {w:World} {o:Oper} {f:lw} {p:Path} {tt:dD} {cm:gH} {ops:List Oper}
def jl(M:Mem)(b:Nat)(lo:Nat)(vs:List Value):Mem:=λbJ o=>if bJ=b∧lo≤o∧o<lo+vs.length then vs[o-lo]? else M bJ o
def Nw{b lo:Nat}{vs:List Value}(h:∀o,lo≤o→M b o=none):M.le (jl M b lo vs):=by
 intro bJ o v av;unfold jl;split
 ·rename_i hc;obtain⟨rfl,Z,ab⟩:=hc;rw [h o Z]at av;cases av
 ·exact av
def Gu{b lo:Nat}{vs:List Value}{i:Nat}{v:Value}(h:vs[i]? = some v):jl M b lo vs b (lo+i)=some v:=by
 have hi:i<vs.length:=(List.getElem?_eq_some_iff.1 h).1;unfold jl;rw [if_pos ⟨rfl,by omega,by omega⟩,show lo+i-lo=i by omega,h]
def agH{k:Nat}{n:Nat}{cells:List Value}(aa:cells.length=n*k){i j:Nat}(hi:i<n)(hj:j<k):cells[i*k+j]? = some (cells.getD (i*k+j) undef):=by
 have:i*k+j<cells.length:=by
  have Z:(i+1)*k≤n*k:=Nat.mul_le_mul_right k hi;rw [Nat.add_mul]at Z;omega
 simp [List.getD,List.getElem?_eq_getElem this]
def bL.newRow{st:aI}(h:bL P K M β st tmps w){vs:List Value}{T:TypeId}{n:Nat}{w':World}(hw:w'.heap=w.heap.push (.cells ⟨vs⟩ T (0,0)))(oY:(w'.os,w'.output)=(w.os,w.output):=by rfl):
 bL P K (jl M w.heap.size 0 (vs.take n)) β st tmps w'∧M.le (jl M w.heap.size 0 (vs.take n)):=by
 have cX:M.le (jl M w.heap.size 0 (vs.take n)):=Nw λo _=>h.Nk o
 refine⟨h.free w.heap.size ?_ ?_ ?_ ?_ cX ?_ ?_ oY,cX⟩
 ·cases dF:K.F w.heap.size with
  |none=>rfl
  |some a'=>have:=lt_of_heap (h.frame _ a' dF).1;omega
 ·intro r cs ai hb;have:=h.B2 ai hb;omega
 ·intro l e T aa aC hb;have:=(h.own l e T aa aC).lt hb;omega
 ·intro bJ _ bQ;rw [hw];simp [Array.getElem?_push,Nat.ne_of_lt bQ]
 ·intro bJ o bQ;simp [jl,bQ]
 ·intro o v av;unfold jl at av;split at av
  ·rename_i hc;simp only [Nat.sub_zero]at av;rw [List.getElem?_take]at av;split at av
   ·have:w'.heap[w.heap.size]? = some (.cells ⟨vs⟩ T (0,0)):=by rw [hw];simp
    rw [cell_of_heap this,av]
   ·cases av
  ·rw [h.Nk o]at av;cases av
def Nx{st:aI}(h:bL P K M β st tmps w){l0:Loc}{T:TypeId}{vs:List Value}{T':TypeId}(Ny:T'=T){n cap:Nat}{w':World}(hw:w'.heap=w.heap.push (.cells ⟨vs⟩ T' (0,0)))(hn:n≤cap)
 (hcap:cap*P.cellsOf T≤vs.length):mY P K (jl M w.heap.size 0 (vs.take (n*P.cellsOf T))) β st tmps w' l0 (.slice (some ⟨w.heap.size,0,none⟩) n cap) T:=by
 have qW:w'.heap[w.heap.size]? = some (.cells ⟨vs⟩ T' (0,0)):=by rw [hw];simp
 refine⟨.inr ⟨w.heap.size,n,cap,vs,T',rfl,hn,qW,hcap,λo aw=>?_,?_,Ny⟩,?_,?_⟩
 ·have hle:n*P.cellsOf T≤vs.length:=Nat.le_trans (Nat.mul_le_mul_right _ hn) hcap;unfold jl;rw [if_neg,h.Nk o]
  rintro ⟨_,_,aj⟩
  simp only [List.length_take]at aj;omega
 ·cases dF:K.F w.heap.size with
  |none=>rfl
  |some a'=>have:=lt_of_heap (h.frame _ a' dF).1;omega
 ·intro l e pS b aa aC _ hb bQ;simp [jg,kh]at hb;subst hb
  have hold:ce tmps w' β l=ce tmps w β l:=by
   cases l with
   |slot s=>rfl
   |cell r i=>
    simp only [aI.at]at aa;cases ai:look st.H r with
    |none=>simp [ai]at aa
    |some cs=>
     obtain⟨cb,oe,hh,cy,bm,_⟩:=h.box r cs ai;simp only [ce,cy];rw [sk (w:=w) (by rw [hw];simp [Array.getElem?_push,Nat.ne_of_lt (lt_of_heap bm)])]
  rw [hold]at bQ;have:=(h.own l e pS aa aC).lt bQ
  omega
 ·intro b r cs hb ai bQ;simp [jg,kh]at hb;subst hb;have:=h.B2 ai bQ
  omega
def WT{size:Nat}:∀(l:List (Nat×Value)) (m:Nat) (cells:Array Value),(∀(i:Nat) x,l[i]? = some x→x.1=m+i∧x.2.cells.size=size)→(m+l.length)*size≤cells.size→
 ∃jQ,Instr.fill (λi=>some (i*size,size)) cells l=some jQ∧jQ.size=cells.size∧(∀i,i<m*size→jQ[i]? = cells[i]?)∧
  ∀(i:Nat) x (j:Nat) u,l[i]? = some x→x.2.cells[j]? = some u→jQ[(m+i)*size+j]? = some u
 |[],m,cells,_,_=>⟨cells,rfl,rfl,λ_ _=>rfl,by simp⟩
 |(a,v)::l,m,cells,aa,hle=>by
  obtain⟨ha,eo⟩:=aa 0 (a,v) (by simp)
  simp only [Nat.add_zero]at ha;simp only at eo
  subst ha
  have aud:a*size+size≤cells.size:=by
   have Z:(a+1)*size≤(a+((a,v)::l).length)*size:=Nat.mul_le_mul_right _ (by simp)
   rw [Nat.add_mul,Nat.one_mul]at Z;omega
  have ba:=Nq (a*size) v.cells.toList 0 cells (by simp [eo];omega)
  have Nt:v.cells.zipIdx.foldl (λcs (x:Value×Nat)=>cs.setIfInBounds (a*size+x.2) x.1) cells=(v.cells.toList.zipIdx 0).foldl (λcs (x:Value×Nat)=>cs.setIfInBounds (a*size+x.2) x.1) cells:=by
   rw [←Array.foldl_toList,Array.toList_zipIdx]
  rw [←Nt]at ba;generalize kn:v.cells.zipIdx.foldl (λcs (x:Value×Nat)=>cs.setIfInBounds (a*size+x.2) x.1) cells=c1 at ba
  obtain⟨jQ,Z,ab,aj,aD⟩:=WT l (a+1) c1 (λi x hx=>by
   obtain⟨Z,ab⟩:=aa (i+1) x (by simpa using hx)
   exact⟨by omega,ab⟩) (by rw [ba.1];simpa [Nat.add_assoc,Nat.add_comm 1]using hle)
  refine⟨jQ,?_,by rw [ab,ba.1],λi hi=>?_,λi x j u hx hu=>?_⟩
  ·simp only [Instr.fill];rw [if_neg (by simp [eo];omega)]
   have:v.cells.zipIdx.foldl (λcs (c,j)=>cs.setIfInBounds (a*size+j) c) cells=c1:=kn
   rw [this];exact Z
  ·rw [aj i (by rw [Nat.add_mul];omega),ba.2 i,if_neg (by omega)]
  ·cases i with
   |zero=>
    simp at hx;subst hx
    simp only at hu
    have hj:j<size:=by rw [←eo];exact(Array.getElem?_eq_some_iff.1 hu).1
    rw [Nat.add_zero,aj _ (by rw [Nat.add_mul,Nat.one_mul];omega),ba.2,if_pos (by simp [eo];omega)]
    simpa using hu
   |succ i=>
    have:=aD i x j u (by simpa using hx) hu
    rw [show a+(i+1)=a+1+i by omega];exact this
def WU{WV:Bool}{size:Nat}:∀{ca:List (Nat×D)} {n:Nat} {xs:List V},elems WV size n ca=some xs→xs.length=ca.length∧
 ∀(i:Nat) y x,ca[i]? = some y→xs[i]? = some x→y=(n+i,.v x)∧x.cells.length=size∧x.isAgg=WV
 |[],n,xs,h=>by simp [elems]at h;subst h;simp
 |(j,d)::ca,n,xs,h=>by
  cases d<;>simp only [elems]at h<;>try cases h
  rename_i hM;rw [Bool.cond_eq_ite]at h;split at h
  case isFalse=>cases h
  rename_i hb;simp only [Bool.and_eq_true,Nat.beq_eq,beq_iff_eq]at hb;obtain⟨⟨cy,eV⟩,Ns⟩:=hb;simp only [Option.map_eq_some_iff]at h;obtain⟨ys,b6,rfl⟩:=h;obtain⟨Z,ab⟩:=WU b6;refine⟨by simp [Z],λi y x hi hx=>?_⟩
  cases i with
  |zero=>simp at hi hx;subst hi;subst hx;exact⟨by simp [cy],eV,Ns⟩
  |succ i=>
   simp at hi hx
   obtain⟨aj,aD⟩:=ab i y x hi hx;exact⟨by rw [aj];simp;omega,aD⟩
def agI(h:fG P K N M β g tmps w)(hp:fF tmps p)(cf:ff P tt=true){t e:TypeId}{aH co:d9}(aa:look tt t=some aH)(hk:aH.k = .bM e)(eH:look tt e=some co){len:Nat}
 {parts:Array (Nat×Operand)} (aw:o.op = .buildSlice t len parts) {ca:List (Nat×D)} (mt:mapM' (fun(x:Nat×Operand)=>(rd g.env g.b5 p tt (sh tt t x.1) x.2).map λd=>(x.1,d)) parts.toList=some ca)
 {xs:List V} (hx:elems co.k.isAgg co.size 0 ca=some xs) (hlen:xs.length=len) (_hs:1≤co.size) (hb:len*co.size≤16777216) {x:V} (av:hv (.bM co.size len λi=>xs.getD i .gU) x) {rs:List fu} {a':List Prop}:
 Yields P K M β g {e:=some {d:=.v x,own:=some e},rs,a'} o tmps w:=by
 obtain⟨r⟩:=ez cf aa;obtain⟨dV⟩:=ez cf eH;obtain⟨Z,ab⟩:=Nu h hp mt;obtain⟨B8,qX⟩:=WU hx;generalize so:(parts.map fun(x:Nat×Operand)=>(x.1,(⟨tmps,[]⟩:Act).eval x.2))=pa at Z ab
 generalize nw:pa.toList=vs at Z ab
 have jR:vs.length=len:=by omega
 have iq:∀(i:Nat) b,vs[i]? = some b→∃x,xs[i]? = some x∧b.1=i∧dj M b.2 x∧x.cells.length=co.size:=by
  intro i b hi;have M9:i<vs.length:=(List.getElem?_eq_some_iff.1 hi).1;have ha:ca[i]? = some ca[i]:=List.getElem?_eq_getElem (by omega)
  have m5:xs[i]? = some xs[i]:=List.getElem?_eq_getElem (by omega)
  obtain⟨aj,aD,_⟩:=qX i _ _ ha m5;obtain⟨aX,bW⟩:=ab i _ b ha hi;rw [aj]at aX bW;exact⟨_,m5,by simpa using aX.symm,oh bW,aD⟩
 have pU:∀(i:Nat) b,vs[i]? = some b→∃x,xs[i]? = some x∧b.1=i∧b.2.cells.size=co.size∧(∀u,u∈b.2.cells.toList→u.oneCell'=true)∧∀(j:Nat) u c,b.2.cells.toList[j]? = some u→x.cells[j]? = some c→dj M u c:=by
  intro i b hi;obtain⟨x,aj,aD,aX,bW⟩:=iq i b hi;obtain⟨cZ,dr,eR⟩:=(cw.v (β:=β) _ _ aX).cells rfl;refine⟨x,aj,aD,by simp [cellsD]at cZ;omega,dr,λj u c hu hc=>?_⟩
  exact oh (eR j u (.v c) hu (by simp [cellsD,hc]))
 obtain⟨jQ,yk,tL,aue,agJ⟩:=WT (size:=co.size) vs 0 ((Array.range (len*co.size)).map λi=>dV.z.cells[i % dV.z.cells.size]!) (λi x hi=>by
  obtain⟨y,aj,aD,aX,_⟩:=pU i x hi;exact⟨by omega,aX⟩) (by simp [jR])
 have eo:jQ.size=len*co.size:=by rw [tL];simp
 have iV:∀i j,i<len→j<co.size→∃b u,vs[i]? = some b∧b.2.cells.toList[j]? = some u∧jQ.toList[i*co.size+j]? = some u:=by
  intro i j hi hj;have eG:vs[i]? = some vs[i]:=List.getElem?_eq_getElem (by omega)
  obtain⟨y,aj,aD,aX,_⟩:=pU i _ eG;have hu:vs[i].2.cells[j]? = some vs[i].2.cells[j]:=Array.getElem?_eq_getElem (by omega)
  refine⟨vs[i],vs[i].2.cells[j],eG,(Array.getElem?_toList ..).trans hu,?_⟩
  have:=agJ i _ j _ eG hu
  simpa using this
 have eM:(execOp (Act.eval ⟨tmps,[]⟩) o).run P w = .ok (.value (.slice (some ⟨w.heap.size,0,none⟩) len len)) {w with heap:=w.heap.push (.cells ⟨jQ.toList⟩ e (0,0))}:=by
  simp only [execOp,aw];refine jj _ ?_;have bQ:¬ (16777216<len*co.size):=by omega
  have agK:(parts.map fun(x:Nat×Operand)=>match x with|(i,x)=>(i,(⟨tmps,[]⟩:Act).eval x))=pa:=so
  rw [agK];simp only [Instr.buildSlice,Sem.run_bind,r.run_underlying,pT r hk,Result.andThen_ok,dV.run_sizeOf];by_cases h0:len*co.size=0
  ·have bG:∀f:Nat→Value,(Array.range (len*co.size)).map f = #[]:=by intro f;rw [h0];simp
   rw [bG]at yk;have e1:∀f:Nat→Value,(Array.range 0).map f = #[]:=by intro f;simp
   simp [h0,nw,e1,yk,newRow]
  ·simp [h0,bQ,dV.Gl,nw,yk,newRow]
 obtain⟨cT,hle⟩:=h.bq.newRow (w':={w with heap:=w.heap.push (.cells ⟨jQ.toList⟩ e (0,0))}) (T:=e) (vs:=jQ.toList) (n:=len*co.size) rfl;have B9:jQ.toList.take (len*co.size)=jQ.toList:=List.take_of_length_le (by simp [eo])
 refine .inl ⟨_,_,eM,_,β,hle,λ_ _ h=>h,λ_ _ h=>.inl h,cT,λe1 he=>?_⟩
 cases he;refine⟨.v _ _ (av _ _ (.bM _ 0 co.size len len _ (λi j=>jQ.toList.getD (i*co.size+j) undef) (Nat.le_refl _) ?_ ?_ ?_ ?_)),λT l0 aC=>?_⟩
 ·intro i hi;have m5:xs[i]? = some xs[i]:=List.getElem?_eq_getElem (by omega)
  have ha:ca[i]? = some ca[i]:=List.getElem?_eq_getElem (by omega)
  simp only [List.getD,m5,Option.getD_some];exact(qX i _ _ ha m5).2.1
 ·intro i j hi hj;obtain⟨b,u,_,_,hu⟩:=iV i j hi hj;rw [B9,Nat.zero_add];have:=Gu (M:=M) (b:=w.heap.size) (lo:=0) hu
  simpa [List.getD,hu]using this
 ·intro i j hi hj;obtain⟨b,u,cy,Nz,hu⟩:=iV i j hi hj;obtain⟨y,_,_,_,bW,_⟩:=pU i b cy;simp only [List.getD,hu,Option.getD_some];exact Gs bW Nz
 ·intro i j c hi hc;have m5:xs[i]? = some xs[i]:=List.getElem?_eq_getElem (by omega)
  simp only [List.getD,m5,Option.getD_some]at hc
  have hj:j<co.size:=by
   have ha:ca[i]? = some ca[i]:=List.getElem?_eq_getElem (by omega)
   rw [←(qX i _ _ ha m5).2.1];exact(List.getElem?_eq_some_iff.1 hc).1
  obtain⟨b,u,cy,Nz,hu⟩:=iV i j hi hj;obtain⟨y,b6,_,_,_,cZ⟩:=pU i b cy;rw [m5]at b6;cases b6;simp only [List.getD,hu,Option.getD_some];exact(cZ j u c Nz hc).mono hle
 ·cases aC;have:=Nx (l0:=l0) (T:=e) h.bq (vs:=jQ.toList) (T':=e) (n:=len) (cap:=len) (w':={w with heap:=w.heap.push (.cells ⟨jQ.toList⟩ e (0,0))}) rfl rfl (Nat.le_refl _) (by rw [dV.cellsOf];simp [eo])
  rw [dV.cellsOf]at this;exact this
end
section
variable {P:Program} {K:Ctx} {N:Nat} {M:Mem} {β:Nat→Option Nat} {g:dg} {tmps:Array Value} {w:World} {o:Oper} {f:lw} {p:Path} {tt:dD} {cm:gH} {ops:List Oper}
def agL(h:fG P K N M β g tmps w)(hp:fF tmps p)(cf:ff P tt=true){t:TypeId}{aH:d9}(aa:look tt t=some aH){a:Operand}(aw:o.op = .load t a){q off:Nat}(ha:rd g.env g.b5 p tt o.type a=some (.ptr q off))
 {cs:List aW} (au:look g.H q=some cs) (h1:aH.k.isAgg=true) (hle:off+aH.size≤cs.length):
 Yields P K M β g {e:=some {d:=mV (((cs.drop off).take aH.size).map (·.d))},rs:=g.rs} o tmps w:=by
 obtain⟨r⟩:=ez cf aa;obtain⟨b,hb,av⟩:=oZ (ed (ds:=[]) h hp ha);obtain⟨bJ,vs,T,bQ,bm,hlen,_,_,gJ,k2⟩:=h.bq.box q cs au;rw [hb]at bQ;cases bQ;have eM:=Gn (P:=P) (w:=w) r (off:=off) bm (by omega) h1
 refine fg h (v:=.agg ⟨(vs.drop off).take aH.size⟩) ?_ ?_
 ·simp only [execOp,aw];rw [av];exact jj _ eM
 ·refine yh (by simp;omega) (λv av=>gJ v (List.mem_of_mem_drop (List.mem_of_mem_take av))) (λi v c av hc=>?_)
  rw [List.getElem?_map,Option.map_eq_some_iff]at hc;obtain⟨e,he,rfl⟩:=hc;rw [List.getElem?_take]at av he;split at av
  ·rename_i hi;rw [if_pos hi,List.getElem?_drop]at he;rw [List.getElem?_drop]at av;have:=h.bq.e5 (.cell q (off+i)) e (by simp [aI.at,au,he])
   simpa [ce,hb,cell_of_heap bm,av]using this
  ·cases av
def agM(h:fG P K N M β g tmps w)(hp:fF tmps p)(cf:ff P tt=true){t:TypeId}{aH:d9}(aa:look tt t=some aH){a:Operand}(aw:o.op = .load t a){q off:Nat}(ha:rd g.env g.b5 p tt o.type a=some (.ptr q off))
 {cs:List aW} (au:look g.H q=some cs) (h1:aH.k.isAgg=false) {e:aW} (he:cs[off]? = some e):
 Yields P K M β g {e:=some {d:=e.d},rs:=g.rs} o tmps w:=by
 obtain⟨r⟩:=ez cf aa;obtain⟨b,hb,av⟩:=oZ (ed (ds:=[]) h hp ha);obtain⟨bJ,vs,T,v,bQ,bm,eG,ci⟩:=M8 h.bq au he;rw [hb]at bQ;cases bQ;have hc:w.cell? ⟨b,off,none⟩=some v:=by rw [cell_of_heap bm,eG]
 refine fg h (v:=v) ?_ ?_
 ·simp only [execOp,aw];rw [av];exact jj _ (Ni (P:=P) r hc h1)
 ·have:=h.bq.e5 (.cell q off) e (by simp [aI.at,au,he])
  rwa [ci]at this
def WW{cs:List aW}{off:Nat}{e:aW}(cO:off<cs.length)(i:Nat):(setAt cs off [e])[i]? = if i=off then some e else cs[i]? := by
 rw [(oi cs off [e] (by simp;omega)).2 i]
 by_cases hi:i=off
 ·subst hi;simp
 ·rw [if_neg (by simp;omega),if_neg hi]
def agN(h:fG P K N M β g tmps w)(hp:fF tmps p)(cf:ff P tt=true){t:TypeId}{aH:d9}(aa:look tt t=some aH){a:Operand}(aw:o.op = .load t a){q off:Nat}(ha:rd g.env g.b5 p tt o.type a=some (.ptr q off))
 {cs:List aW} (au:look g.H q=some cs) (h1:aH.k.isAgg=false) {e:aW} (he:cs[off]? = some e) {s:TypeId} (hs:e.own=some s) {rs:List fu}:
 Yields P K M β g {e:=some e,hs:=[(q,setAt cs off [{d:=e.d}])],rs} o tmps w:=by
 obtain⟨r⟩:=ez cf aa;obtain⟨b,hb,av⟩:=oZ (ed (ds:=[]) h hp ha);obtain⟨bJ,vs,T,v,bQ,bm,eG,ci⟩:=M8 h.bq au he;rw [hb]at bQ;cases bQ;have hc:w.cell? ⟨b,off,none⟩=some v:=by rw [cell_of_heap bm,eG]
 have cO:off<cs.length:=(List.getElem?_eq_some_iff.1 he).1
 have ji:=λl0=>h.bq.Wy au he hs (cs':=setAt cs off [{d:=e.d}]) (oi cs off _ (by simp;omega)).1 (λj aZ hj=>by
  rw [WW cO]at hj;by_cases NA:j=off
  ·subst NA;simp at hj;subst hj;exact⟨e,he,rfl,by simp⟩
  ·rw [if_neg NA]at hj;exact⟨aZ,hj,rfl,λT aC=>⟨aC,NA⟩⟩) l0
 refine .inl ⟨v,w,?_,M,β,Mem.le_refl _,λ_ _ h=>h,λ_ _ h=>.inl h,(ji (.slot 0)).1,λe1 pV=>?_⟩
 ·simp only [execOp,aw];rw [av];exact jj _ (Ni (P:=P) r hc h1)
 ·cases pV;refine⟨?_,λT l0 aC=>?_⟩
  ·have:=h.bq.e5 (.cell q off) e (by simp [aI.at,au,he])
   rwa [ci]at this
  ·rw [hs]at aC;cases aC;have:=(ji l0).2
   rwa [ci]at this
def agO(h:fG P K N M β g tmps w)(hp:fF tmps p)(cf:ff P tt=true){t:TypeId}{aH:d9}(aa:look tt t=some aH){a:Operand}(aw:o.op = .load t a){x:V}(ha:rd g.env g.b5 p tt o.type a=some (.e8 x))
 (h1:x.isAgg=aH.k.isAgg) (hs:x.cells.length=aH.size):Yields P K M β g {e:=some {d:=.v x},rs:=g.rs} o tmps w:=by
 obtain⟨r⟩:=ez cf aa;obtain⟨u,Z,ab⟩:=ags (w:=w) r h.bq.mem (ed (ds:=[]) h hp ha) h1 hs;exact fg h (v:=u) (by simp only [execOp,aw];exact jj _ Z) (.v _ _ ab)
def NB{t:TypeId}{aH:d9}(r:Row P t aH){b off:Nat}{vs:List Value}{T:TypeId}(bm:w.heap[b]? = some (.cells ⟨vs⟩ T (0,0))){v:Value}(hs:v.cells.size=aH.size)(gJ:∀u,u∈v.cells.toList→u.oneCell'=true)
 (hle:off+aH.size≤vs.length):(Instr.storeAt t (.pointer (some ⟨b,off,none⟩)) v).run P w = .ok () (w.setRow b (vs.take off++v.cells.toList++vs.drop (off+aH.size)).toArray):=by
 have:=run_storeCells_at P b off T v.cells.toList 0 ⟨vs⟩ w bm (by simpa [hs]using hle) gJ
 simp only [Nat.add_zero,Array.length_toList,hs]at this;simp [Instr.storeAt,Instr.sureAddr,storeVar,r.run_sizeOf,hs,this]
def B'{vs us:List Value}{off:Nat}(hle:off+us.length≤vs.length)(i:Nat):(vs.take off++us++vs.drop (off+us.length))[i]? = if off≤i∧i<off+us.length then us[i-off]? else vs[i]? := by
 have aF:(vs.take off).length=off:=by simp;omega
 by_cases Z:i<off
 ·rw [if_neg (by omega),List.append_assoc,List.getElem?_append_left (by omega),List.getElem?_take,if_pos Z]
 ·by_cases ab:i<off+us.length
  ·rw [if_pos (by omega),List.append_assoc,List.getElem?_append_right (by omega),aF,List.getElem?_append_left (by omega)]
  ·rw [if_neg (by omega),List.getElem?_append_right (by simp;omega),List.getElem?_drop]
   congr 1
   simp;omega
def vx{vs us:List Value}{off:Nat}(hle:off+us.length≤vs.length):(vs.take off++us++vs.drop (off+us.length)).length=vs.length:=by
 simp;omega
def NC{vs us:List Value}{off:Nat}(Z:∀v,v∈vs→v.oneCell'=true)(ab:∀v,v∈us→v.oneCell'=true):∀v,v∈vs.take off++us++vs.drop (off+us.length)→v.oneCell'=true:=by
 intro v av;rcases List.mem_append.1 av with av|av
 ·rcases List.mem_append.1 av with av|av
  ·exact Z v (List.mem_of_mem_take av)
  ·exact ab v av
 ·exact Z v (List.mem_of_mem_drop av)
def ND{v:Value}{t:TypeId}{a x:Operand}(aw:o.op = .store t a x)(hx:(⟨tmps,[]⟩:Act).eval x=v){h2:Value}(ha:(⟨tmps,[]⟩:Act).eval a=h2){w':World}(h:(Instr.storeAt t h2 v).run P w = .ok () w'):
 (execOp (Act.eval ⟨tmps,[]⟩) o).run P w = .ok .skip w':=by
 simp only [execOp,aw,hx,ha];simp [h]
def lz.set{T:TypeId}{n:Nat}{cs ds:List aW}{off:Nat}(h:lz P T n cs)(hn:∀e,e∈ds→∀r o u,e.d ≠ .cu r o u)(hle:off+ds.length≤cs.length):lz P T n (setAt cs off ds):=λe he r o u hd=>by
 obtain⟨i,hi,rfl⟩:=List.getElem_of_mem he;have hg:(setAt cs off ds)[i]? = some (setAt cs off ds)[i]:=List.getElem?_eq_getElem hi;rw [(oi cs off ds hle).2 i]at hg;split at hg
 ·exact absurd hd (hn _ (List.mem_of_getElem? hg) r o u)
 ·exact h _ (List.mem_of_getElem? hg) r o u hd
def agP(h:fG P K N M β g tmps w)(hp:fF tmps p)(cf:ff P tt=true){t:TypeId}{aH:d9}(aa:look tt t=some aH){a x:Operand}(aw:o.op = .store t a x){q off:Nat}(ha:rd g.env g.b5 p tt o.type a=some (.ptr q off))
 {cs:List aW} (au:look g.H q=some cs) {d:D} (hx:rd g.env g.b5 p tt t x=some d) (aF:qO d=false) (qV:sf (cellsD d)=true) (hs:(cellsD d).length=aH.size) (hle:off+aH.size≤cs.length):
 Yields P K M β g {e:=none,hs:=[(q,setAt cs off ((cellsD d).map λd=>{d}))],rs:=g.rs} o tmps w:=by
 obtain⟨r⟩:=ez cf aa;obtain⟨b,hb,av⟩:=oZ (ed (ds:=[]) h hp ha);obtain⟨bJ,vs,T,bQ,bm,hlen,_,_,gJ,k2⟩:=h.bq.box q cs au;rw [hb]at bQ;cases bQ;obtain⟨Z,ab,aj⟩:=(ed (ds:=[]) h hp hx).cells aF;generalize hu:(⟨tmps,[]⟩:Act).eval x=u at Z ab aj
 have WX:u.cells.size=aH.size:=by simp at Z;omega
 have qY:u.cells.toList.length=aH.size:=by simpa using WX
 have eM:=NB (P:=P) r (off:=off) bm WX ab (by omega)
 rw [←qY]at eM;refine .inr (.inl ⟨rfl,_,ND aw hu av eM,M,β,Mem.le_refl _,λ_ _ h=>h,λ_ _ h=>.inl h,?_,λe he=>by cases he⟩)
 have lC:=oi cs off ((cellsD d).map λd=>({d}:aW)) (by simp;omega)
 refine h.bq.Gi au hb bm (vs':=vs.take off++u.cells.toList++vs.drop (off+u.cells.toList.length)) (by rw [vx (by omega),lC.1,hlen]) (NC gJ ab) (λ_=>by
  rw [vx (by omega)]
  refine k2.set (λe he=>?_) (by simp;omega)
  obtain⟨c,hc,rfl⟩:=List.mem_map.1 he;exact B1 qV c hc) lC.1
  (setRow_heap w b _ _ T (0,0) bm) (λbJ dk=>setRow_other w b bJ _ dk) cs.length (λi v e eG jm=>?_)
 rw [B' (by omega)]at eG
 rw [lC.2]at jm;simp only [List.length_map]at jm;by_cases hi:off≤i∧i<off+aH.size
 ·rw [if_pos (by omega)]at eG
  rw [if_pos (by omega),List.getElem?_map,Option.map_eq_some_iff]at jm
  obtain⟨c,hc,rfl⟩:=jm;exact⟨aj _ v c eG hc,by simp⟩
 ·rw [if_neg (by omega)]at eG
  rw [if_neg (by omega)]at jm
  have NE:i<cs.length:=(List.getElem?_eq_some_iff.1 jm).1;refine⟨?_,λT aC=>.inl ⟨by omega,⟨e,jm,aC⟩,eG⟩⟩
  have:=h.bq.e5 (.cell q i) e (by simp [aI.at,au,jm])
  simpa [ce,hb,cell_of_heap bm,eG]using this
def WY(ty:Nat→Option TypeId):∀(l:List aW) (n:Nat),(pN ty n l).length=l.length∧∀(i:Nat) aZ,(pN ty n l)[i]? = some aZ→∃e,l[i]? = some e∧((e.d=aZ.d∧∀T,aZ.own=some T→e.own=some T)∨∃k g,e.d = .v (.oS k g)∧aZ.d = .v (.bM k 0 g))
 |[],n=>by simp [pN]
 |e::l,n=>by
  obtain⟨Z,ab⟩:=WY ty l (n+1);refine⟨by simp [pN,Z],λi aZ he=>?_⟩
  cases i with
  |zero=>
   simp only [pN,List.getElem?_cons_zero,Option.some.injEq]at he;refine⟨e,rfl,?_⟩
   split at he
   ·rename_i k g hd;subst he;exact .inr ⟨k,g,hd,rfl⟩
   ·subst he;exact .inl ⟨rfl,λ_ h=>h⟩
  |succ i=>simp only [pN,List.getElem?_cons_succ]at he ⊢;exact ab i aZ he
def WZ(h:fG P K N M β g tmps w)(hp:fF tmps p)(cf:ff P tt=true){t:TypeId}{aH:d9}(aa:look tt t=some aH){a x:Operand}(aw:o.op = .store t a x){q off:Nat}(ha:rd g.env g.b5 p tt o.type a=some (.ptr q off))
 {cs:List aW} (au:look g.H q=some cs) {d:D} (hx:rd g.env g.b5 p tt t x=some d) (aF:qO d=false) (qV:sf (cellsD d)=true) (hs:(cellsD d).length=aH.size) (hle:off+aH.size≤cs.length) (ty:Nat→Option TypeId):
 Yields P K M β g {e:=none,hs:=[(q,pN ty 0 (setAt cs off ((cellsD d).map λd=>{d})))],rs:=g.rs} o tmps w:=by
 have up:∀{M':Mem} {β':Nat→Option Nat} {v:Value} {w':World},iU P K M β g {e:=none,hs:=[(q,setAt cs off ((cellsD d).map λd=>{d}))],rs:=g.rs} tmps v w'→
  iU P K M β g {e:=none,hs:=[(q,pN ty 0 (setAt cs off ((cellsD d).map λd=>{d})))],rs:=g.rs} tmps v w':=by
  rintro M' β' v w' ⟨vy,sq,Z,ab,aj,aD,_⟩
  refine⟨vy,sq,Z,ab,λr b hb=>?_,?_,λe he=>by cases he⟩
  ·rcases aj r b hb with aX|aX
   ·exact .inl aX
   ·right
    simp only [dy]at aX ⊢;split at aX
    ·rename_i oj;simp [oj]
    ·cases aX
  ·obtain⟨g1,g2⟩:=WY ty (setAt cs off ((cellsD d).map λd=>({d}:aW))) 0
   refine aD.agb rfl (λl aZ cN=>?_) (λr cs' ai=>?_)
   ·cases l with
    |slot s=>exact⟨aZ,cN,.inl ⟨rfl,λ_ h=>h⟩⟩
    |cell r i=>
     simp only [aI.at,after,List.cons_append,List.nil_append,dy]at cN ⊢;by_cases oj:q=r
     ·simp only [oj,if_true,Option.bind_some]at cN ⊢;exact g2 i aZ cN
     ·simp only [oj,if_false]at cN ⊢;exact⟨aZ,cN,.inl ⟨rfl,λ_ h=>h⟩⟩
   ·simp only [after,List.cons_append,List.nil_append,dy]at ai ⊢;by_cases oj:q=r
    ·simp only [oj,if_true,Option.some.injEq]at ai ⊢;subst ai;exact⟨_,rfl,g1.symm⟩
    ·simp only [oj,if_false]at ai ⊢;exact⟨cs',ai,rfl⟩
 rcases agP h hp cf aa aw ha au hx aF qV hs hle with⟨v,w',Z,ab⟩|⟨h0,w',Z,ab⟩|⟨fn,vs,Z,ab⟩
 ·exact .inl ⟨v,w',Z,up (M':=M) (β':=β) ab⟩
 ·exact .inr (.inl ⟨h0,w',Z,up (M':=M) (β':=β) ab⟩)
 ·exact .inr (.inr ⟨fn,vs,Z,ab.mono λe w' ⟨v,aj,aD⟩=>⟨v,aj,up (M':=M) (β':=β) aD⟩⟩)
def W0(h:fG P K N M β g tmps w)(hp:fF tmps p)(cf:ff P tt=true){t:TypeId}{aH:d9}(aa:look tt t=some aH){a x:Operand}(aw:o.op = .store t a x){q off:Nat}(ha:rd g.env g.b5 p tt o.type a=some (.ptr q off))
 {cs:List aW} (au:look g.H q=some cs) {k n:Nat} {get:Nat→V} (hx:rd g.env g.b5 p tt t x=some (.v (.bM k n get))) (hs:aH.size=1) (hle:off+aH.size≤cs.length) {s:TypeId} {l:List Nat}
 (f0:mY P K M β {env:=gW l g.env,H:=g.H,aY:=g.aY} tmps w (.cell q off) ((⟨tmps,[]⟩:Act).eval x) s):
 Yields P K M β g {e:=none,hy:=l,hs:=[(q,setAt cs off [{d:=.v (.bM k n get),own:=some s}])],rs:=g.rs} o tmps w:=by
 obtain⟨r⟩:=ez cf aa;obtain⟨b,hb,av⟩:=oZ (ed (ds:=[]) h hp ha);have o0:=h.bq.hy l;obtain⟨bJ,vs,T,bQ,bm,hlen,_,_,gJ,k2⟩:=h.bq.box q cs au;rw [hb]at bQ;cases bQ;have lD:=ed (ds:=[]) h hp hx;generalize hu:(⟨tmps,[]⟩:Act).eval x=u at lD f0
 have B_:u.cells = #[u]∧u.oneCell'=true:=by
  obtain⟨a,cap,rfl,_⟩:=vv lD;exact⟨rfl,rfl⟩
 have eM:=NB (P:=P) r (off:=off) bm (v:=u) (by rw [B_.1,hs];rfl) (by rw [B_.1];simpa using B_.2) (by omega)
 rw [B_.1,hs]at eM;have cO:off<cs.length:=by omega
 refine .inr (.inl ⟨rfl,_,ND aw hu av eM,M,β,Mem.le_refl _,λ_ _ h=>h,λ_ _ h=>.inl h,?_,λe he=>by cases he⟩)
 refine o0.Gi (st:={env:=gW l g.env,H:=g.H,aY:=g.aY}) au hb bm (vs':=vs.take off++[u]++vs.drop (off+1)) (by rw [show off+1=off+[u].length by rfl,vx (by simp;omega),(oi cs off _ (by simp;omega)).1,hlen])
  (NC (us:=[u]) gJ (by simpa using B_.2)) (λ_=>by
   rw [show off+1=off+[u].length by rfl,vx (by simp;omega)]
   refine k2.set (λe he=>?_) (by simp;omega)
   obtain rfl:=List.mem_singleton.1 he;exact λ_ _ _ e=>by cases e) (oi cs off _ (by simp;omega)).1 (setRow_heap w b _ _ T (0,0) bm) (λbJ dk=>setRow_other w b bJ _ dk) off (λi v e eG jm=>?_)
 rw [show off+1=off+[u].length by rfl,B' (by simp;omega)]at eG
 rw [WW cO]at jm;by_cases hi:i=off
 ·subst hi;simp at eG jm
  subst eG;subst jm;refine⟨lD,λT aC=>.inr ⟨rfl,?_⟩⟩
  cases aC;exact f0
 ·rw [if_neg hi]at jm;rw [if_neg (by simp;omega)]at eG
  refine⟨?_,λT aC=>.inl ⟨hi,⟨e,jm,aC⟩,eG⟩⟩
  have:=h.bq.e5 (.cell q i) e (by simp [aI.at,au,jm])
  simpa [ce,hb,cell_of_heap bm,eG]using this
end
section
variable {P:Program} {K:Ctx} {M:Mem} {β:Nat→Option Nat} {st:aI} {tmps:Array Value} {w:World}
def bL.W1(h:bL P K M β st tmps w){r off size T b:Nat}{cs cs':List aW}{vs:List Value}{dD:TypeId}(ai:look st.H r=some cs)(hb:β r=some b)(bm:w.heap[b]? = some (.cells ⟨vs⟩ dD (0,0)))
 (gJ:∀v,v∈vs→v.oneCell'=true) (hlen:vs.length=cs.length)
 (hm:∀x,x∈marks T→x.1<size∧∃e,cs[off+x.1]? = some e∧e.own=some x.2)
 (ei:cs'.length=cs.length) (ji:∀(j:Nat) aZ,cs'[j]? = some aZ→∃bG,cs[j]? = some bG∧bG.d=aZ.d∧(∀U,aZ.own=some U→bG.own=some U∧∀x,x∈marks T→j≠off+x.1)) (l0:Loc):
 bL P K M β {st with H:=(r,cs')::st.H} tmps w∧mY P K M β {st with H:=(r,cs')::st.H} tmps w l0 (.agg ⟨(vs.drop off).take size⟩) T:=by
 have fr:∀l aZ,({st with H:=(r,cs')::st.H}:aI).at l=some aZ→∃bG,st.at l=some bG∧bG.d=aZ.d∧∀U,aZ.own=some U→bG.own=some U∧∀x,x∈marks T→l ≠ .cell r (off+x.1):=by
  intro l aZ cN;cases l with
  |slot s=>exact⟨aZ,cN,rfl,λU h=>⟨h,λ_ _=>by simp⟩⟩
  |cell cJ j=>
   by_cases hF:r=cJ
   ·subst hF;simp [aI.at,dy]at cN;obtain⟨bG,Z,ab,aj⟩:=ji j aZ cN;exact⟨bG,by simp [aI.at,ai,Z],ab,λU f6=>⟨(aj U f6).1,λx hx=>by simp [(aj U f6).2 x hx]⟩⟩
   ·refine⟨aZ,by simpa [aI.at,dy,hF]using cN,rfl,λU h=>⟨h,λ_ _=>by simp [Ne.symm hF]⟩⟩
 have eL:∀cJ c,look ((r,cs')::st.H) cJ=some c→∃hZ,look st.H cJ=some hZ∧hZ.length=c.length:=by
  intro cJ c hc;by_cases hF:r=cJ
  ·subst hF;simp [dy]at hc;subst hc;exact⟨cs,ai,ei.symm⟩
  ·exact⟨c,by simpa [dy,hF]using hc,rfl⟩
 -- Gv auf at a mark
 have mk:∀x,x∈marks T→∃e,st.at (.cell r (off+x.1))=some e∧e.own=some x.2∧ce tmps w β (.cell r (off+x.1))=(Array.mk ((vs.drop off).take size)).getD x.1 undef∧l9 P K.F M w x.2 ((Array.mk ((vs.drop off).take size)).getD x.1 undef)∧
  ∀cb,jg x.2 (ce tmps w β (.cell r (off+x.1))) cb↔kh ((Array.mk ((vs.drop off).take size)).getD x.1 undef)=some cb:=by
  intro x hx;obtain⟨cO,e,he,aC⟩:=hm x hx;have aa:st.at (.cell r (off+x.1))=some e:=by simp [aI.at,ai,he]
  have NF:off+x.1<vs.length:=by rw [hlen];exact(List.getElem?_eq_some_iff.1 he).1
  have av:ce tmps w β (.cell r (off+x.1))=vs[off+x.1]:=by simp only [ce,hb,cell_of_heap bm,List.getElem?_eq_getElem NF,Option.getD_some]
  have hg:(Array.mk ((vs.drop off).take size)).getD x.1 undef=vs[off+x.1]:=by
   have:((vs.drop off).take size)[x.1]? = some vs[off+x.1]:=by rw [List.getElem?_take,if_pos cO,List.getElem?_drop,List.getElem?_eq_getElem NF]
   simp [Array.getD_eq_getD_getElem?,this]
  have aw:=h.own _ e x.2 aa aC;have Z:=gJ vs[off+x.1] (List.getElem_mem NF);refine⟨e,aa,aC,av.trans hg.symm,?_,?_⟩
  ·rw [hg];rw [av]at aw;rcases aw.cases with⟨c,hc⟩|⟨ab,_⟩
   ·rw [hc]at Z;cases Z
   ·exact ab
  ·rw [hg];rw [av]at aw ⊢;rcases aw.cases with⟨c,hc⟩|⟨_,ab⟩
   ·rw [hc]at Z;cases Z
   ·exact ab
 refine⟨h.sub rfl (λl aZ cN=>?_) eL,⟨λx hx=>?_,λx hx y b6 m3 cb Z ab=>?_⟩,λl aZ T' cb cN ec _ cy bQ=>?_,λcb cJ c cy fe=>?_⟩
 ·obtain⟨bG,Z,ab,aj⟩:=fr l aZ cN;exact⟨bG,Z,ab,λT aC=>(aj T aC).1⟩
 ·obtain⟨_,_,_,_,Z,_⟩:=mk x hx;exact Z
 ·obtain⟨e1,bb,a2,_,_,a3⟩:=mk x hx;obtain⟨e2,c1,c2,_,_,c3⟩:=mk y b6;have:=h.uniq _ _ e1 e2 x.2 y.2 cb bb a2 c1 c2 ((a3 cb).2 Z) ((c3 cb).2 ab)
  simp only [Loc.cell.injEq]at this;omega
 ·obtain⟨x,hx,cy⟩:=cy;obtain⟨e1,bb,a2,_,_,a3⟩:=mk x hx;obtain⟨bG,Z,_,aj⟩:=fr l aZ cN;exact(aj T' ec).2 x hx (h.uniq l _ bG e1 T' x.2 cb Z (aj T' ec).1 bb a2 bQ ((a3 cb).2 cy))
 ·obtain⟨x,hx,cy⟩:=cy;obtain⟨e1,bb,a2,_,_,a3⟩:=mk x hx;obtain⟨hZ,Z,_⟩:=eL cJ c fe;exact h.unbox _ e1 x.2 cb cJ hZ bb a2 ((a3 cb).2 cy) Z
def bL.agQ(h:bL P K M β st tmps w){s r off T:Nat}{e:aW}{cs cs':List aW}{us:List Value}(hs:look st.env s=some e)(aC:e.own=some T)(hu:tmps.getD s undef = .agg ⟨us⟩)
 (ai:look st.H r=some cs) (av:∀x,x∈marks T→ce tmps w β (.cell r (off+x.1))=(Array.mk us).getD x.1 undef) (ei:cs'.length=cs.length)
 (gJ:∀x,x∈marks T→∀c,(Array.mk us).getD x.1 undef ≠ .agg c)
 (ji:∀(j:Nat) aZ,cs'[j]? = some aZ→∃bG,cs[j]? = some bG∧bG.d=aZ.d∧∀U,aZ.own=some U→bG.own=some U∨∃x,x∈marks T∧j=off+x.1∧U=x.2):
 bL P K M β {st with env:=gW [s] st.env,H:=(r,cs')::st.H} tmps w:=by
 have aa:st.at (.slot s)=some e:=hs;have aw:=h.own (.slot s) e T aa aC;have ci:ce tmps w β (.slot s) = .agg ⟨us⟩:=hu;rw [ci]at aw
 have fr:∀l aZ,({st with env:=gW [s] st.env,H:=(r,cs')::st.H}:aI).at l=some aZ→∃bG,st.at l=some bG∧bG.d=aZ.d∧∀U,aZ.own=some U→(bG.own=some U∧l ≠ .slot s)∨∃x,x∈marks T∧l = .cell r (off+x.1)∧U=x.2:=by
  intro l aZ cN;cases l with
  |slot sl=>
   simp only [aI.at,nu]at cN ⊢;by_cases vp:sl=s
   ·subst vp;simp at cN
    obtain⟨e1,Z,rfl⟩:=cN;exact⟨e1,Z,rfl,λU f6=>by simp at f6⟩
   ·simp [vp]at cN;exact⟨aZ,cN,rfl,λU f6=>.inl ⟨f6,by simp [vp]⟩⟩
  |cell cJ j=>
   by_cases hF:r=cJ
   ·subst hF;simp [aI.at,dy]at cN;obtain⟨bG,Z,ab,aj⟩:=ji j aZ cN;refine⟨bG,by simp [aI.at,ai,Z],ab,λU f6=>?_⟩
    rcases aj U f6 with aD|⟨x,hx,aD,aX⟩
    ·exact .inl ⟨aD,by simp⟩
    ·exact .inr ⟨x,hx,by rw [aD],aX⟩
   ·exact⟨aZ,by simpa [aI.at,dy,hF]using cN,rfl,λU f6=>.inl ⟨f6,by simp⟩⟩
 have eL:∀cJ c,look ((r,cs')::st.H) cJ=some c→∃hZ,look st.H cJ=some hZ∧hZ.length=c.length:=by
  intro cJ c hc;by_cases hF:r=cJ
  ·subst hF;simp [dy]at hc;subst hc;exact⟨cs,ai,ei.symm⟩
  ·exact⟨c,by simpa [dy,hF]using hc,rfl⟩
 have Gw:∀x,x∈marks T→∀cb,jg x.2 ((Array.mk us).getD x.1 undef) cb↔kh ((Array.mk us).getD x.1 undef)=some cb:=by
  intro x hx cb;have:=gJ x hx
  generalize (Array.mk us).getD x.1 undef=v at this
  cases v<;>first
   |exact Iff.rfl
   |exact absurd rfl (this _)
 have NG:∀x,x∈marks T→∀cb,kh ((Array.mk us).getD x.1 undef)=some cb→jg T (ce tmps w β (.slot s)) cb:=λx hx cb cy=>by rw [ci];exact⟨x,hx,cy⟩
 -- l' state agR any marks, first
 have base:bL P K M β {st with env:=gW [s] st.env,H:=(r,cs')::st.H} tmps w↔True:=by
  refine⟨λ_=>trivial,λ_=>?_⟩
  constructor
  ·intro l aZ cN;obtain⟨bG,Z,ab,_⟩:=fr l aZ cN;rw [←ab];exact h.e5 l bG Z
  ·intro l aZ U cN f6;obtain⟨bG,Z,_,aj⟩:=fr l aZ cN;rcases aj U f6 with⟨aD,_⟩|⟨x,hx,rfl,rfl⟩
   ·exact h.own l bG U Z aD
   ·rw [av x hx];exact(aw.1 x hx).at
  ·intro l cI e1 e2 U Gx cb e6 f6 eH W2 cy eV;obtain⟨f1,g1,_,dt⟩:=fr l e1 e6;obtain⟨f2,g2,_,ak⟩:=fr cI e2 eH;rcases dt U f6 with⟨m1,W3⟩|⟨x,hx,rfl,rfl⟩
   ·rcases ak Gx W2 with⟨m2,W4⟩|⟨y,b6,rfl,rfl⟩
    ·exact h.uniq l cI f1 f2 U Gx cb g1 m1 g2 m2 cy eV
    ·rw [av y b6,Gw y b6]at eV;exact absurd (h.uniq l (.slot s) f1 e U T cb g1 m1 aa aC cy (NG y b6 cb eV)) W3
   ·rw [av x hx,Gw x hx]at cy;rcases ak Gx W2 with⟨m2,W4⟩|⟨y,b6,rfl,rfl⟩
    ·exact absurd (h.uniq cI (.slot s) f2 e Gx T cb g2 m2 aa aC eV (NG x hx cb cy)) W4
    ·rw [av y b6,Gw y b6]at eV;by_cases m3:x.1=y.1
     ·rw [m3]
     ·exact absurd eV (aw.2 x hx y b6 m3 cb cy)
  ·intro l e1 U cb cJ c e6 f6 cy fe;obtain⟨f1,g1,_,dt⟩:=fr l e1 e6;obtain⟨hZ,Z,_⟩:=eL cJ c fe;rcases dt U f6 with⟨m1,W3⟩|⟨x,hx,rfl,rfl⟩
   ·exact h.unbox l f1 U cb cJ hZ g1 m1 cy Z
   ·rw [av x hx,Gw x hx]at cy;exact h.unbox (.slot s) e T cb cJ hZ aa aC (NG x hx cb cy) Z
  ·intro cJ c fe;obtain⟨hZ,hE,hlen⟩:=eL cJ c fe;obtain⟨cb,vs,hh,Z,ab,aj,aD,aX,bW,cZ⟩:=h.box cJ hZ hE
   exact⟨cb,vs,hh,Z,ab,aj.trans hlen,aD,aX,bW,cZ.M7 hE fe λl aZ aa=>by
    obtain⟨e,g1,g2,_⟩:=fr l aZ aa;exact⟨e,g1,.inl g2⟩⟩
  ·intro r1 r2 cb c1 c2 hE ir cy eV;obtain⟨d1,Z,_⟩:=eL r1 c1 hE;obtain⟨d2,ab,_⟩:=eL r2 c2 ir;exact h.inj r1 r2 cb d1 d2 Z ab cy eV
  ·exact h.lt
  ·exact h.mem
  ·exact h.m0
  ·exact h.frame
  ·exact h.iC
  ·exact h.jh
  ·exact h.hY
 exact base.2 trivial
end
def Ca:∀(l:List aW) (i:Nat) (x:Nat×TypeId),x∈marksOf i l→i≤x.1∧∃e,l[x.1-i]? = some e∧e.own=some x.2
 |[],i,x,h=>by simp [marksOf]at h
 |e::l,i,x,h=>by
  have next:x∈marksOf (i+1) l→i≤x.1∧∃aZ,(e::l)[x.1-i]? = some aZ∧aZ.own=some x.2:=λh=>by
   obtain⟨Z,aZ,ab,aj⟩:=Ca l (i+1) x h;refine⟨by omega,aZ,?_,aj⟩
   rw [show x.1-i=(x.1-(i+1))+1 by omega,List.getElem?_cons_succ];exact ab
  unfold marksOf at h;split at h
  ·rename_i T aC;rcases List.mem_cons.1 h with rfl|h
   ·exact⟨Nat.le_refl _,e,by simp,aC⟩
   ·exact next h
  ·exact next h
def NH:∀{l m:List (Nat×TypeId)},tA l m=true→l=m
 |[],[],_=>rfl
 |x::l,y::m,h=>by
  simp only [tA,Bool.and_eq_true,Nat.beq_eq]at h;rw [NH h.2];obtain⟨a,b⟩:=x;obtain⟨c,d⟩:=y;simp only at h
  rw [h.1.1,h.1.2]
 |[],_::_,h=>by simp [tA]at h
 |_::_,[],h=>by simp [tA]at h
def W5:∀{ms:List (Nat×TypeId)} {i:Nat} {U:TypeId},x8 ms i=some U→∃x,x∈ms∧x.1=i∧U=x.2
 |[],i,U,h=>by simp [x8]at h
 |x::l,i,U,h=>by
  unfold x8 at h;rw [Bool.cond_eq_ite]at h;split at h
  ·rename_i hx;cases h;exact⟨x,by simp,by simpa using hx,rfl⟩
  ·obtain⟨y,b6,Z,ab⟩:=W5 h;exact⟨y,by simp [b6],Z,ab⟩
def W6(ms:List (Nat×TypeId)):∀(ds:List D) (i:Nat),(pO ms i ds).length=ds.length∧∀(j:Nat),(pO ms i ds)[j]? = (ds[j]?).map λd=>{d,own:=x8 ms (i+j)}
 |[],i=>by simp [pO]
 |d::ds,i=>by
  obtain⟨Z,ab⟩:=W6 ms ds (i+1);refine⟨by simp [pO,Z],λj=>?_⟩
  cases j with
  |zero=>simp [pO]
  |succ j=>simp only [pO,List.getElem?_cons_succ];rw [ab j,show i+1+j=i+(j+1)by omega]
def agS{M:Mem}{β:Nat→Option Nat}{v:Value}{d:D}(h:cw M β v d)(hd:M1 d=true):∃us,v = .agg ⟨us⟩:=by
 cases h<;>first
  |(cases hd;done)
  |(rename_i hx;cases hx<;>first |(cases hd;done) |exact⟨_,rfl⟩)
  |exact⟨_,rfl⟩
section
variable {P:Program} {K:Ctx} {N:Nat} {M:Mem} {β:Nat→Option Nat} {g:dg} {tmps:Array Value} {w:World} {o:Oper} {p:Path} {tt:dD}
def agT(h:fG P K N M β g tmps w)(hp:fF tmps p)(cf:ff P tt=true){t:TypeId}{aH:d9}(aa:look tt t=some aH){a:Operand}(aw:o.op = .load t a){q off:Nat}(ha:rd g.env g.b5 p tt o.type a=some (.ptr q off))
 {cs:List aW} (au:look g.H q=some cs) (h1:aH.k.isAgg=true) (hle:off+aH.size≤cs.length) {c:Nat} (hm:tA (marks c) (marksOf 0 ((cs.drop off).take aH.size))=true) {rs:List fu}:
 Yields P K M β g {e:=some {d:=mV (((cs.drop off).take aH.size).map (·.d)),own:=some c},hs:=[(q,setAt cs off (((cs.drop off).take aH.size).map λe=>{d:=e.d}))],rs} o tmps w:=by
 obtain⟨r⟩:=ez cf aa;obtain⟨b,hb,av⟩:=oZ (ed (ds:=[]) h hp ha);obtain⟨bJ,vs,T,bQ,bm,hlen,_,_,gJ,k2⟩:=h.bq.box q cs au;rw [hb]at bQ;cases bQ;have eM:=Gn (P:=P) (w:=w) r (off:=off) bm (by omega) h1
 have qZ:=NH hm;have jR:((cs.drop off).take aH.size).length=aH.size:=by simp;omega
 have lC:=oi cs off (((cs.drop off).take aH.size).map λe=>({d:=e.d}:aW)) (by rw [List.length_map,jR];exact hle)
 have q0:∀j,j<aH.size→((cs.drop off).take aH.size)[j]? = cs[off+j]? := λj hj=>by rw [List.getElem?_take,if_pos hj,List.getElem?_drop]
 have ji:=λl0=>h.bq.W1 (T:=c) (size:=aH.size) (off:=off) au hb bm gJ hlen (cs':=setAt cs off (((cs.drop off).take aH.size).map λe=>{d:=e.d})) (λx hx=>by
  rw [qZ]at hx;obtain⟨_,e,ab,aj⟩:=Ca _ 0 x hx;rw [Nat.sub_zero]at ab;have cO:x.1<aH.size:=by rw [←jR];exact(List.getElem?_eq_some_iff.1 ab).1
  exact⟨cO,e,by rw [←q0 x.1 cO];exact ab,aj⟩) lC.1 (λj aZ hj=>by
  rw [lC.2]at hj;rw [List.length_map,jR]at hj;by_cases hi:off≤j∧j<off+aH.size
  ·rw [if_pos hi,List.getElem?_map,Option.map_eq_some_iff]at hj;obtain⟨bG,Z,rfl⟩:=hj;rw [q0 _ (by omega),show off+(j-off)=j by omega]at Z
   exact⟨bG,Z,rfl,λU f6=>by cases f6⟩
  ·rw [if_neg hi]at hj;refine⟨aZ,hj,rfl,λU f6=>⟨f6,λx hx agU=>?_⟩⟩
   rw [qZ]at hx;obtain⟨_,e,ab,_⟩:=Ca _ 0 x hx;rw [Nat.sub_zero]at ab;have cO:x.1<aH.size:=by rw [←jR];exact(List.getElem?_eq_some_iff.1 ab).1
   omega) l0
 refine .inl ⟨.agg ⟨(vs.drop off).take aH.size⟩,w,?_,M,β,Mem.le_refl _,λ_ _ h=>h,λ_ _ h=>.inl h,(ji (.slot 0)).1,λe1 pV=>?_⟩
 ·simp only [execOp,aw];rw [av];exact jj _ eM
 ·cases pV;refine⟨?_,λT l0 aC=>?_⟩
  ·refine yh (by simp;omega) (λv av=>gJ v (List.mem_of_mem_drop (List.mem_of_mem_take av))) (λi v c av hc=>?_)
   rw [List.getElem?_map,Option.map_eq_some_iff]at hc;obtain⟨e,he,rfl⟩:=hc;rw [List.getElem?_take]at av he;split at av
   ·rename_i hi;rw [if_pos hi,List.getElem?_drop]at he;rw [List.getElem?_drop]at av;have:=h.bq.e5 (.cell q (off+i)) e (by simp [aI.at,au,he])
    simpa [ce,hb,cell_of_heap bm,av]using this
   ·cases av
  ·cases aC;exact(ji l0).2
def agV(h:fG P K N M β g tmps w)(hp:fF tmps p)(cf:ff P tt=true){t:TypeId}{aH:d9}(aa:look tt t=some aH){a:Operand}{u:Nat}(aw:o.op = .store t a (.tmp u)){q off:Nat}(ha:rd g.env g.b5 p tt o.type a=some (.ptr q off))
 {cs:List aW} (au:look g.H q=some cs) {d:D} (hx:rd g.env g.b5 p tt t (.tmp u)=some d) (aF:qO d=false) (qV:sf (cellsD d)=true) (hs:(cellsD d).length=aH.size) (hle:off+aH.size≤cs.length)
 (h1:M1 d=true) {yl:aW} {s:TypeId} (vz:look g.env u=some yl) (aC:yl.own=some s) (mv:∀x,x∈marks s→x.1<aH.size) {rs:List fu}:
 Yields P K M β g {e:=none,hy:=[u],hs:=[(q,setAt cs off (pO (marks s) 0 (cellsD d)))],rs} o tmps w:=by
 obtain⟨r⟩:=ez cf aa;obtain⟨b,hb,av⟩:=oZ (ed (ds:=[]) h hp ha);obtain⟨bJ,vs,T,bQ,bm,hlen,_,_,gJ,k2⟩:=h.bq.box q cs au;rw [hb]at bQ;cases bQ;have f5:=ed (ds:=[]) h hp hx;obtain⟨us,NI⟩:=agS f5 h1;obtain⟨Z,ab,aj⟩:=f5.cells aF;rw [NI]at Z ab aj;have Gy:(Value.agg ⟨us⟩).cells.toList=us:=rfl;rw [Gy]at ab
 have qY:us.length=aH.size:=by
  have:(Value.agg ⟨us⟩).cells.toList.length=(cellsD d).length:=by simpa using Z
  rw [Gy]at this;omega
 have eM:=NB (P:=P) r (off:=off) bm (v:=.agg ⟨us⟩) qY ab (by omega)
 rw [Gy,←qY]at eM;have lC:=oi cs off ((cellsD d).map λd=>({d}:aW)) (by simp;omega)
 have NJ:=W6 (marks s) (cellsD d) 0;have W7:=oi cs off (pO (marks s) 0 (cellsD d)) (by rw [NJ.1];omega)
 have qW:=setRow_heap w b _ (vs.take off++us++vs.drop (off+us.length)).toArray T (0,0) bm
 have agW:bL P K M β {env:=g.env,H:=(q,setAt cs off ((cellsD d).map λd=>{d}))::g.H,aY:=g.aY} tmps (w.setRow b (vs.take off++us++vs.drop (off+us.length)).toArray):=by
  refine h.bq.Gi au hb bm (vs':=vs.take off++us++vs.drop (off+us.length)) (by rw [vx (by omega),lC.1,hlen]) (NC gJ ab) (λ_=>by
   rw [vx (by omega)]
   refine k2.set (λe he=>?_) (by simp;omega)
   obtain⟨c,hc,rfl⟩:=List.mem_map.1 he;exact B1 qV c hc) lC.1 qW (λbJ dk=>setRow_other w b bJ _ dk) cs.length (λi v e eG jm=>?_)
  rw [B' (by omega)]at eG
  rw [lC.2]at jm;simp only [List.length_map]at jm;by_cases hi:off≤i∧i<off+aH.size
  ·rw [if_pos (by omega)]at eG
   rw [if_pos (by omega),List.getElem?_map,Option.map_eq_some_iff]at jm
   obtain⟨c,hc,rfl⟩:=jm;exact⟨aj _ v c (by rw [Gy];exact eG) hc,by simp⟩
  ·rw [if_neg (by omega)]at eG
   rw [if_neg (by omega)]at jm
   have NE:i<cs.length:=(List.getElem?_eq_some_iff.1 jm).1;refine⟨?_,λT aC=>.inl ⟨by omega,⟨e,jm,aC⟩,eG⟩⟩
   have:=h.bq.e5 (.cell q i) e (by simp [aI.at,au,jm])
   simpa [ce,hb,cell_of_heap bm,eG]using this
 have agX:=agW.agQ (s:=u) (r:=q) (off:=off) (T:=s) (us:=us) (cs:=setAt cs off ((cellsD d).map λd=>{d})) (cs':=setAt cs off (pO (marks s) 0 (cellsD d))) vz aC NI (by simp [dy]) (λx hx=>by
  have cO:=mv x hx
  have:(vs.take off++us++vs.drop (off+us.length))[off+x.1]? = us[x.1]? := by
   rw [B' (by omega),if_pos (by omega)];congr 1;omega
  simp only [ce,hb,cell_of_heap qW,this];simp [Array.getD_eq_getD_getElem?]) (by rw [W7.1,lC.1]) (λx hx c hc=>by
  have cO:=mv x hx;have aD:(Array.mk us).getD x.1 undef=us[x.1]'(by omega):=by simp [Array.getD_eq_getD_getElem?,List.getElem?_eq_getElem (show x.1<us.length by omega)]
  have aX:=ab (us[x.1]'(by omega)) (List.getElem_mem _)
  rw [aD]at hc;rw [hc]at aX;cases aX) (λj aZ hj=>by
  rw [W7.2,NJ.1]at hj;rw [lC.2,List.length_map];by_cases hi:off≤j∧j<off+(cellsD d).length
  ·rw [if_pos hi,NJ.2,Option.map_eq_some_iff]at hj;obtain⟨c,hc,rfl⟩:=hj;refine⟨{d:=c},by rw [if_pos hi,List.getElem?_map,hc];rfl,rfl,λU f6=>.inr ?_⟩
   simp only [Nat.zero_add]at f6;obtain⟨x,hx,aX,bW⟩:=W5 f6;exact⟨x,hx,by omega,bW⟩
  ·rw [if_neg hi]at hj;exact⟨aZ,by rw [if_neg hi];exact hj,rfl,λU f6=>.inl f6⟩)
 refine .inr (.inl ⟨rfl,_,ND aw NI av eM,M,β,Mem.le_refl _,λ_ _ h=>h,λ_ _ h=>.inl h,?_,λe he=>by cases he⟩)
 refine agX.sub rfl (λl aZ cN=>⟨aZ,?_,rfl,λ_ h=>h⟩) (λr cs' ai=>⟨cs',?_,rfl⟩)
 ·cases l with
  |slot sl=>exact cN
  |cell cJ j=>
   simp only [aI.at,after,List.cons_append,List.nil_append,dy]at cN ⊢;by_cases oj:q=cJ
   ·simpa [oj]using cN
   ·simpa [oj]using cN
 ·simp only [after,List.cons_append,List.nil_append,dy]at ai ⊢;by_cases oj:q=r
  ·simpa [oj]using ai
  ·simpa [oj]using ai
end
end Go.Ab

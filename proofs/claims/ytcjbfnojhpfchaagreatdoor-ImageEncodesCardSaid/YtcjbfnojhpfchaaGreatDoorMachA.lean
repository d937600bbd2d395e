/- The abstract machine: a step of code over plain data, proved against the model. -/
import Derived.Orders
import Derived.KernelRfl
import Derived.Laws.Sem
import Derived.Laws.Entries
import Derived.ChangeKeysEq
import Derived.Laws.Cells
import Derived.Laws.CopyRow
import Derived.Laws.Slices
import Derived.Laws.Strings2
import Derived.Deep.AppendSrc
set_option linter.all false
namespace Go.Ab
abbrev al5:=List UInt8
inductive V where
 |int (k:IntKind) (n:Int)
 |bool (b:Bool)
 |str (s:al5)
 |agg (cs:List V)
 |bD (k n:Nat) (get:Nat→V)
 |iface (t:TypeId) (x:V)
 |en |hI |aR
 |any
 |nj (k:Nat) (get:Nat→V)
def V.cells:V→List V
 |.agg cs=>cs
 |x=>[x]
inductive D where
 |v (x:V)
 |ptr (r off:Nat)
 |co (r off:Nat) (u:TypeId)
 |eI (x:V)
 |full (k n:Nat) (get:Nat→V)
 |fn (f:FuncId) (eQ:List D)
 |agg (cs:List D)
 |cx (cs:List D)
structure a1 where
 d:D
 own:Option TypeId:=none
structure aI where
 env:List (Nat×a1)
 H:List (Nat×List a1)
 aW:Nat
inductive k4 where
 |int (k:IntKind) |bool |str
 |bZ (cr:List (Nat×TypeId×Nat))
 |bD (e:TypeId) |arr (n:Nat) (e:TypeId) |ptr |a8 |nk
deriving DecidableEq
structure ew where
 k:k4
 size:Nat
 bytes:Nat
 zero:List V
 iT:List (Nat×TypeId):=[]
abbrev dw:=List (TypeId×ew)
def look{α:Type}:List (Nat×α)→Nat→Option α
 |[],_=>none
 |(j,x)::l,i=>bif Nat.beq j i then some x else look l i
def del{α:Type}:List (Nat×α)→Nat→List (Nat×α)
 |[],_=>[]
 |(j,x)::l,i=>bif Nat.beq j i then del l i else(j,x)::del l i
def k4.isAgg:k4→Bool
 |.bZ _ |.arr _ _=>true
 |_=>false
abbrev Path:=List (Nat×Bool)
def Path.has(p:Path)(x:Nat×Bool):Bool:=p.any λy=>Nat.beq y.1 x.1&&(y.2 == x.2)
def Path.sub(q p:Path):Bool:=q.all p.has
inductive Out where
 |ret (d:D) (own:Option TypeId)
 |bd (x:V)
inductive e' where
 |val (x:V)
 |raw
 |own
 |call (o:Out) (H:Option (List (List a1))) (os:List Nat)
def aN(i:Int)(n:Nat):Bool:=decide (0≤i)&&decide (i<n)
def gS(i:Int)(n:Nat):Bool:=decide (0≤i)&&decide (i≤n)
def nl(a b:Int)(n:Nat):Bool:=decide (0≤a)&&(decide (a≤b)&&decide (b≤n))
def o7(a:Int):Bool:=!decide (a=0)
def room(n b:Nat):Bool:=decide (n*b≤140737488355328)
def br(n:Nat):Bool:=decide (n≤9223372036854775807)
structure c_ where
 env:List (Nat×a1)
 bU:List (Nat×Path×D)
 H:List (Nat×List a1)
 aW:Nat
 rs:List e'
 aZ:List Prop
 ids:List (Nat×Nat):=[]
def GS:Value→Option V
 |.int k n=>some (.int k n)
 |.bool b=>some (.bool b)
 |.string s=>some (.str s.data.toList)
 |.pointer none=>some .en
 |.nilIface=>some .hI
 |.nilFunc=>some .aR
 |_=>none
def rd(env:List (Nat×a1))(bU:List (Nat×Path×D))(p:Path)(tt:dw)(ty:TypeId):Operand→Option D
 |.tmp t=>match look bU t with
  |some (q,d)=>bif q.sub p then some d else none
  |none=>(look env t).map (·.d)
 |.const (.slice none 0 0)=>match look tt ty with
  |some {k:=.bD _,zero:=[.bD k 0 get],..}=>some (.v (.bD k 0 get))
  |_=>none
 |.const v=>(GS v).map .v
 |.func f=>some (.fn f [])
 |.global _=>none
def kR(f:TypeId→Operand→Option D):List Operand→List TypeId→Option (List D)
 |[],_=>some []
 |x::xs,t::ts=>match f t x,kR f xs ts with
  |some d,some ds=>some (d::ds)
  |_,_=>none
 |_::_,[]=>none
def xx:List D→Option (List V)
 |[]=>some []
 |.v x::l=>(xx l).map (x :: ·)
 |_::_=>none
def o8(cs:List D):D:=match xx cs with|some vs=>.v (.agg vs)|none=>.agg cs
def cellsD:D→List D
 |.v x=>x.cells.map .v
 |.agg cs=>cs
 |d=>[d]
def qU:List D→Bool
 |[]=>true
 |.co _ _ _::_=>false
 |_::l=>qU l
def p6:D→Bool
 |.cx _=>true
 |_=>false
def setAt{α:Type}:List α→Nat→List α→List α
 |cs,0,[]=>cs
 |_::cs,0,x::xs=>x::setAt cs 0 xs
 |c::cs,n+1,xs=>c::setAt cs n xs
 |[],_,_=>[]
def p7(place:Nat→Option (Nat×Nat))(cells:List D):List (Nat×D)→Option (List D)
 |[]=>some cells
 |(i,d)::rest=>match place i with
  |none=>none
  |some (off,size)=>
   bif Nat.beq (cellsD d).length size&&Nat.ble (off+size) cells.length && !p6 d then p7 place (setAt cells off (cellsD d)) rest else none
abbrev Mem:=Nat→Nat→Option Value
def Mem.le(M M':Mem):Prop:=∀b o v,M b o=some v→M' b o=some v
def Mem.le_refl(M:Mem):M.le M:=λ_ _ _ h=>h
def Mem.le_trans{A B C:Mem}(h:A.le B)(de:B.le C):A.le C:=λb o v e=>de b o v (h b o v e)
inductive cY(M:Mem):Value→V→Prop where
 |int (k:IntKind) (n:Int):cY M (.int k n) (.int k n)
 |bool (b:Bool):cY M (.bool b) (.bool b)
 |str (l:al5):cY M (.string ⟨⟨l⟩⟩) (.str l)
 |agg (vs:List Value) (cs:List V) (hn:vs.length=cs.length) (Z:∀v,v∈vs→v.oneCell'=true)
  (h:∀(i:Nat) v c,vs[i]? = some v→cs[i]? = some c→cY M v c):cY M (.agg ⟨vs⟩) (.agg cs)
 |k5 (k:Nat) (get:Nat→V):cY M (.slice none 0 0) (.bD k 0 get)
 |n2 (a:Addr) (k:Nat) (get:Nat→V):cY M (.slice (some a) 0 0) (.bD k 0 get)
 |bD (b off k n cap:Nat) (get:Nat→V) (val:Nat→Nat→Value) (hc:n≤cap)
  (hk:∀i,i<n→(get i).cells.length=k)
  (cM:∀i j,i<n→j<k→M b (off+i*k+j)=some (val i j)) (Z:∀i j,i<n→j<k→(val i j).oneCell'=true)
  (h:∀(i j:Nat) c,i<n→(get i).cells[j]? = some c→cY M (val i j) c):cY M (.slice (some ⟨b,off,none⟩) n cap) (.bD k n get)
 |iface (t:TypeId) (v:Value) (x:V) (h:cY M v x):cY M (.iface t v) (.iface t x)
 |en:cY M (.pointer none) .en
 |hI:cY M .nilIface .hI
 |aR:cY M .nilFunc .aR
 |any (v:Value) (Z:v.oneCell'=true):cY M v .any
 |nj (k:Nat) (get:Nat→V):cY M (.slice none 0 0) (.nj k get)
def gC(raw x:V):Prop:=∀(M:Mem) (v:Value),cY M v raw→cY M v x
def uG(k:IntKind)(a b:Int):Int:=k.wrap (BitVec.ofInt k.bits a &&& BitVec.ofInt k.bits b).toNat
def sb(k:IntKind)(a b:Int):Int:=k.wrap (BitVec.ofInt k.bits a |||BitVec.ofInt k.bits b).toNat
def o9(k:IntKind)(a b:Int):Int:=k.wrap (BitVec.ofInt k.bits a ^^^ BitVec.ofInt k.bits b).toNat
def GT(k:IntKind)(a b:Int):Int:=k.wrap (BitVec.ofInt k.bits a &&& ~~~BitVec.ofInt k.bits b).toNat
def p8(k:IntKind)(x y:Int):Int:=k.wrap (x*2 ^ min y.toNat k.bits)
def n3(k:IntKind)(x y:Int):Int:=x.fdiv (2 ^ min y.toNat k.bits)
def n4(y:Int):Bool:=decide (0≤y)
def GU(op:BinOp)(k:IntKind)(x y:Int):Option (V×List Prop):=
 match op with
 |.shl=>some (.int k (p8 k x y),[n4 y=true])
 |.shr=>some (.int k (n3 k x y),[n4 y=true])
 |_=>none
def GV(op:BinOp)(k:IntKind)(a b:Int):Option (V×List Prop):=
 match op with
 |.add=>some (.int k (k.wrap (a+b)),[])
 |.sub=>some (.int k (k.wrap (a-b)),[])
 |.mul=>some (.int k (k.wrap (a*b)),[])
 |.quo=>some (.int k (k.wrap (a.tdiv b)),[o7 b=true])
 |.rem=>some (.int k (a.tmod b),[o7 b=true])
 |.eql=>some (.bool (decide (a=b)),[])
 |.neq=>some (.bool (!decide (a=b)),[])
 |.lss=>some (.bool (decide (a<b)),[])
 |.leq=>some (.bool (decide (a≤b)),[])
 |.gtr=>some (.bool (decide (b<a)),[])
 |.geq=>some (.bool (decide (b≤a)),[])
 |.and=>some (.int k (uG k a b),[])
 |.or=>some (.int k (sb k a b),[])
 |.xor=>some (.int k (o9 k a b),[])
 |.andNot=>some (.int k (GT k a b),[])
 |_=>none
def GW(op:BinOp)(a b:al5):Option (V×List Prop):=
 match op with
 |.add=>some (.str (a++b),[br (a.length+b.length)=true])
 |.eql=>some (.bool (decide (a=b)),[])
 |.neq=>some (.bool (!decide (a=b)),[])
 |.lss=>some (.bool (Op.bytesLess a b),[])
 |.leq=>some (.bool (Op.bytesLess a b||decide (a=b)),[])
 |.gtr=>some (.bool (!(Op.bytesLess a b||decide (a=b))),[])
 |.geq=>some (.bool (!Op.bytesLess a b),[])
 |_=>none
def isNil:k4→D→Option Bool
 |.ptr,.v .en=>some true
 |.ptr,.ptr _ _=>some false
 |.ptr,.eI _=>some false
 |.nk,.v .hI=>some true
 |.nk,.v (.iface _ _)=>some false
 |.a8,.v .aR=>some true
 |.a8,.fn _ _=>some false
 |_,_=>none
def Bx:k4→D→Bool
 |.ptr,.v .en=>true
 |.nk,.v .hI=>true
 |.a8,.v .aR=>true
 |_,_=>false
def ij:List (Option k4)→List V→List V→Option Bool
 |[],[],[]=>some true
 |some (.int _)::ks,.int k a::l,.int k' b::m=>bif decide (k=k') then(ij ks l m).map λr=>decide (a=b)&&r else none
 |some .str::ks,.str a::l,.str b::m=>(ij ks l m).map λr=>decide (a=b)&&r
 |some .bool::ks,.bool a::l,.bool b::m=>(ij ks l m).map λr=>(a == b)&&r
 |_,_,_=>none
def lD(tt:dw):Nat→List (Nat×TypeId×Nat)→List (Option k4)
 | 0,cr=>cr.map λf=>(look tt f.2.1).map (·.k)
 |d+1,cr=>cr.flatMap λf=>match look tt f.2.1 with
  |some {k:=.bZ gs,..}=>lD tt d gs
  |o=>[o.map (·.k)]
def Pq(k:Option k4)(YY:Bool)(op:BinOp)(a b:D):Option (V×List Prop):=
 match a,b with
 |.v (.int k x),.v (.int k' y)=>match GU op k x y with
  |some z=>some z
  |none=>bif decide (k=k')then GV op k x y else none
 |.v (.str x),.v (.str y)=>GW op x y
 |.v (.bool x),.v (.bool y)=>match k,op with
  |some .bool,.eql=>some (.bool (x == y),[])
  |some .bool,.neq=>some (.bool (!(x == y)),[])
  |_,_=>none
 |a,b=>match k with
  |some k=>bif Bx k b&&YY then match isNil k a,op with
   |some t,.eql=>some (.bool t,[])
   |some t,.neq=>some (.bool (!t),[])
   |_,_=>none
   else none
  |none=>none
def isConst:Operand→Bool
 |.const _=>true
 |_=>false
def Pr(op:UnOp)(a:V):Option V:=
 match op,a with
 |.not,.bool b=>some (.bool (!b))
 |.neg,.int k n=>some (.int k (k.wrap (0-n)))
 |_,_=>none
def xy(env:List (Nat×a1))(bU:List (Nat×Path×D))(t:Nat):Option Bool:=
 match look bU t with
 |some (_,.v (.bool b))=>some b
 |some _=>none
 |none=>match look env t with
  |some ⟨.v (.bool b),_⟩=>some b
  |_=>none
def under(g:c_):Path→Prop→Prop
 |[],q=>q
 |(t,w)::p,q=>match xy g.env g.bU t with
  |some b=>b=w→under g p q
  |none=>under g p q
structure ko where
 e:Option a1
 gJ:List Nat:=[]
 hs:List (Nat×List a1):=[]
 eY:Nat:=0
 rs:List e'
 aZ:List Prop:=[]
def n5(g:c_):Operand→Option TypeId
 |.tmp t=>(look g.env t).bind (·.own)
 |_=>none
def YZ(t:Nat)(o:Oper):Bool:=
 match o.op with
 |.assign (.tmp u)=>Nat.beq u t
 |.store _ _ (.tmp u)=>Nat.beq u t
 |.call {callee:=.builtin .append,args,..}=>match args.toList with
  |.tmp u::_=>Nat.beq u t
  |_=>false
 |_=>false
def Y0(ops:List Oper)(dst:Option Nat):Bool:=
 match dst with
 |some t=>ops.any (YZ t)
 |none=>false
def refs:D→List Nat
 |.ptr r _=>[r]
 |.co r _ _=>[r]
 |.fn _ eQ=>eQ.flatMap fun |.ptr r _=>[r] |_=>[]
 |.agg cs=>cs.flatMap fun |.ptr r _=>[r] |.co r _ _=>[r] |.fn _ eQ=>(eQ.flatMap fun |.ptr r _=>[r] |_=>[]) |_=>[]
 |_=>[]
def idx(l:List Nat)(r:Nat):Option Nat:=
 match l with
 |[]=>none
 |x::l=>bif Nat.beq x r then some 0 else(idx l r).map (· + 1)
def dedup:List Nat→List Nat
 |[]=>[]
 |x::l=>bif (dedup l).any (Nat.beq x)then dedup l else x::dedup l
mutual
def eo(f:Nat→Option Nat):D→Option D
 |.v x=>some (.v x)
 |.ptr r off=>(f r).map (.ptr · off)
 |.co r off u=>(f r).map (.co · off u)
 |.eI x=>some (.eI x)
 |.full k n get=>some (.full k n get)
 |.fn g eQ=>(kp f eQ).map (.fn g)
 |.agg cs=>(kp f cs).map .agg
 |.cx cs=>(kp f cs).map .cx
def kp(f:Nat→Option Nat):List D→Option (List D)
 |[]=>some []
 |d::l=>match eo f d,kp f l with
  |some dZ,some cD=>some (dZ::cD)
  |_,_=>none
end
def By(f:Nat→Option Nat)(e:a1):Option a1:=(eo f e.d).map λd=>{d,own:=e.own}
def l3(f:Nat→Option Nat):List a1→Option (List a1)
 |[]=>some []
 |e::l=>match By f e,l3 f l with
  |some bf,some cD=>some (bf::cD)
  |_,_=>none
def jg(f:Nat→Option Nat):List (List a1)→Option (List (List a1))
 |[]=>some []
 |b::l=>match l3 f b,jg f l with
  |some bC,some cD=>some (bC::cD)
  |_,_=>none
def boxes(H:List (Nat×List a1)):List Nat→Option (List (List a1))
 |[]=>some []
 |r::l=>match look H r,boxes H l with
  |some b,some bs=>some (b::bs)
  |_,_=>none
def cK{α:Type}:Nat→List α→List (Nat×α)
 |_,[]=>[]
 |n,x::l=>(n,x)::cK (n+1) l
def kq:List Nat→List (List a1)→List (Nat×List a1)
 |r::l,b::bs=>(r,b)::kq l bs
 |_,_=>[]
def mapM'{α β:Type}(f:α→Option β):List α→Option (List β)
 |[]=>some []
 |x::l=>match f x,mapM' f l with
  |some y,some ys=>some (y::ys)
  |_,_=>none
structure f6 where
 call:FuncId→List D→List (Nat×TypeId)→List (List a1)→Out→List (List a1)→Prop
 eq:TypeId→Bool
inductive mG where
 |go (e:ko)
 |bd (x:V) (hs:List (Nat×List a1)) (aZ:List Prop)
def nm(H:List (Nat×List a1)):Nat→List Nat→List Nat
 | 0,l=>l
 |n+1,l=>nm H n (dedup (l++l.flatMap λr=>((look H r).getD []).flatMap λe=>refs e.d))
def l4:List Nat→Bool
 |[]=>true
 |x::l=>!l.any (Nat.beq x)&&l4 l
def handed(tt:dw)(g:c_)(xs:List Operand)(ts:List TypeId):List Nat→Option (List (Nat×Option Nat×TypeId))
 |[]=>some []
 |i::os=>match xs[i]?,handed tt g xs ts os with
  |some (.tmp t),some l=>match look g.env t with
   |some ⟨_,some e⟩=>bif (look g.bU t).isNone&&l.all (λx=>!(match x.2.1 with |some u=>Nat.beq u t |none=>false) && !Nat.beq x.1 i)then some ((i,some t,e)::l)else none
   |_=>none
  |some (.const (.slice none 0 0)),some l=>match(ts[i]?).bind (look tt) with
   |some {k:=.bD e,..}=>bif l.all (λx=>!Nat.beq x.1 i)then some ((i,none,e)::l)else none
   |_=>none
  |_,_=>none
def uH(b4:f6)(tt:dw)(g:c_)(p:Path)(xs:List Operand)(ts:List TypeId)(f:FuncId)(args:List D):Option mG:=
 let ρ:=nm g.H 2 (dedup (args.flatMap refs))
 match g.rs with
 |.call out cF os::rs=>
  match kp (idx ρ) args,(boxes g.H ρ).bind (jg (idx ρ)),handed tt g xs ts os with
  |some iU,some H1,some hd=>bif !l4 ρ || !(p.isEmpty||os.isEmpty)then none else
   let ed:=hd.map λx=>(x.1,x.2.2)
   let gJ:=hd.filterMap λx=>x.2.1
   match out,cF with
   |.ret d own,none=>(eo (λj=>ρ[j]?) d).map λdZ=>.go {e:=some {d:=dZ,own},gJ,rs,aZ:=[b4.call f iU ed H1 out H1]}
   |.ret d own,some cF=>match eo (λj=>ρ[j]?) d,jg (λj=>ρ[j]?) cF with
    |some dZ,some h3=>bif Nat.beq cF.length ρ.length then some (.go {e:=some {d:=dZ,own},gJ,hs:=kq ρ h3,rs,aZ:=[b4.call f iU ed H1 out cF]})else none
    |_,_=>none
   |.bd x,none=>some (.bd x [] [b4.call f iU ed H1 out H1])
   |.bd x,some cF=>match jg (λj=>ρ[j]?) cF with
    |some h3=>bif Nat.beq cF.length ρ.length then some (.bd x (kq ρ h3) [b4.call f iU ed H1 out cF])else none
    |none=>none
  |_,_,_=>none
 |_=>none
def Bz:V→Option TypeId→Option TypeId
 |.bD _ _ _,t=>t
 |_,_=>none
def Ps(tt:dw):Nat→List (Nat×TypeId×Nat)→Nat→Option TypeId
 | 0,_,_=>none
 |d+1,cr,j=>match cr.find? λf=>Nat.ble f.1 j&&Nat.blt j (f.1+f.2.2) with
  |some f=>match look tt f.2.1 with
   |some {k:=.bD e,..}=>some e
   |some {k:=.bZ gs,..}=>Ps tt d gs (j-f.1)
   |_=>none
  |none=>none
def GX(tt:dw):k4→Nat→Option TypeId
 |.bZ cr,j=>Ps tt 5 cr j
 |.bD e,0=>some e
 |_,_=>none
def Pt(tt:dw)(iT:List (Nat×TypeId))(k:k4)(i:Nat):Option TypeId:=
 match GX tt k i with
 |some e=>some e
 |none=>(iT.find? λy=>Nat.beq (y.1+1) i).bind λy=>match look tt y.2 with |some {k,..}=>GX tt k 1 |none=>none
def xz(iT:List (Nat×TypeId))(id i:Nat)(x:V):D:=
 match x with
 |.en=>match iT.find? λy=>Nat.beq y.1 i with
  |some y=>.co id i y.2
  |none=>.v x
 |_=>.v x
def BA(tt:dw)(t:TypeId)(id:Nat):Option (List a1):=
 match look tt t with
 |some {k:=.bD e,zero,..}=>some (zero.map λx=>{d:=.v x,own:=Bz x (some e)})
 |some {k:=.bZ cr,zero,iT,..}=>some ((cK 0 zero).map fun(i,x)=>
  {d:=xz iT id i x,own:=Bz x (Pt tt iT (.bZ cr) i)})
 |some {zero,..}=>some (zero.map λx=>{d:=.v x})
 |none=>none
def V.isAgg:V→Bool
 |.agg _=>true
 |_=>false
def GY:V→V
 |.bD k 0 g=>.nj k g
 |x=>x
def o_(ty:Nat→Option TypeId):Nat→List a1→List a1
 |_,[]=>[]
 |i,e::l=>(match e.d with
  |.v (.nj k g)=>{d:=.v (.bD k 0 g),own:=ty i}
  |_=>e)::o_ ty (i+1) l
def elems(isAgg:Bool)(size:Nat):Nat→List (Nat×D)→Option (List V)
 |_,[]=>some []
 |i,(j,.v x)::cy=>bif Nat.beq i j&&Nat.beq x.cells.length size&&(x.isAgg == isAgg) then(elems isAgg size (i+1) cy).map (x :: ·)else none
 |_,_=>none
def p9(tt:dw)(t:TypeId)(i:Nat):TypeId:=
 match look tt t with
 |some {k:=.bZ cr,..}=>match cr[i]? with
  |some f=>f.2.1
  |none=>0
 |some {k:=.arr _ e,..}=>e
 |some {k:=.bD e,..}=>e
 |_=>0
def uI(tt:dw)(aP:ew)(id i:Nat)(d:D):a1:=
 match d with
 |.v .en=>{d:=xz aP.iT id i .en}
 |.v (.nj k g)=>match Pt tt aP.iT aP.k i with
  |some T=>{d:=.v (.bD k 0 g),own:=some T}
  |none=>{d}
 |d=>{d}
def pb(tt:dw)(aP:ew)(id:Nat):Nat→List D→List a1
 |_,[]=>[]
 |i,d::l=>uI tt aP id i d::pb tt aP id (i+1) l
def mH(g:c_)(o:Oper):Option (Nat×Nat):=
 match o.dst.bind (look g.ids) with
 |some id=>bif (look g.H id).isNone&&Nat.blt id g.aW then some (id,0)else none
 |none=>some (g.aW,1)
def step1(b4:f6)(tt:dw)(ops:List Oper)(g:c_)(p:Path)(o:Oper):Option mG:=
 let r:=rd g.env g.bU p tt o.type
 let val (d:Option D):Option mG:=d.map λd=>.go {e:=some {d},rs:=g.rs}
 let xA (x:Option (V×List Prop)):Option mG:=x.map fun(x,aZ)=>.go {e:=some {d:=.v x},rs:=g.rs,aZ}
 let BB (raw:V) (mk:V→D) (aZ:List Prop):Option mG:=match g.rs with
  |.val x::rs=>some (.go {e:=some {d:=mk x},rs,aZ:=gC raw x::aZ})
  |.raw::rs=>some (.go {e:=some {d:=mk raw},rs,aZ:=aZ})
  |_=>none
 match o.op with
 |.move x=>match r x with
  |some d=>match n5 g x,x with
   |some e,.tmp t=>match g.rs with
    |.own::rs=>bif p.isEmpty then some (.go {e:=some {d,own:=some e},gJ:=[t],rs})else none
    |_=>bif p.isEmpty&&Y0 ops o.dst then some (.go {e:=some {d,own:=some e},gJ:=[t],rs:=g.rs})else some (.go {e:=some {d},rs:=g.rs})
   |_,_=>some (.go {e:=some {d},rs:=g.rs})
  |none=>none
 |.assign x=>match r x with
  |some d=>match n5 g x,x with
   |some e,.tmp t=>bif p.isEmpty then some (.go {e:=some {d,own:=some e},gJ:=[t],rs:=g.rs})else some (.go {e:=some {d},rs:=g.rs})
   |_,.const (.slice none 0 0)=>match look tt o.type with
    |some {k:=.bD e,..}=>bif p.isEmpty then some (.go {e:=some {d,own:=some e},rs:=g.rs})else some (.go {e:=some {d},rs:=g.rs})
    |_=>none
   |_,_=>some (.go {e:=some {d},rs:=g.rs})
  |none=>none
 |.pick (.tmp c) a b=>match r (.tmp c),rd g.env g.bU ((c,true)::p) tt o.type a,rd g.env g.bU ((c,false)::p) tt o.type b with
  |some (.v (.bool qV)),some (.v (.bool xB)),some (.v (.bool sc))=>val (some (.v (.bool (bif qV then xB else sc))))
  |_,_,_=>none
 |.alloc t=>match mH g o with
  |some (id,eY)=>match BA tt t id with
   |some z=>some (.go {e:=some {d:=.ptr id 0},hs:=[(id,z)],eY,rs:=g.rs})
   |none=>none
  |none=>none
 |.box t x=>match r x,mH g o,look tt t with
  |some d,some (id,eY),some aP=>bif p6 d || !qU (cellsD d) || !Nat.beq (cellsD d).length aP.size then none else some (.go {e:=some {d:=.ptr id 0},hs:=[(id,pb tt aP id 0 (cellsD d))],eY,rs:=g.rs})
  |_,_,_=>none
 |.build t parts=>match look tt t,mapM' (fun(i,x)=>(rd g.env g.bU p tt (p9 tt t i) x).map λd=>(i,d)) parts.toList with
  |some {k:=.bZ cr,zero,..},some cy=>bif cr.all (λf=>Nat.ble 1 f.2.2)then match g.rs with
   |.own::rs=>((p7 (λi=>(cr[i]?).map λf=>(f.1,f.2.2)) (zero.map λx=>.v (GY x)) cy).map o8).map λd=>.go {e:=some {d},rs}
   |_=>val ((p7 (λi=>(cr[i]?).map λf=>(f.1,f.2.2)) (zero.map .v) cy).map o8)
   else none
  |some {k:=.arr _ e,zero,..},some cy=>match look tt e with
   |some {size,..}=>val ((p7 (λi=>some (i*size,size)) (zero.map .v) cy).map o8)
   |none=>none
  |_,_=>none
 |.buildSlice t len parts=>match look tt t,mapM' (fun(i,x)=>(rd g.env g.bU p tt (p9 tt t i) x).map λd=>(i,d)) parts.toList with
  |some {k:=.bD e,..},some cy=>match look tt e with
   |some {k,size,..}=>
    match elems k.isAgg size 0 cy,g.rs with
    |some xs,.val x::rs=>bif Nat.ble (len*size) 16777216&&Nat.ble 1 size&&Nat.beq xs.length len then some (.go {e:=some {d:=.v x,own:=some e},rs,aZ:=[gC (.bD size len λi=>xs.getD i .en) x]})else none
    |_,_=>none
   |none=>none
  |_,_=>none
 |.load t a=>match r a,look tt t with
  |some (
   .ptr q off),some aP=>match look g.H q with
   |some cs=>bif aP.k.isAgg then
    bif Nat.ble (off+aP.size) cs.length then val (some (o8 (((cs.drop off).take aP.size).map (·.d))))else none
    else match cs[off]? with
     |some e=>match e.own,g.rs with
      |some _,.own::rs=>bif p.isEmpty then some (.go {e:=some e,hs:=[(q,setAt cs off [{d:=e.d}])],rs})else none
      |_,_=>val (some e.d)
     |none=>none
   |none=>none
  |some (.eI x),some aP=>bif x.isAgg == aP.k.isAgg&&Nat.beq x.cells.length aP.size then val (some (.v x))else none
  |_,_=>none
 |.store t a x=>match r a,rd g.env g.bU p tt t x,look tt t with
  |some (
   .ptr q off),some d,some aP=>match look g.H q with
   |some cs=>bif Nat.beq (cellsD d).length aP.size&&Nat.ble (off+aP.size) cs.length&&p.isEmpty && !p6 d&&qU (cellsD d) then
    match x,n5 g x,d with
    |.tmp u,some s,.v (.bD ..)=>some (.go {e:=none,gJ:=[u],hs:=[(q,setAt cs off [{d,own:=some s}])],rs:=g.rs})
    |.const (.slice none 0 0),_,_=>match aP.k with
     |.bD s=>some (.go {e:=none,hs:=[(q,setAt cs off [{d,own:=some s}])],rs:=g.rs})
     |_=>none
    |_,_,_=>some (.go {e:=none,hs:=[(q,o_ (λi=>GX tt aP.k (i-off)) 0 (setAt cs off ((cellsD d).map λd=>{d})))],rs:=g.rs})
    else none
   |none=>none
  |_,_,_=>none
 |.nilCheck x=>match r x with
  |some (.ptr q off)=>val (some (.ptr q off))
  |some (.eI x)=>val (some (.eI x))
  |_=>none
 |.binOp op t x y _=>match r x,r y with
  |some (.v (.agg xs)),some (.v (.agg ys))=>match look tt t with
   |some {k:=.bZ cr,..}=>bif b4.eq t then match op,ij (lD tt 4 cr) xs ys with
    |.eql,some r=>val (some (.v (.bool r)))
    |.neq,some r=>val (some (.v (.bool (!r))))
    |_,_=>none
    else none
   |_=>none
  |some a,some b=>xA (Pq ((look tt t).map (·.k)) (isConst y) op a b)
  |_,_=>none
 |.unOp op _ x=>match r x with
  |some (.v a)=>val ((Pr op a).map .v)
  |_=>none
 |.convert s t x=>match look tt s,look tt t,r x with
  |some {k:=.int _,..},some {k:=.int k,..},some (.v (.int _ n))=>val (some (.v (.int k (k.wrap n))))
  |some {k:=.str,..},some {k:=.str,..},some (.v (.str s))=>val (some (.v (.str s)))
  |some {k:=.bD e,..},some {k:=.str,..},some (.v (.bD 1 n get))=>match look tt e,g.rs with
   |some {k:=.int .u8,..},.val (.str l)::rs=>some (.go {e:=some {d:=.v (.str l)},rs,aZ:=[l.length=n∧∀i,i<n→get i = .int .u8 ((l.getD i 0).toNat:Int)]})
   |_,_=>none
  |_,_,_=>none
 |.makeInterface t x=>match r x,look tt t with
  |some (.v x),some {k,..}=>match k with
   |.nk=>none
   |_=>val (some (.v (.iface t x)))
  |_,_=>none
 |.makeFunc (.func f) first eQ=>bif first.isEmpty then(mapM' r eQ.toList).map λds=>.go {e:=some {d:=.fn f ds},rs:=g.rs}else none
 |.slice t x lo hi jh=>match jh,look tt t with
  |none,some {k:=.str,..}=>match r x,lo.map r,hi.map r with
   |some (.v (.str s)),none,none=>val (some (.v (.str s)))
   |some (.v (.str s)),some (some (.v (.int _ a))),none=>xA (some (.str (s.drop a.toNat),[gS a s.length=true]))
   |some (.v (.str s)),none,some (some (.v (.int _ b)))=>xA (some (.str (s.take b.toNat),[gS b s.length=true]))
   |some (.v (.str s)),some (some (.v (.int _ a))),some (some (.v (.int _ b)))=>xA (some (.str ((s.take b.toNat).drop a.toNat),[nl a b s.length=true]))
   |_,_,_=>none
  |none,some {k:=.bD e,..}=>match look tt e,r x,lo.map r,hi.map r with
   |some {size,..},some (.v (.bD k n get)),some (some (.v (.int _ a))),none=>bif Nat.beq k size then BB (.bD k (n-a.toNat) λi=>get (a.toNat+i)) .v [gS a n=true]else none
   |some {size,..},some (.v (.bD k n get)),none,some (some (.v (.int _ b)))=>bif Nat.beq k size then BB (.bD k b.toNat get) .v [gS b n=true]else none
   |some {size,..},some (.v (.bD k n get)),some (some (.v (.int _ a))),some (some (.v (.int _ b)))=>bif Nat.beq k size then BB (.bD k (b.toNat-a.toNat) λi=>get (a.toNat+i)) .v [nl a b n=true]else none
   |some {size,..},some (.v (.bD k n get)),none,none=>bif Nat.beq k size then val (some (.v (.bD k n get)))else none
   |_,_,_,_=>none
  |some _,some {k:=.bD e,..}=>match look tt e,r x,lo,hi.map r,jh.map r with
   |some {size,..},some (.v (.bD k n get)),none,some (some (.v (.int _ b))),some (some (.v (.int _ c)))=>bif Nat.beq k size then some (.go {e:=some {d:=.full k b.toNat get},rs:=g.rs,aZ:=[b=c,gS b n=true]})else none
   |_,_,_,_,_=>none
  |_,_=>none
 |.fieldAddr s x f=>match r x,look tt s with
  |some (.ptr q off),some {k:=.bZ cr,..}=>match cr[f]? with
   |some (dD,_,fv)=>bif Nat.ble 1 fv then val (some (.ptr q (off+dD)))else none
   |none=>none
  |some (
   .eI (.agg cs)),some {k:=.bZ cr,..}=>match cr[f]? with
   |some (
    dD,gY,fv)=>match look tt gY with
    |some aP=>bif Nat.ble 1 fv&&Nat.ble (dD+fv) cs.length then
     bif aP.k.isAgg then val (some (.eI (.agg ((cs.drop dD).take fv))))else bif Nat.beq fv 1 then match cs[dD]? with
      |some c=>bif c.isAgg then none else val (some (.eI c))
      |none=>none
     else none
     else none
    |none=>none
   |none=>none
  |_,_=>none
 |.field s x f=>match r x,look tt s with
  |some (
   .v (.agg cs)),some {k:=.bZ cr,..}=>match cr[f]? with
   |some (dD,gY,fv)=>match look tt gY with
    |some aP=>bif Nat.ble (dD+fv) cs.length then bif aP.k.isAgg then val (some (.v (.agg ((cs.drop dD).take fv))))else match cs[dD]? with
     |some c=>val (some (.v c))
     |none=>none
     else none
    |none=>none
   |none=>none
  |some (.agg cs),some {k:=.bZ cr,..}=>match cr[f]? with
   |some (dD,gY,fv)=>match look tt gY,cs[dD]? with
    |some aP,some c=>bif aP.k.isAgg || !Nat.beq fv 1||p6 c then none else val (some c)
    |_,_=>none
   |none=>none
  |_,_=>none
 |.indexAddr t x i=>match r x,r i,look tt t with
  |some (.v (.bD k n get)),some (.v (.int _ j)),some {k:=.bD e,..}=>match look tt e with
   |some {size,..}=>bif Nat.beq k size&&Nat.ble 1 size then BB (get j.toNat) .eI [aN j n=true]else none
   |none=>none
  |_,_,_=>none
 |.index t x i=>match r x,r i,look tt t with
  |some (.v (.str s)),some (.v (.int _ j)),some {k:=.str,..}=>xA (some (.int .u8 (s.getD j.toNat 0).toNat,[aN j s.length=true]))
  |_,_,_=>none
 |.typeAssert x _ t ok=>match r x,look tt t with
  |some (.v (.iface iV y)),some {k,..}=>match k with
   |.nk=>none
   |_=>bif Nat.beq iV t then val (some (bif ok then .cx [.v y,.v (.bool true)]else .v y))else none
  |_,_=>none
 |.extract x i=>match r x with
  |some (.cx ds)=>val ds[i]?
  |_=>none
 |.call c=>match c.callee with
  |.value x=>match r x,kR (rd g.env g.bU p tt) c.args.toList c.argTypes.toList with
   |some (.fn f eQ),some ds=>uH b4 tt g p c.args.toList c.argTypes.toList f (ds++eQ)
   |_,_=>none
  |.builtin .len=>match mapM' (λy=>r y) c.args.toList,(c.argTypes.toList[0]?).bind (look tt) with
   |some [.v (.str s)],some {k:=.str,..}=>val (some (.v (.int .i64 s.length)))
   |some [.v (.bD _ n _)],some {k:=.bD _,..}=>val (some (.v (.int .i64 n)))
   |_,_=>none
  |.builtin .append=>match c.args.toList,(c.argTypes.toList[0]?).bind (look tt),(c.argTypes.toList[1]?).bind (look tt) with
   |[.tmp t,x],some {k:=.bD e,..},some t2=>match look tt e,r (.tmp t),r x,look g.env t,g.rs with
    |some b8,some (.v (.bD k n get)),some d2,some ⟨_,some bf⟩,.val y::rs=>
     bif Nat.beq e bf&&Nat.beq k b8.size&&Nat.ble 1 b8.size&&Nat.ble 1 b8.bytes&&p.isEmpty then
      match d2,t2.k with
      |.v (.bD aj m k6),.bD _=>bif Nat.beq aj k then
       some (.go {e:=some {d:=.v y,own:=some e},gJ:=[t],rs,aZ:=[gC (.bD k (n+m) λi=>bif Nat.blt i n then get i else k6 (i-n)) y,room (n+m) b8.bytes=true]})
       else none
      |.v (.str s),.str=>bif Nat.beq k 1 then
       some (.go {e:=some {d:=.v y,own:=some e},gJ:=[t],rs,aZ:=[gC (.bD k (n+s.length) λi=>bif Nat.blt i n then get i else .int .u8 (s.getD (i-n) 0).toNat) y,room (n+s.length) b8.bytes=true]})
       else none
      |_,_=>none
     else none
    |some b8,some (.full k n get),some d2,_,.val y::rs=>
     bif Nat.beq k b8.size&&Nat.ble 1 b8.size&&Nat.ble 1 b8.bytes&&p.isEmpty then
      match d2,t2.k with
      |.v (.bD aj m k6),.bD _=>bif Nat.beq aj k&&Nat.ble 1 m then
       some (.go {e:=some {d:=.v y,own:=some e},gJ:=[t],rs,aZ:=[gC (.bD k (n+m) λi=>bif Nat.blt i n then get i else k6 (i-n)) y,room (n+m) b8.bytes=true]})
       else none
      |_,_=>none
     else none
    |_,_,_,_,_=>none
   |_,_,_=>none
  |.builtin .min=>match mapM' (λy=>r y) c.args.toList with
   |some [.v (.int k a),.v (.int aj b)]=>bif decide (k=aj)then val (some (.v (.int k (bif decide (b<a)then b else a))))else none
   |_=>none
  |.builtin .max=>match mapM' (λy=>r y) c.args.toList with
   |some [.v (.int k a),.v (.int aj b)]=>bif decide (k=aj)then val (some (.v (.int k (bif decide (a<b)then b else a))))else none
   |_=>none
  |_=>none
 |.panic x=>match r x with
  |some (.v (.iface t y))=>some (.bd (.iface t y) [] [])
  |_=>none
 |_=>none
def gD:List Nat→List (Nat×a1)→List (Nat×a1)
 |[],env=>env
 |t::l,env=>match look env t with
  |some e=>(t,{e with own:=none})::gD l env
  |none=>gD l env
inductive xC where
 |go (g:c_)
 |bd (x:V) (st:aI) (aZ:List Prop)
def n6:List (Nat×a1)→List (Nat×a1)
 |[]=>[]
 |(t,e)::l=>(t,{d:=e.d})::n6 l
def n7(ops:List Oper)(g:c_)(o:Oper):Option Path:=
 match o.guard with
 |none=>some []
 |some (j,w)=>match(ops[j]?).bind (·.dst) with
  |some t=>match look g.bU t with
   |some (q,.v (.bool _))=>some (q++[(t,w)])
   |some _=>none
   |none=>match look g.env t with
    |some ⟨.v (.bool _),_⟩=>some [(t,w)]
    |_=>none
  |none=>none
def uJ(bU:List (Nat×Path×D))(t:Nat):Bool:=bU.all λx=>Nat.beq x.1 t||x.2.1.all λy=>!Nat.beq y.1 t
def mI(
 b4:f6) (tt:dw) (N:Nat) (ops:List Oper) (g:c_) (o:Oper):Option xC:=
 match n7 ops g o with
 |none=>none
 |some p=>
  match step1 b4 tt ops g p o with
  |none=>none
  |some (.bd x hs aZ)=>bif p.isEmpty then some (.bd x {env:=n6 g.env,H:=hs++g.H,aW:=g.aW} (aZ++g.aZ))else none
  |some (
   .go f)=>
   let eR:c_:={g with rs:=f.rs,aZ:=f.aZ.map (under g p)++g.aZ}
   match o.dst with
   |none=>bif p.isEmpty then some (.go {eR with env:=gD f.gJ g.env,H:=f.hs++g.H,aW:=g.aW+f.eY})else none
   |some t=>bif Nat.blt t N&&uJ g.bU t then
    match p with
    |[]=>some (.go {eR with
     env:=match f.e with|some e=>(t,e)::gD f.gJ g.env|none=>del (gD f.gJ g.env) t
     bU:=del g.bU t,H:=f.hs++g.H,aW:=g.aW+f.eY})
    |_::_=>match f.e,f.hs,f.gJ with
     |some e,[],[]=>bif p.all (λy=>!Nat.beq y.1 t)&&Nat.beq f.eY 0 then some (.go {eR with env:=del g.env t,bU:=(t,p,e.d)::del g.bU t})else none
     |_,_,_=>none
    else none
def qW(b4:f6)(tt:dw)(N:Nat)(ops:List Oper):List Oper→c_→Option xC
 |[],g=>some (.go g)
 |o::l,g=>match mI b4 tt N ops g o with
  |some (.go eR)=>qW b4 tt N ops l eR
  |x=>x
mutual
def below(n:Nat):D→Bool
 |.v _ |.eI _ |.full _ _ _=>true
 |.ptr r _=>Nat.blt r n
 |.co r _ _=>Nat.blt r n
 |.fn _ eQ=>sd n eQ
 |.agg cs |.cx cs=>sd n cs
def sd(n:Nat):List D→Bool
 |[]=>true
 |d::l=>below n d&&sd n l
end
def qX(n:Nat):List a1→Bool
 |[]=>true
 |e::l=>below n e.d&&qX n l
def xD(env:List (Nat×a1)):List Nat→Option (List (Nat×a1))
 |[]=>some []
 |t::l=>match look env t,xD env l with
  |some e,some cD=>some ((t,e)::cD)
  |_,_=>none
def xE(H:List (Nat×List a1)):List Nat→Option (List (Nat×List a1))
 |[]=>some []
 |r::l=>match look H r,xE H l with
  |some e,some cD=>some ((r,e)::cD)
  |_,_=>none
def se(live:List Nat)(boxes:List Nat)(n:Nat)(env:List (Nat×a1))(H:List (Nat×List a1))(aW:Nat):Option aI:=
 match xD env live,xE H boxes with
 |some mJ,some bM=>bif Nat.ble n aW&&mJ.all (λx=>below n x.2.d)&&bM.all (λx=>Nat.blt x.1 n&&qX n x.2)then some {env:=mJ,H:=bM,aW:=n}else none
 |_,_=>none
inductive Fin where
 |go (st:aI) (aZ:List Prop)
 |bd (x:V) (st:aI) (aZ:List Prop)
def cY.mono{M M':Mem}(cM:M.le M'){v:Value}{x:V}(h:cY M v x):cY M' v x:=by
 induction h with
 |int k n=>exact .int k n
 |bool b=>exact .bool b
 |str l=>exact .str l
 |agg vs cs hn Z _ a7=>exact .agg vs cs hn Z a7
 |k5 k get=>exact .k5 k get
 |n2 a k get=>exact .n2 a k get
 |bD b off k n cap get val hc hk hm Z _ a7=>exact .bD b off k n cap get val hc hk (λi j hi hj=>cM _ _ _ (hm i j hi hj)) Z a7
 |iface t v x _ a7=>exact .iface t v x a7
 |en=>exact .en
 |hI=>exact .hI
 |aR=>exact .aR
 |any v Z=>exact .any v Z
 |nj k get=>exact .nj k get
inductive ct(M:Mem)(β:Nat→Option Nat):Value→D→Prop where
 |v (u:Value) (x:V) (h:cY M u x):ct M β u (.v x)
 |ptr (r off b:Nat) (h:β r=some b):ct M β (.pointer (some ⟨b,off,none⟩)) (.ptr r off)
 |kS (r off:Nat) (u:TypeId):ct M β (.pointer none) (.co r off u)
 |co (r off b:Nat) (u:TypeId) (h:β r=some b):ct M β (.pointer (some ⟨b,off,none⟩)) (.co r off u)
 |eI (b off:Nat) (x:V) (val:Nat→Value) (cM:∀j,j<x.cells.length→M b (off+j)=some (val j)) (Z:∀j,j<x.cells.length→(val j).oneCell'=true)
  (h:∀(j:Nat) c,x.cells[j]? = some c→cY M (val j) c):ct M β (.pointer (some ⟨b,off,none⟩)) (.eI x)
 |full (base:Option Addr) (k n:Nat) (get:Nat→V) (h:cY M (.slice base n n) (.bD k n get)):ct M β (.slice base n n) (.full k n get)
 |fn (f:FuncId) (vs:List Value) (cs:List D) (hn:vs.length=cs.length)
  (h:∀(i:Nat) v c,vs[i]? = some v→cs[i]? = some c→ct M β v c):ct M β (.func (.func f) #[] ⟨vs⟩) (.fn f cs)
 |agg (vs:List Value) (cs:List D) (hn:vs.length=cs.length) (Z:∀v,v∈vs→v.oneCell'=true)
  (h:∀(i:Nat) v c,vs[i]? = some v→cs[i]? = some c→ct M β v c):ct M β (.agg ⟨vs⟩) (.agg cs)
 |cx (vs:List Value) (cs:List D) (hn:vs.length=cs.length)
  (h:∀(i:Nat) v c,vs[i]? = some v→cs[i]? = some c→ct M β v c):ct M β (.tuple ⟨vs⟩) (.cx cs)
def ct.mono{M M':Mem}{β:Nat→Option Nat}(cM:M.le M'){v:Value}{d:D}(h:ct M β v d):ct M' β v d:=by
 induction h with
 |v u x h=>exact .v u x (h.mono cM)
 |ptr r off b h=>exact .ptr r off b h
 |kS r off u=>exact .kS r off u
 |co r off b u h=>exact .co r off b u h
 |eI b off x val hm Z h=>exact .eI b off x val (λj hj=>cM _ _ _ (hm j hj)) Z (λj c hc=>(h j c hc).mono cM)
 |full b k n get h=>exact .full b k n get (h.mono cM)
 |fn f vs cs hn _ a7=>exact .fn f vs cs hn a7
 |agg vs cs hn Z _ a7=>exact .agg vs cs hn Z a7
 |cx vs cs hn _ a7=>exact .cx vs cs hn a7
def qY{n:Nat}:∀{l:List D} {i:Nat} {d:D},sd n l=true→l[i]? = some d→below n d=true
 |[],_,_,_,h=>by simp at h
 |d::l,0,_,hb,h=>by simp [sd]at hb;simp at h;exact h ▸ hb.1
 |d::l,i+1,_,hb,h=>by simp [sd]at hb;simp at h;exact qY hb.2 h
def ct.Pu{M:Mem}{β β':Nat→Option Nat}{n:Nat}(gE:∀r,r<n→β' r=β r){v:Value}{d:D}(h:ct M β v d):Ab.below n d=true→ct M β' v d:=by
 induction h with
 |v u x h=>intro _;exact .v u x h
 |ptr r off b h=>intro hb;exact .ptr r off b (by rw [gE r (by simpa [Ab.below,Nat.blt_eq]using hb)];exact h)
 |kS r off u=>intro hb;exact .kS r off u
 |co r off b u h=>intro hb;exact .co r off b u (by rw [gE r (by simpa [Ab.below,Nat.blt_eq]using hb)];exact h)
 |eI b off x val hm Z h=>intro _;exact .eI b off x val hm Z h
 |full b k n get h=>intro _;exact .full b k n get h
 |fn f vs cs hn _ a7=>intro hb;exact .fn f vs cs hn λi v c ay hc=>a7 i v c ay hc (qY (by simpa [Ab.below]using hb) hc)
 |agg vs cs hn Z _ a7=>intro hb;exact .agg vs cs hn Z λi v c ay hc=>a7 i v c ay hc (qY (by simpa [Ab.below]using hb) hc)
 |cx vs cs hn _ a7=>intro hb;exact .cx vs cs hn λi v c ay hc=>a7 i v c ay hc (qY (by simpa [Ab.below]using hb) hc)
def uK{f:Nat→Option Nat}:∀{l cD:List D},kp f l=some cD→l.length=cD.length∧∀(i:Nat) d,l[i]? = some d→∃dZ,cD[i]? = some dZ∧eo f d=some dZ
 |[],cD,h=>by simp [kp]at h;subst h;simp
 |d::l,cD,h=>by
  simp only [kp]at h;split at h<;>simp at h
  rename_i dZ gb hd af;subst h;obtain⟨Z,ae⟩:=uK af;refine⟨by simp [Z],λi x hx=>?_⟩
  cases i with
  |zero=>simp at hx;subst hx;exact⟨dZ,by simp,hd⟩
  |succ i=>simp at hx;simpa using ae i x hx
def ct.eo{M:Mem}{β β':Nat→Option Nat}{f:Nat→Option Nat}(gE:∀r s b,f r=some s→β r=some b→β' s=some b){v:Value}{d:D}(h:ct M β v d):
 ∀{dZ},eo f d=some dZ→ct M β' v dZ:=by
 induction h with
 |v u x h=>intro dZ hd;simp [Ab.eo]at hd;subst hd;exact .v u x h
 |ptr r off b h=>
  intro dZ hd;simp only [Ab.eo,Option.map_eq_some_iff]at hd;obtain⟨s,hs,rfl⟩:=hd;exact .ptr s off b (gE r s b hs h)
 |kS r off u=>
  intro dZ hd;simp only [Ab.eo,Option.map_eq_some_iff]at hd;obtain⟨s,hs,rfl⟩:=hd;exact .kS s off u
 |co r off b u h=>
  intro dZ hd;simp only [Ab.eo,Option.map_eq_some_iff]at hd;obtain⟨s,hs,rfl⟩:=hd;exact .co s off b u (gE r s b hs h)
 |eI b off x val hm Z h=>intro dZ hd;simp [Ab.eo]at hd;subst hd;exact .eI b off x val hm Z h
 |full b k n get h=>intro dZ hd;simp [Ab.eo]at hd;subst hd;exact .full b k n get h
 |fn f vs cs hn _ a7=>
  intro dZ hd;simp only [Ab.eo,Option.map_eq_some_iff]at hd;obtain⟨cs',ei,rfl⟩:=hd;obtain⟨Z,ae⟩:=uK ei;refine .fn f vs cs' (by omega) λi v c ay hc=>?_
  have hi:i<cs.length:=by have:=(List.getElem?_eq_some_iff.1 hc).1;omega
  obtain⟨d1,f7,ak⟩:=ae i cs[i] (List.getElem?_eq_getElem hi);rw [hc]at f7;cases f7;exact a7 i v _ ay (List.getElem?_eq_getElem hi) ak
 |agg vs cs hn Z _ a7=>
  intro dZ hd;simp only [Ab.eo,Option.map_eq_some_iff]at hd;obtain⟨cs',ei,rfl⟩:=hd;obtain⟨h0,ae⟩:=uK ei;refine .agg vs cs' (by omega) Z λi v c ay hc=>?_
  have hi:i<cs.length:=by have:=(List.getElem?_eq_some_iff.1 hc).1;omega
  obtain⟨d1,f7,ak⟩:=ae i cs[i] (List.getElem?_eq_getElem hi);rw [hc]at f7;cases f7;exact a7 i v _ ay (List.getElem?_eq_getElem hi) ak
 |cx vs cs hn _ a7=>
  intro dZ hd;simp only [Ab.eo,Option.map_eq_some_iff]at hd;obtain⟨cs',ei,rfl⟩:=hd;obtain⟨Z,ae⟩:=uK ei;refine .cx vs cs' (by omega) λi v c ay hc=>?_
  have hi:i<cs.length:=by have:=(List.getElem?_eq_some_iff.1 hc).1;omega
  obtain⟨d1,f7,ak⟩:=ae i cs[i] (List.getElem?_eq_getElem hi);rw [hc]at f7;cases f7;exact a7 i v _ ay (List.getElem?_eq_getElem hi) ak
def ct.GZ{M:Mem}{β β':Nat→Option Nat}(gE:∀r b,β r=some b→β' r=some b){v:Value}{d:D}(h:ct M β v d):ct M β' v d:=by
 induction h with
 |v u x h=>exact .v u x h
 |ptr r off b h=>exact .ptr r off b (gE r b h)
 |kS r off u=>exact .kS r off u
 |co r off b u h=>exact .co r off b u (gE r b h)
 |eI b off x val hm Z h=>exact .eI b off x val hm Z h
 |full b k n get h=>exact .full b k n get h
 |fn f vs cs hn _ a7=>exact .fn f vs cs hn a7
 |agg vs cs hn Z _ a7=>exact .agg vs cs hn Z a7
 |cx vs cs hn _ a7=>exact .cx vs cs hn a7
def ct.Y1{M:Mem}{β β':Nat→Option Nat}{n:Nat}(gE:∀r,r<n→∀b,β r=some b→β' r=some b){v:Value}{d:D}(h:ct M β v d):Ab.below n d=true→ct M β' v d:=by
 induction h with
 |v u x h=>intro _;exact .v u x h
 |ptr r off b h=>intro hb;exact .ptr r off b (gE r (by simpa [Ab.below,Nat.blt_eq]using hb) b h)
 |kS r off u=>intro hb;exact .kS r off u
 |co r off b u h=>intro hb;exact .co r off b u (gE r (by simpa [Ab.below,Nat.blt_eq]using hb) b h)
 |eI b off x val hm Z h=>intro _;exact .eI b off x val hm Z h
 |full b k n get h=>intro _;exact .full b k n get h
 |fn f vs cs hn _ a7=>intro hb;exact .fn f vs cs hn λi v c ay hc=>a7 i v c ay hc (qY (by simpa [Ab.below]using hb) hc)
 |agg vs cs hn Z _ a7=>intro hb;exact .agg vs cs hn Z λi v c ay hc=>a7 i v c ay hc (qY (by simpa [Ab.below]using hb) hc)
 |cx vs cs hn _ a7=>intro hb;exact .cx vs cs hn λi v c ay hc=>a7 i v c ay hc (qY (by simpa [Ab.below]using hb) hc)
structure Ctx where
 xF:Mem
 F:Nat→Option Obj
 kr:Nat→Option Nat
 gZ:Os×Array (Nat×ByteArray)
 ds:List Deferred:=[]
inductive Loc where
 |slot (s:Nat)
 |cell (r i:Nat)
deriving DecidableEq
def aI.at(st:aI):Loc→Option a1
 |.slot s=>look st.env s
 |.cell r i=>(look st.H r).bind (·[i]?)
def cp(tmps:Array Value)(w:World)(β:Nat→Option Nat):Loc→Value
 |.slot s=>tmps.getD s undef
 |.cell r i=>match β r with
  |some b=>(w.cell? ⟨b,i,none⟩).getD undef
  |none=>undef
def g':Value→Option Nat
 |.slice (some a) _ _=>some a.block
 |_=>none
def n8(P:Program)(F:Nat→Option Obj)(M:Mem)(w:World)(T:TypeId)(v:Value):Prop:=
 v = .slice none 0 0∨∃b n cap vs T',v = .slice (some ⟨b,0,none⟩) n cap∧n≤cap∧w.heap[b]? = some (.cells ⟨vs⟩ T' (0,0))∧cap*P.cellsOf T≤vs.length∧
  (∀o,n*P.cellsOf T≤o→M b o=none)∧F b=none∧T'=T
def G0 (P : Program) : List Nat := ["strconv.ErrSyntax", "strconv.ErrRange"].filterMap P.globalNamed
def G1:Array Value:=((List.range 20).map λi=>Value.int .u64 ((10 ^ i:Nat):Int)).toArray
def p'(P:Program)(F:Nat→Option Obj):Prop:=
 (∀g,g∈G0 P→∃cs t jR fr,F g=some (.cells cs t jR)∧cs[0]? = some fr∧(fr = .nilIface∨∃b8 p_,fr = .iface b8 p_))∧
 ∀ g, P.globalNamed "internal/strconv.uint64pow10" = some g → ∃ t jR, F g = some (.cells G1 t jR)
def p'.mono{P:Program}{F Pv:Nat→Option Obj}(h:p' P F)(dF:∀b aZ,F b=some aZ→Pv b=some aZ):p' P Pv:=⟨λg hg=>by
 obtain⟨cs,t,jR,fr,Z,ae,ar⟩:=h.1 g hg;exact⟨cs,t,jR,fr,dF _ _ Z,ae,ar⟩,λg hg=>by
 obtain⟨t,jR,Z⟩:=h.2 g hg;exact⟨t,jR,dF _ _ Z⟩⟩
def kt(P:Program)(T:TypeId)(n:Nat)(cs:List a1):Prop:=∀e,e∈cs→∀r off u,e.d = .co r off u→liesAt P P.depth T (n / P.cellsOf T) off u 1=true
def Y2(P:Program)(T:TypeId)(vs:List Value)(cs:List a1):Prop:=(∀v,v∈vs→v.oneCell'=true)∧kt P T vs.length cs
def kt.sub{P:Program}{T:TypeId}{n:Nat}{cs cs':List a1}(h:kt P T n cs)(hs:∀e,e∈cs'→∃b5,b5∈cs∧b5.d=e.d):kt P T n cs':=λe he r off u hd=>by
 obtain⟨b5,Z,ae⟩:=hs e he;exact h b5 Z r off u (ae.trans hd)
structure bH(P:Program)(K:Ctx)(M:Mem)(β:Nat→Option Nat)(st:aI)(tmps:Array Value)(w:World):Prop where
 e_:∀l e,st.at l=some e→ct M β (cp tmps w β l) e.d
 own:∀l e T,st.at l=some e→e.own=some T→n8 P K.F M w T (cp tmps w β l)
 uniq:∀l cD e bf T T' b,st.at l=some e→e.own=some T→st.at cD=some bf→bf.own=some T'→
  g' (cp tmps w β l)=some b→g' (cp tmps w β cD)=some b→l=cD
 unbox:∀l e T b r cs,st.at l=some e→e.own=some T→g' (cp tmps w β l)=some b→look st.H r=some cs→β r≠some b
 box:∀r cs,look st.H r=some cs→∃b vs T,β r=some b∧w.heap[b]? = some (.cells ⟨vs⟩ T (0,0))∧vs.length=cs.length∧(∀o,M b o=none)∧K.F b=none∧Y2 P T vs cs
 inj:∀r dl b cs cs',look st.H r=some cs→look st.H dl=some cs'→β r=some b→β dl=some b→r=dl
 lt:∀r b,β r=some b→r<st.aW
 mem:∀b o v,M b o=some v→w.cell? ⟨b,o,none⟩=some v
 m0:K.xF.le M
 frame:∀b aZ,K.F b=some aZ→w.heap[b]? = some aZ∧∀o,M b o=K.xF b o
 h4:∀r b,K.kr r=some b→β r=some b
 iF:p' P K.F
 gZ:(w.os,w.output)=K.gZ
def aI.G2{st:aI}{r i:Nat}{cs:List a1}(h:look st.H r=some cs):st.at (.cell r i)=cs[i]? := by simp [aI.at,h]
def BC:∀{l:List D},qU l=true→∀d,d∈l→∀r off u,d ≠ .co r off u
 |[],h,d,hd=>by cases hd
 |x::l,h,d,hd=>by
  have ae:qU l=true:=by cases x<;>first|exact h|cases h
  rcases List.mem_cons.1 hd with rfl|jw
  ·intro r off u e;subst e;cases h
  ·exact BC ae d jw
def kt.Pw{P:Program}{T:TypeId}{n r:Nat}{st bW:aI}{cs cs':List a1}(h:kt P T n cs)(Z:look st.H r=some cs)(ae:look bW.H r=some cs')
 (he:∀l bf,bW.at l=some bf→∃e,st.at l=some e∧(e.d=bf.d∨∀q off u,bf.d ≠ .co q off u)):kt P T n cs':=λe hm q off u hd=>by
 obtain⟨i,hi,rfl⟩:=List.getElem_of_mem hm;obtain⟨b5,g1,g2⟩:=he (.cell r i) cs'[i] (by rw [aI.G2 ae];exact List.getElem?_eq_getElem hi)
 rw [aI.G2 Z]at g1;rcases g2 with g2|g2
 ·exact h b5 (List.mem_of_getElem? g1) q off u (g2.trans hd)
 ·exact absurd hd (g2 q off u)
def dP{α:Type}(j:Nat)(x:α)(l:List (Nat×α))(i:Nat):look ((j,x)::l) i=if j=i then some x else look l i:=by
 by_cases h:j=i
 ·simp [look,h]
 ·have:Nat.beq j i=false:=by rw [Bool.eq_false_iff];simpa using h
  simp [look,h,this]
def pc{α:Type}(l:List (Nat×α))(t i:Nat):look (del l t) i=if t=i then none else look l i:=by
 induction l with
 |nil=>simp [del,look]
 |cons x l a7=>
  obtain⟨j,x⟩:=x;by_cases h:j=t
  ·subst h;have:Nat.beq j j=true:=by simp
   simp only [del,this,cond_true,a7,dP];by_cases ae:j=i<;>simp [ae]
  ·have de:Nat.beq j t=false:=by rw [Bool.eq_false_iff];simpa using h
   simp only [del,de,cond_false,dP,a7];by_cases ae:j=i
   ·subst ae;simp [Ne.symm h]
   ·simp [ae]
def cell_of_heap{w:World}{b o:Nat}{vs:List Value}{T:TypeId}{nn:Nat×Nat}(h:w.heap[b]? = some (.cells ⟨vs⟩ T nn)):w.cell? ⟨b,o,none⟩=vs[o]? := by
 simp [World.cell?,h]
def lt_of_heap{w:World}{b:Nat}{aZ:Obj}(h:w.heap[b]? = some aZ):b<w.heap.size:=by
 rcases Nat.lt_or_ge b w.heap.size with de|de
 ·exact de
 ·simp [Array.getElem?_eq_none de]at h
def lt_of_cell{w:World}{b o:Nat}{v:Value}(h:w.cell? ⟨b,o,none⟩=some v):b<w.heap.size:=by
 unfold World.cell? at h;split at h
 ·rename_i bx;exact lt_of_heap bx
 ·cases h
def qa{w w':World}{b o:Nat}(h:w'.heap[b]? = w.heap[b]?):w'.cell? ⟨b,o,none⟩=w.cell? ⟨b,o,none⟩:=by
 simp [World.cell?,h]
section
variable {P:Program} {K:Ctx} {M M':Mem} {β β':Nat→Option Nat} {st bW:aI} {tmps fw:Array Value} {w w':World}
def n8.lt{F:Nat→Option Obj}{T:TypeId}{v:Value}{b:Nat}(h:n8 P F M w T v)(hb:g' v=some b):b<w.heap.size:=by
 rcases h with rfl|⟨bC,n,cap,vs,T',rfl,_,bx,_⟩
 ·simp [g']at hb
 ·simp [g']at hb;subst hb;exact lt_of_heap bx
def n8.free{F:Nat→Option Obj}{T:TypeId}{v:Value}{b:Nat}(h:n8 P F M w T v)(hb:g' v=some b):F b=none:=by
 rcases h with rfl|⟨bC,n,cap,vs,T',rfl,_,bx,_,_,dF,_⟩
 ·simp [g']at hb
 ·simp [g']at hb;subst hb;exact dF
def n8.congr{F:Nat→Option Obj}{T:TypeId}{v:Value}(h:n8 P F M w T v)(hw:∀b,g' v=some b→w'.heap[b]? = w.heap[b]?)(cM:∀b o,g' v=some b→M' b o=M b o):
 n8 P F M' w' T v:=by
 rcases h with rfl|⟨bC,n,cap,vs,T',rfl,Z,bx,ae,ar,dF⟩
 ·exact .inl rfl
 ·exact .inr ⟨bC,n,cap,vs,T',rfl,Z,(hw bC rfl).trans bx,ae,λo ax=>(cM bC o rfl).trans (ar o ax),dF⟩
def G3(h:bH P K M β st tmps w){r i:Nat}{cs:List a1}{e:a1}(ak:look st.H r=some cs)(hi:cs[i]? = some e):
 ∃b vs T v,β r=some b∧w.heap[b]? = some (.cells ⟨vs⟩ T (0,0))∧vs[i]? = some v∧cp tmps w β (.cell r i)=v:=by
 obtain⟨b,vs,T,hb,bx,af,_⟩:=h.box r cs ak;have G4:i<cs.length:=(List.getElem?_eq_some_iff.1 hi).1;have ay:vs[i]? = some vs[i]:=List.getElem?_eq_getElem (by omega)
 exact⟨b,vs,T,_,hb,bx,ay,by simp only [cp,hb,cell_of_heap bx,ay,Option.getD_some]⟩
def bH.xG(h:bH P K M β st tmps w){r b:Nat}{cs:List a1}(ak:look st.H r=some cs)(hb:β r=some b):b<w.heap.size:=by
 obtain⟨bC,vs,T,bQ,bx,_⟩:=h.box r cs ak;rw [hb]at bQ;cases bQ;exact lt_of_heap bx
def bH.free(h:bH P K M β st tmps w)(b:Nat)(dF:K.F b=none)(sf:∀r cs,look st.H r=some cs→β r≠some b)
 (fP:∀l e T,st.at l=some e→e.own=some T→g' (cp tmps w β l)≠some b)
 (hw:∀bC,bC≠b→bC<w.heap.size→w'.heap[bC]? = w.heap[bC]?) (cM:M.le M') (BD:∀bC o,bC≠b→M' bC o=M bC o)
 (BE:∀o v,M' b o=some v→w'.cell? ⟨b,o,none⟩=some v) (np:(w'.os,w'.output)=(w.os,w.output):=by rfl):bH P K M' β st tmps w':=by
 have b':∀l e,st.at l=some e→cp tmps w' β l=cp tmps w β l:=by
  intro l e af;cases l with
  |slot s=>rfl
  |cell r i=>
   simp only [aI.at]at af;cases ak:look st.H r with
   |none=>simp [ak]at af
   |some cs=>
    obtain⟨cS,vs,T,dc,bx,_⟩:=h.box r cs ak;have ea:cS≠b:=λe=>sf r cs ak (e ▸ dc)
    simp only [cp,dc];rw [qa (hw cS ea (lt_of_heap bx))]
 constructor
 ·intro l e af;rw [b' l e af];exact(h.e_ l e af).mono cM
 ·intro l e T af aS;rw [b' l e af];refine(h.own l e T af aS).congr (λcS dc=>hw cS ?_ ((h.own l e T af aS).lt dc)) (λcS o dc=>BD cS o ?_) <;>
  ·rintro rfl;exact fP l e T af aS dc
 ·intro l cD e bf T T' cS af aS dr d9 hb bQ;rw [b' l e af]at hb;rw [b' cD bf dr]at bQ;exact h.uniq l cD e bf T T' cS af aS dr d9 hb bQ
 ·intro l e T cS r cs af aS hb ak;rw [b' l e af]at hb;exact h.unbox l e T cS r cs af aS hb ak
 ·intro r cs ak;obtain⟨cS,vs,T,dc,bx,Z,ae,ar⟩:=h.box r cs ak;have ea:cS≠b:=λe=>sf r cs ak (e ▸ dc)
  exact⟨cS,vs,T,dc,(hw cS ea (lt_of_heap bx)).trans bx,Z,λo=>(BD cS o ea).trans (ae o),ar⟩
 ·exact h.inj
 ·exact h.lt
 ·intro cS o v ay;by_cases ea:cS=b
  ·subst ea;exact BE o v ay
  ·rw [BD cS o ea]at ay;have:=h.mem cS o v ay
   rw [qa (hw cS ea (lt_of_cell this))];exact this
 ·exact Mem.le_trans h.m0 cM
 ·intro cS aZ dc;have ea:cS≠b:=by rintro rfl;rw [dF]at dc;cases dc
  obtain⟨Z,ae⟩:=h.frame cS aZ dc;exact⟨(hw cS ea (lt_of_heap Z)).trans Z,λo=>(BD cS o ea).trans (ae o)⟩
 ·exact h.h4
 ·exact h.iF
 ·exact np.trans h.gZ
def bH.grow(h:bH P K M β st tmps w)(hw:∀b,b<w.heap.size→w'.heap[b]? = w.heap[b]?)(np:(w'.os,w'.output)=(w.os,w.output):=by rfl):bH P K M β st tmps w':=by
 have hn:∀b,w.heap.size≤b→K.F b=none:=by
  intro b hb;cases dF:K.F b with
  |none=>rfl
  |some aZ=>have:=lt_of_heap (h.frame b aZ dF).1;omega
 refine h.free w.heap.size (hn _ (Nat.le_refl _)) ?_ ?_ (λb _ hb=>hw b hb) (Mem.le_refl _) (λ_ _ _=>rfl) ?_ np
 ·intro r cs ak hb;have:=h.xG ak hb;omega
 ·intro l e T af aS hb;have:=(h.own l e T af aS).lt hb;omega
 ·intro o v ay;have:=lt_of_cell (h.mem _ _ _ ay);omega
def bH.sub(h:bH P K M β st tmps w)(hn:bW.aW=st.aW)
 (he:∀l bf,bW.at l=some bf→∃e,st.at l=some e∧e.d=bf.d∧∀T,bf.own=some T→e.own=some T)
 (eZ:∀r cs',look bW.H r=some cs'→∃cs,look st.H r=some cs∧cs.length=cs'.length):bH P K M β bW tmps w:=by
 constructor
 ·intro l bf af;obtain⟨e,Z,ae,_⟩:=he l bf af;rw [←ae];exact h.e_ l e Z
 ·intro l bf T af aS;obtain⟨e,Z,_,ar⟩:=he l bf af;exact h.own l e T Z (ar T aS)
 ·intro l cD e bf T T' b af aS dr d9;obtain⟨e1,Z,_,ar⟩:=he l e af;obtain⟨e2,l5,_,BF⟩:=he cD bf dr;exact h.uniq l cD e1 e2 T T' b Z (ar T aS) l5 (BF T' d9)
 ·intro l e T b r cs af aS hb ak;obtain⟨e1,Z,_,ar⟩:=he l e af;obtain⟨sg,ik,_⟩:=eZ r cs ak;exact h.unbox l e1 T b r sg Z (ar T aS) hb ik
 ·intro r cs ak;obtain⟨sg,ik,hlen⟩:=eZ r cs ak;obtain⟨b,vs,T,Z,ae,ar,aK,bc,b2,cU⟩:=h.box r sg ik
  exact⟨b,vs,T,Z,ae,ar.trans hlen,aK,bc,b2,cU.Pw ik ak λl bf af=>by
   obtain⟨e,g1,g2,_⟩:=he l bf af;exact⟨e,g1,.inl g2⟩⟩
 ·intro r dl b cs cs' ak fG hb bQ;obtain⟨c1,Z,_⟩:=eZ r cs ak;obtain⟨c2,ae,_⟩:=eZ dl cs' fG;exact h.inj r dl b c1 c2 Z ae hb bQ
 ·intro r b hb;rw [hn];exact h.lt r b hb
 ·exact h.mem
 ·exact h.m0
 ·exact h.frame
 ·exact h.h4
 ·exact h.iF
 ·exact h.gZ
def bH.Y3(h:bH P K M β st tmps w)(hn:bW.aW=st.aW)
 (he:∀l bf,bW.at l=some bf→∃e,st.at l=some e∧((e.d=bf.d∧∀T,bf.own=some T→e.own=some T)∨∃k g,e.d = .v (.nj k g)∧bf.d = .v (.bD k 0 g)))
 (eZ:∀r cs',look bW.H r=some cs'→∃cs,look st.H r=some cs∧cs.length=cs'.length):bH P K M β bW tmps w:=by
 have n9:∀l e k g,st.at l=some e→e.d = .v (.nj k g)→cp tmps w β l = .slice none 0 0:=by
  intro l e k g af hd;have:=h.e_ l e af
  rw [hd]at this;generalize cp tmps w β l=u at this ⊢
  cases this with
  |v u x hx=>cases hx;rfl
 constructor
 ·intro l bf af;obtain⟨e,Z,⟨ae,_⟩|⟨k,g,ae,ar⟩⟩:=he l bf af
  ·rw [←ae];exact h.e_ l e Z
  ·rw [ar,n9 l e k g Z ae];exact .v _ _ (.k5 k g)
 ·intro l bf T af aS;obtain⟨e,Z,⟨_,ar⟩|⟨k,g,ae,ar⟩⟩:=he l bf af
  ·exact h.own l e T Z (ar T aS)
  ·exact .inl (n9 l e k g Z ae)
 ·intro l cD e bf T T' b af aS dr d9 hb bQ;obtain⟨e1,Z,⟨_,ar⟩|⟨k,g,ae,ar⟩⟩:=he l e af
  ·obtain⟨e2,l5,⟨_,BF⟩|⟨k,g,Y4,BF⟩⟩:=he cD bf dr
   ·exact h.uniq l cD e1 e2 T T' b Z (ar T aS) l5 (BF T' d9) hb bQ
   ·rw [n9 cD e2 k g l5 Y4]at bQ;cases bQ
  ·rw [n9 l e1 k g Z ae]at hb;cases hb
 ·intro l e T b r cs af aS hb ak;obtain⟨sg,ik,_⟩:=eZ r cs ak;obtain⟨e1,Z,⟨_,ar⟩|⟨k,g,ae,ar⟩⟩:=he l e af
  ·exact h.unbox l e1 T b r sg Z (ar T aS) hb ik
  ·rw [n9 l e1 k g Z ae]at hb;cases hb
 ·intro r cs ak;obtain⟨sg,ik,hlen⟩:=eZ r cs ak;obtain⟨b,vs,T,Z,ae,ar,aK,bc,b2,cU⟩:=h.box r sg ik
  exact⟨b,vs,T,Z,ae,ar.trans hlen,aK,bc,b2,cU.Pw ik ak λl bf af=>by
   obtain⟨e,g1,⟨g2,_⟩|⟨k,g,_,g3⟩⟩:=he l bf af
   ·exact⟨e,g1,.inl g2⟩
   ·exact⟨e,g1,.inr λq off u aB=>by rw [g3]at aB;cases aB⟩⟩
 ·intro r dl b cs cs' ak fG hb bQ;obtain⟨c1,Z,_⟩:=eZ r cs ak;obtain⟨c2,ae,_⟩:=eZ dl cs' fG;exact h.inj r dl b c1 c2 Z ae hb bQ
 ·intro r b hb;rw [hn];exact h.lt r b hb
 ·exact h.mem
 ·exact h.m0
 ·exact h.frame
 ·exact h.h4
 ·exact h.iF
 ·exact h.gZ
structure l6(P:Program)(K:Ctx)(M:Mem)(β:Nat→Option Nat)(st:aI)(tmps:Array Value)(w:World)(l0:Loc)(v:Value)(T:TypeId):Prop where
 own:n8 P K.F M w T v
 apart:∀l e T' b,st.at l=some e→e.own=some T'→l≠l0→g' v=some b→g' (cp tmps w β l)≠some b
 unbox:∀b r cs,g' v=some b→look st.H r=some cs→β r≠some b
def bH.put(h:bH P K M β st tmps w){t:Nat}{v:Value}{e:a1}(bS:t<tmps.size)(ay:ct M β v e.d)
 (ax:∀T,e.own=some T→l6 P K M β st tmps w (.slot t) v T):
 bH P K M β {st with env:=(t,e)::st.env} (tmps.setIfInBounds t v) w:=by
 have fQ:∀l,({st with env:=(t,e)::st.env}:aI).at l=if l = .slot t then some e else st.at l:=by
  intro l;cases l with
  |slot s=>
   simp only [aI.at,dP,Loc.slot.injEq];by_cases hs:t=s
   ·subst hs;simp
   ·simp [hs,Ne.symm hs]
  |cell r i=>simp [aI.at]
 have b':∀l,cp (tmps.setIfInBounds t v) w β l=if l = .slot t then v else cp tmps w β l:=by
  intro l;cases l with
  |slot s=>
   simp only [cp,Loc.slot.injEq];by_cases hs:s=t
   ·subst hs;simp [bS]
   ·simp [hs,Ne.symm hs]
  |cell r i=>simp [cp]
 constructor
 ·intro l e1 af;rw [fQ]at af;rw [b'];by_cases h0:l = .slot t
  ·simp only [h0,if_true]at af ⊢;cases af;exact ay
  ·simp only [h0,if_false]at af ⊢;exact h.e_ l e1 af
 ·intro l e1 T af aS;rw [fQ]at af;rw [b'];by_cases h0:l = .slot t
  ·simp only [h0,if_true]at af ⊢;cases af;exact(ax T aS).own
  ·simp only [h0,if_false]at af ⊢;exact h.own l e1 T af aS
 ·intro l cD e1 e2 T T' b af aS dr d9 hb bQ;rw [fQ]at af dr;rw [b']at hb bQ;by_cases h0:l = .slot t<;>by_cases qZ:cD = .slot t
  ·rw [h0,qZ]
  ·simp only [h0,qZ,if_true,if_false]at af dr hb bQ;cases af;exact absurd bQ ((ax T aS).apart cD e2 T' b dr d9 qZ hb)
  ·simp only [h0,qZ,if_true,if_false]at af dr hb bQ;cases dr;exact absurd hb ((ax T' d9).apart l e1 T b af aS h0 bQ)
  ·simp only [h0,qZ,if_false]at af dr hb bQ;exact h.uniq l cD e1 e2 T T' b af aS dr d9 hb bQ
 ·intro l e1 T b r cs af aS hb ak;rw [fQ]at af;rw [b']at hb;by_cases h0:l = .slot t
  ·simp only [h0,if_true]at af hb;cases af;exact(ax T aS).unbox b r cs hb ak
  ·simp only [h0,if_false]at af hb;exact h.unbox l e1 T b r cs af aS hb ak
 ·exact h.box
 ·exact h.inj
 ·exact h.lt
 ·exact h.mem
 ·exact h.m0
 ·exact h.frame
 ·exact h.h4
 ·exact h.iF
 ·exact h.gZ
def bH.drop(h:bH P K M β st tmps w){t:Nat}{v:Value}:bH P K M β {st with env:=del st.env t} (tmps.setIfInBounds t v) w:=by
 have fQ:∀l,({st with env:=del st.env t}:aI).at l=if l = .slot t then none else st.at l:=by
  intro l;cases l with
  |slot s=>
   simp only [aI.at,pc,Loc.slot.injEq];by_cases hs:t=s
   ·subst hs;simp
   ·simp [hs,Ne.symm hs]
  |cell r i=>simp [aI.at]
 have Z:bH P K M β {st with env:=del st.env t} tmps w:=by
  refine h.sub rfl (λl bf af=>?_) (λr cs ak=>⟨cs,ak,rfl⟩)
  rw [fQ]at af;by_cases h0:l = .slot t
  ·simp [h0]at af
  ·simp only [h0,if_false]at af;exact⟨bf,af,rfl,λ_ h=>h⟩
 have b':∀l e,({st with env:=del st.env t}:aI).at l=some e→cp (tmps.setIfInBounds t v) w β l=cp tmps w β l:=by
  intro l e af;cases l with
  |slot s=>
   have hs:t≠s:=by rintro rfl;simp [aI.at,pc]at af
   simp [cp,hs]
  |cell r i=>rfl
 constructor
 ·intro l e af;rw [b' l e af];exact Z.e_ l e af
 ·intro l e T af aS;rw [b' l e af];exact Z.own l e T af aS
 ·intro l cD e bf T T' b af aS dr d9 hb bQ;rw [b' l e af]at hb;rw [b' cD bf dr]at bQ;exact Z.uniq l cD e bf T T' b af aS dr d9 hb bQ
 ·intro l e T b r cs af aS hb ak;rw [b' l e af]at hb;exact Z.unbox l e T b r cs af aS hb ak
 ·exact Z.box
 ·exact Z.inj
 ·exact Z.lt
 ·exact Z.mem
 ·exact Z.m0
 ·exact Z.frame
 ·exact Z.h4
 ·exact Z.iF
 ·exact Z.gZ
def bH.Y5(h:bH P K M β st tmps w){dt n':Nat}(k7:∀b,β dt≠some b)(Y6:dt<n')(akp:st.aW≤n'){vs:List Value}{T:TypeId}{cs:List a1}(hlen:vs.length=cs.length)(il:∀v,v∈vs→v.oneCell'=true)(hlies:kt P T vs.length cs)
 (ay:∀(i:Nat) v e,vs[i]? = some v→cs[i]? = some e→ct M β v e.d∧∀T,e.own=some T→v = .slice none 0 0):
 bH P K M (λr=>if r=dt then some w.heap.size else β r) {st with H:=(dt,cs)::st.H,aW:=n'} tmps {w with heap:=w.heap.push (.cells ⟨vs⟩ T (0,0))}:=by
 have Px:∀r b,β r=some b→r≠dt:=λr b hb e=>k7 b (e ▸ hb)
 have dc:∀r b,β r=some b→(λr=>if r=dt then some w.heap.size else β r) r=some b:=by
  intro r b hb;simp [Px r b hb,hb]
 have f9:∀{v d},ct M β v d→ct M (λr=>if r=dt then some w.heap.size else β r) v d:=by
  intro v d hd;refine hd.GZ ?_;exact dc
 have hg:=h.grow (w':={w with heap:=w.heap.push (.cells ⟨vs⟩ T (0,0))}) (λb hb=>by simp [Array.getElem?_push,Nat.ne_of_lt hb])
 have hold:∀r cs,r≠dt→look ((dt,cs)::st.H) r=look st.H r:=λr cs ea=>by simp [dP,Ne.symm ea]
 have Y7:∀r cs,look st.H r=some cs→r≠dt:=λr cs ak=>by obtain⟨b,_,_,hb,_⟩:=h.box r cs ak;exact Px r b hb
 have b':∀l e,st.at l=some e→cp tmps {w with heap:=w.heap.push (.cells ⟨vs⟩ T (0,0))} (λr=>if r=dt then some w.heap.size else β r) l=cp tmps {w with heap:=w.heap.push (.cells ⟨vs⟩ T (0,0))} β l:=by
  intro l e af;cases l with
  |slot s=>rfl
  |cell r i=>
   simp only [aI.at]at af;cases ak:look st.H r with
   |none=>simp [ak]at af
   |some c=>simp [cp,Y7 r c ak]
 have Py:∀i e,cs[i]? = some e→∃v,vs[i]? = some v∧cp tmps {w with heap:=w.heap.push (.cells ⟨vs⟩ T (0,0))} (λr=>if r=dt then some w.heap.size else β r) (.cell dt i)=v:=by
  intro i e hi;have G4:i<cs.length:=(List.getElem?_eq_some_iff.1 hi).1;have eN:vs[i]? = some vs[i]:=List.getElem?_eq_getElem (by omega)
  exact⟨_,eN,by simp [cp,World.cell?,hlen ▸ G4]⟩
 have fQ:∀l e,({st with H:=(dt,cs)::st.H,aW:=n'}:aI).at l=some e→(∃i,l = .cell dt i∧cs[i]? = some e)∨(st.at l=some e∧∀i,l ≠ .cell dt i):=by
  intro l e af;cases l with
  |slot s=>exact .inr ⟨af,by simp⟩
  |cell r i=>
   by_cases ak:r=dt
   ·subst ak;simp [aI.at,dP]at af;exact .inl ⟨i,rfl,af⟩
   ·refine .inr ⟨?_,by simp [ak]⟩
    simpa [aI.at,dP,Ne.symm ak]using af
 have jx:∀l e T',({st with H:=(dt,cs)::st.H,aW:=n'}:aI).at l=some e→e.own=some T'→(∃i,l = .cell dt i)→cp tmps {w with heap:=w.heap.push (.cells ⟨vs⟩ T (0,0))} (λr=>if r=dt then some w.heap.size else β r) l = .slice none 0 0:=by
  rintro l e T' af aS ⟨i,rfl⟩
  have hi:cs[i]? = some e:=by simpa [aI.at,dP]using af
  obtain⟨v,Z,ae⟩:=Py i e hi;rw [ae];exact(ay i v e Z hi).2 T' aS
 constructor
 ·intro l e af;rcases fQ l e af with⟨i,rfl,hi⟩|⟨ax,_⟩
  ·obtain⟨v,Z,ae⟩:=Py i e hi;rw [ae];exact f9 (ay i v e Z hi).1
  ·rw [b' l e ax];exact f9 (hg.e_ l e ax)
 ·intro l e T' af aS;rcases fQ l e af with⟨i,lE,hi⟩|⟨ax,_⟩
  ·rw [jx l e T' af aS ⟨i,lE⟩];exact .inl rfl
  ·rw [b' l e ax];exact hg.own l e T' ax aS
 ·intro l cD e bf gF n_ b af aS dr d9 hb bQ;rcases fQ l e af with⟨i,lE,hi⟩|⟨ax,_⟩
  ·rw [jx l e gF af aS ⟨i,lE⟩]at hb;simp [g']at hb
  ·rcases fQ cD bf dr with⟨i,lE,hi⟩|⟨jS,_⟩
   ·rw [jx cD bf n_ dr d9 ⟨i,lE⟩]at bQ;simp [g']at bQ
   ·rw [b' l e ax]at hb;rw [b' cD bf jS]at bQ;exact hg.uniq l cD e bf gF n_ b ax aS jS d9 hb bQ
 ·intro l e gF b r c af aS hb ak;rcases fQ l e af with⟨i,lE,hi⟩|⟨ax,_⟩
  ·rw [jx l e gF af aS ⟨i,lE⟩]at hb;simp [g']at hb
  ·rw [b' l e ax]at hb
   have c8:b<w.heap.size:=by
    have Z:=(h.own l e gF ax aS)
    have ae:cp tmps {w with heap:=w.heap.push (.cells ⟨vs⟩ T (0,0))} β l=cp tmps w β l:=by
     cases l with
     |slot s=>rfl
     |cell r i=>
      simp only [aI.at]at ax;cases ak:look st.H r with
      |none=>simp [ak]at ax
      |some c=>
       obtain⟨cS,jT,n_,fR,bx,_⟩:=h.box r c ak;simp only [cp,fR];rw [qa (w:=w) (by simp [Array.getElem?_push,Nat.ne_of_lt (lt_of_heap bx)])]
    rw [ae]at hb;exact Z.lt hb
   by_cases iW:r=dt
   ·subst iW;simp;omega
   ·simp [iW];exact hg.unbox l e gF b r c ax aS hb (by simpa [dP,Ne.symm iW]using ak)
 ·intro r c ak;by_cases iW:r=dt
  ·subst iW;simp [dP]at ak;subst ak;refine⟨w.heap.size,vs,T,by simp,by simp,hlen,λo=>?_,?_,il,hlies⟩
   ·cases hm:M w.heap.size o with
    |none=>rfl
    |some v=>have:=lt_of_cell (h.mem _ _ _ hm);omega
   ·cases dF:K.F w.heap.size with
    |none=>rfl
    |some aZ=>have:=lt_of_heap (h.frame _ aZ dF).1;omega
  ·obtain⟨b,jT,gF,Z,ae,ar⟩:=hg.box r c (by simpa [dP,Ne.symm iW]using ak)
   exact⟨b,jT,gF,by simp [iW,Z],ae,ar⟩
 ·intro r dl b c k8 ak fG hb bQ;by_cases iW:r=dt<;>by_cases uL:dl=dt
  ·rw [iW,uL]
  ·simp [iW]at hb;simp [uL]at bQ;have:=h.xG (by simpa [dP,Ne.symm uL]using fG) bQ
   omega
  ·simp [uL]at bQ;simp [iW]at hb;have:=h.xG (by simpa [dP,Ne.symm iW]using ak) hb
   omega
  ·simp [iW]at hb;simp [uL]at bQ;exact h.inj r dl b c k8 (by simpa [dP,Ne.symm iW]using ak) (by simpa [dP,Ne.symm uL]using fG) hb bQ
 ·intro r b hb;by_cases iW:r=dt
  ·subst iW;exact Y6
  ·simp [iW]at hb;have:=h.lt r b hb;simp;omega
 ·exact hg.mem
 ·exact hg.m0
 ·exact hg.frame
 ·intro r b hb;exact dc r b (h.h4 r b hb)
 ·exact hg.iF
 ·exact hg.gZ
end
section
variable {P:Program} {K:Ctx} {M M':Mem} {β β':Nat→Option Nat} {st bW:aI} {tmps fw:Array Value} {w w':World}
def bH.G5(h:bH P K M β st tmps w){r b:Nat}{cs:List a1}(ak:look st.H r=some cs)(hb:β r=some b){vs vs':List Value}{T:TypeId}
 (bx:w.heap[b]? = some (.cells ⟨vs⟩ T (0,0))) {cs':List a1} (hlen:vs'.length=cs'.length) (il:∀v,v∈vs'→v.oneCell'=true) (hlies:kt P T vs.length cs→kt P T vs'.length cs') (ei:cs'.length=cs.length)
 (mK:w'.heap[b]? = some (.cells ⟨vs'⟩ T (0,0))) (xH:∀bC,bC≠b→w'.heap[bC]? = w.heap[bC]?) (i0:Nat)
 (ay:∀(i:Nat) v e,vs'[i]? = some v→cs'[i]? = some e→ct M β v e.d∧∀T,e.own=some T→
  (i≠i0∧(∃b5,cs[i]? = some b5∧b5.own=some T)∧vs[i]? = some v)∨(i=i0∧l6 P K M β st tmps w (.cell r i0) v T)) (np:(w'.os,w'.output)=(w.os,w.output):=by rfl):
 bH P K M β {st with H:=(r,cs')::st.H} tmps w':=by
 have BG:K.F b=none∧∀o,M b o=none:=by
  obtain⟨cS,_,_,Z,_,_,ae,ar,_⟩:=h.box r cs ak;rw [hb]at Z;cases Z;exact⟨ar,ae⟩
 have Y8:kt P T vs.length cs:=by
  obtain⟨cS,jT,gF,Z,ae,_,_,_,_,ar⟩:=h.box r cs ak;rw [hb]at Z;cases Z;rw [bx]at ae;cases ae;exact ar
 have hy:∀bC,bC≠b→∀o,w'.cell? ⟨bC,o,none⟩=w.cell? ⟨bC,o,none⟩:=λbC ea o=>qa (xH bC ea)
 have ea:∀dl c bC,look st.H dl=some c→β dl=some bC→dl≠r→bC≠b:=λdl c bC fG bQ ea e=>ea (h.inj dl r bC c cs fG ak bQ (e ▸ hb))
 have fQ:∀l e,({st with H:=(r,cs')::st.H}:aI).at l=some e→(∃i v,l = .cell r i∧cs'[i]? = some e∧vs'[i]? = some v∧cp tmps w' β l=v)∨(st.at l=some e∧cp tmps w' β l=cp tmps w β l∧∀i,l ≠ .cell r i):=by
  intro l e af;cases l with
  |slot s=>exact .inr ⟨af,rfl,by simp⟩
  |cell dl i=>
   by_cases ku:dl=r
   ·subst ku;simp [aI.at,dP]at af;have hi:i<cs'.length:=(List.getElem?_eq_some_iff.1 af).1;have eN:vs'[i]? = some vs'[i]:=List.getElem?_eq_getElem (by omega)
    exact .inl ⟨i,_,rfl,af,eN,by simp only [cp,hb,cell_of_heap mK,eN,Option.getD_some]⟩
   ·have dr:st.at (.cell dl i)=some e:=by simpa [aI.at,dP,Ne.symm ku]using af
    refine .inr ⟨dr,?_,by simp [ku]⟩
    simp only [aI.at]at dr;cases fG:look st.H dl with
    |none=>simp [fG]at dr
    |some c=>
     obtain⟨cS,_,_,dc,_⟩:=h.box dl c fG;simp only [cp,dc];rw [hy cS (ea dl c cS fG dc ku)]
 have fP:∀l e T,({st with H:=(r,cs')::st.H}:aI).at l=some e→e.own=some T→
  (l ≠ .cell r i0∧(∃b5,st.at l=some b5∧b5.own=some T)∧cp tmps w' β l=cp tmps w β l)∨(l = .cell r i0∧l6 P K M β st tmps w (.cell r i0) (cp tmps w' β l) T):=by
  intro l e gF af aS;rcases fQ l e af with⟨i,v,rfl,hi,eN,b'⟩|⟨ax,b',h5⟩
  ·rcases(ay i v e eN hi).2 gF aS with⟨Y9,⟨b5,G6,jU⟩,hold⟩|⟨rfl,hn⟩
   ·refine .inl ⟨by simp [Y9],⟨b5,by simp [aI.at,ak,G6],jU⟩,?_⟩
    rw [b'];simp only [cp,hb,cell_of_heap bx,hold,Option.getD_some]
   ·exact .inr ⟨rfl,by rw [b'];exact hn⟩
  ·exact .inl ⟨h5 i0,⟨e,ax,aS⟩,b'⟩
 have eZ:∀dl c,look ((r,cs')::st.H) dl=some c→∃k8,look st.H dl=some k8:=by
  intro dl c hc;by_cases ku:r=dl
  ·exact⟨cs,ku ▸ ak⟩
  ·exact⟨c,by simpa [dP,ku]using hc⟩
 constructor
 ·intro l e af;rcases fQ l e af with⟨i,v,rfl,hi,eN,b'⟩|⟨ax,b',h5⟩
  ·rw [b'];exact(ay i v e eN hi).1
  ·rw [b'];exact h.e_ l e ax
 ·intro l e gF af aS;rcases fP l e gF af aS with⟨_,⟨b5,h0,jU⟩,b'⟩|⟨rfl,hn⟩
  ·rw [b'];refine(h.own l b5 gF h0 jU).congr (λcS dc=>xH cS ?_) (λ_ _ _=>rfl)
   rintro rfl
   exact h.unbox l b5 gF cS r cs h0 jU dc ak hb
  ·refine hn.own.congr (λcS dc=>xH cS ?_) (λ_ _ _=>rfl)
   rintro rfl
   exact hn.unbox cS r cs dc ak hb
 ·intro l cD e bf gF n_ cS af aS dr d9 dc sh;rcases fP l e gF af aS with⟨hl0,⟨b5,h0,jU⟩,b'⟩|⟨rfl,hn⟩<;>rcases fP cD bf n_ dr d9 with⟨Y',⟨uM,qZ,xI⟩,pd⟩|⟨rfl,BH⟩
  ·rw [b']at dc;rw [pd]at sh;exact h.uniq l cD b5 uM gF n_ cS h0 jU qZ xI dc sh
  ·rw [b']at dc;exact absurd dc (BH.apart l b5 gF cS h0 jU hl0 sh)
  ·rw [pd]at sh;exact absurd sh (hn.apart cD uM n_ cS qZ xI Y' dc)
  ·rfl
 ·intro l e gF cS dl c af aS dc fG;obtain⟨k8,ji⟩:=eZ dl c fG;rcases fP l e gF af aS with⟨_,⟨b5,h0,jU⟩,b'⟩|⟨rfl,hn⟩
  ·rw [b']at dc;exact h.unbox l b5 gF cS dl k8 h0 jU dc ji
  ·exact hn.unbox cS dl k8 dc ji
 ·intro dl c fG;by_cases ku:r=dl
  ·subst ku;simp [dP]at fG;subst fG;exact⟨b,vs',T,hb,mK,hlen,BG.2,BG.1,il,hlies Y8⟩
  ·have iG:look st.H dl=some c:=by simpa [dP,ku]using fG
   obtain⟨cS,jT,gF,Z,ae,ar⟩:=h.box dl c iG;exact⟨cS,jT,gF,Z,(xH cS (ea dl c cS iG Z (Ne.symm ku))).trans ae,ar⟩
 ·intro ah ao cS c1 c2 ik iG dc fR;obtain⟨Pz,Z⟩:=eZ ah c1 ik;obtain⟨PA,ae⟩:=eZ ao c2 iG;exact h.inj ah ao cS Pz PA Z ae dc fR
 ·exact h.lt
 ·intro cS o v hm;by_cases pe:cS=b
  ·subst pe;rw [BG.2 o]at hm;cases hm
  ·rw [hy cS pe];exact h.mem cS o v hm
 ·exact h.m0
 ·intro cS aZ dF;have pe:cS≠b:=by rintro rfl;rw [BG.1]at dF;cases dF
  obtain⟨Z,ae⟩:=h.frame cS aZ dF;exact⟨(xH cS pe).trans Z,ae⟩
 ·exact h.h4
 ·exact h.iF
 ·exact np.trans h.gZ
def mL:∀(l:List Nat) (env:List (Nat×a1)) (s:Nat),
 look (gD l env) s=if s∈l then(look env s).map (λe=>{e with own:=none})else look env s
 |[],env,s=>by simp [gD]
 |t::l,env,s=>by
  have a7:=mL l env s;simp only [gD];cases bS:look env t with
  |none=>
   simp only [a7];by_cases hs:s=t
   ·subst hs;simp [bS]
   ·simp [hs]
  |some e=>
   simp only [dP];by_cases hs:t=s
   ·subst hs;simp [bS]
   ·simp [hs,Ne.symm hs,a7]
def bH.gJ(h:bH P K M β st tmps w)(l:List Nat):bH P K M β {st with env:=gD l st.env} tmps w:=by
 refine h.sub rfl (λgb bf af=>?_) (λr cs ak=>⟨cs,ak,rfl⟩)
 cases gb with
 |slot s=>
  simp only [aI.at,mL]at af ⊢;by_cases hs:s∈l
  ·simp only [hs,if_true,Option.map_eq_some_iff]at af;obtain⟨e,he,rfl⟩:=af;exact⟨e,he,rfl,by simp⟩
  ·simp only [hs,if_false]at af;exact⟨bf,af,rfl,λ_ h=>h⟩
 |cell r i=>exact⟨bf,af,rfl,λ_ h=>h⟩
def bH.hand(h:bH P K M β st tmps w){s:Nat}{e:a1}{T:TypeId}(hs:look st.env s=some e)(aS:e.own=some T)(l0:Loc):
 l6 P K M β {st with env:=gD [s] st.env} tmps w l0 (tmps.getD s undef) T:=by
 have af:st.at (.slot s)=some e:=hs;refine⟨h.own (.slot s) e T af aS,λl bf T' b dr d9 _ hb bQ=>?_,λb r cs hb ak=>h.unbox (.slot s) e T b r cs af aS hb ak⟩
 have eC:∃e2,st.at l=some e2∧e2.own=some T'∧l ≠ .slot s:=by
  cases l with
  |slot uN=>
   simp only [aI.at,mL]at dr ⊢;by_cases G7:uN=s
   ·subst G7;simp at dr;obtain⟨_,_,rfl⟩:=dr;simp at d9
   ·simp [G7]at dr;exact⟨bf,dr,d9,by simp [G7]⟩
  |cell r i=>exact⟨bf,dr,d9,by simp⟩
 obtain⟨e2,ae,Y_,ea⟩:=eC;exact ea (h.uniq l (.slot s) e2 e T' T b ae Y_ af aS bQ hb)
def bH.PB(h:bH P K M β st tmps w){r i:Nat}{cs cs':List a1}{e:a1}{T:TypeId}(ak:look st.H r=some cs)(hi:cs[i]? = some e)(aS:e.own=some T)
 (ei:cs'.length=cs.length) (lF:∀(j:Nat) bf,cs'[j]? = some bf→∃b5,cs[j]? = some b5∧b5.d=bf.d∧(∀T,bf.own=some T→b5.own=some T∧j≠i)) (l0:Loc):
 bH P K M β {st with H:=(r,cs')::st.H} tmps w∧l6 P K M β {st with H:=(r,cs')::st.H} tmps w l0 (cp tmps w β (.cell r i)) T:=by
 have af:st.at (.cell r i)=some e:=by simp [aI.at,ak,hi]
 have fQ:∀l bf,({st with H:=(r,cs')::st.H}:aI).at l=some bf→∃b5,st.at l=some b5∧b5.d=bf.d∧∀T,bf.own=some T→b5.own=some T∧l ≠ .cell r i:=by
  intro l bf dr;cases l with
  |slot s=>exact⟨bf,dr,rfl,λT h=>⟨h,by simp⟩⟩
  |cell dl j=>
   by_cases ku:r=dl
   ·subst ku;simp [aI.at,dP]at dr;obtain⟨b5,Z,ae,ar⟩:=lF j bf dr;exact⟨b5,by simp [aI.at,ak,Z],ae,λT aS=>⟨(ar T aS).1,by simp [(ar T aS).2]⟩⟩
   ·refine⟨bf,by simpa [aI.at,dP,ku]using dr,rfl,λT h=>⟨h,by simp [Ne.symm ku]⟩⟩
 have eZ:∀dl c,look ((r,cs')::st.H) dl=some c→∃k8,look st.H dl=some k8∧k8.length=c.length:=by
  intro dl c hc;by_cases ku:r=dl
  ·subst ku;simp [dP]at hc;subst hc;exact⟨cs,ak,ei.symm⟩
  ·exact⟨c,by simpa [dP,ku]using hc,rfl⟩
 refine⟨h.sub rfl (λl bf dr=>?_) eZ,h.own _ e T af aS,λl bf T' b dr d9 _ hb bQ=>?_,λb dl c hb fG=>?_⟩
 ·obtain⟨b5,Z,ae,ar⟩:=fQ l bf dr;exact⟨b5,Z,ae,λT aS=>(ar T aS).1⟩
 ·obtain⟨b5,Z,_,ar⟩:=fQ l bf dr;exact(ar T' d9).2 (h.uniq l _ b5 e T' T b Z (ar T' d9).1 af aS bQ hb)
 ·obtain⟨k8,Z,_⟩:=eZ dl c fG;exact h.unbox _ e T b dl k8 af aS hb Z
def G8(l0:Loc)(T:TypeId):l6 P K M β st tmps w l0 (.slice none 0 0) T:=
 ⟨.inl rfl,λ_ _ _ _ _ _ _ hb=>by simp [g']at hb,λ_ _ _ hb=>by simp [g']at hb⟩
def PC:∀{l:List Nat} {env mJ:List (Nat×a1)},xD env l=some mJ→∀s e,look mJ s=some e→look env s=some e
 |[],env,mJ,h,s,e,he=>by simp [xD]at h;subst h;simp [look]at he
 |t::l,env,mJ,h,s,e,he=>by
  simp only [xD]at h;split at h<;>simp at h
  rename_i e1 gb Z ae;subst h;rw [dP]at he;by_cases jV:t=s
  ·simp [jV]at he;subst he;rw [←jV];exact Z
  ·simp [jV]at he;exact PC ae s e he
def G9:∀{l:List Nat} {H bM:List (Nat×List a1)},xE H l=some bM→∀s e,look bM s=some e→look H s=some e
 |[],env,mJ,h,s,e,he=>by simp [xE]at h;subst h;simp [look]at he
 |t::l,env,mJ,h,s,e,he=>by
  simp only [xE]at h;split at h<;>simp at h
  rename_i e1 gb Z ae;subst h;rw [dP]at he;by_cases jV:t=s
  ·simp [jV]at he;subst he;rw [←jV];exact Z
  ·simp [jV]at he;exact G9 ae s e he
def qb{α:Type}:∀{l:List (Nat×α)} {i:Nat} {x:α},look l i=some x→(i,x)∈l
 |[],_,_,h=>by simp [look]at h
 |(j,y)::l,i,x,h=>by
  rw [dP]at h;by_cases hj:j=i
  ·simp [hj]at h;subst h;simp [hj]
  ·simp [hj]at h;exact List.mem_cons_of_mem _ (qb h)
def G'{n:Nat}:∀{l:List a1} {i:Nat} {e:a1},qX n l=true→l[i]? = some e→below n e.d=true
 |[],_,_,_,h=>by simp at h
 |d::l,0,_,hb,h=>by simp [qX]at hb;simp at h;exact h ▸ hb.1
 |d::l,i+1,_,hb,h=>by simp [qX]at hb;simp at h;exact G' hb.2 h
def bH.se(h:bH P K M β st tmps w){live uO:List Nat}{n:Nat}(ak:Ab.se live uO n st.env st.H st.aW=some bW)(ey:∀r b,K.kr r=some b→r<n):
 ∃ β',bH P K M β' bW tmps w:=by
 unfold Ab.se at ak;split at ak
 case h_2=>cases ak
 rename_i mJ bM he eZ;rw [Bool.cond_eq_ite]at ak;split at ak
 case isFalse=>cases ak
 rename_i hc;cases ak;simp only [Bool.and_eq_true,List.all_eq_true,Prod.forall,Nat.blt_eq,Nat.ble_eq]at hc;obtain⟨⟨hn,Za⟩,PD⟩:=hc
 have Z:bH P K M β {env:=mJ,H:=bM,aW:=st.aW} tmps w:=by
  refine h.sub rfl (λl bf af=>?_) (λr cs ak=>⟨cs,G9 eZ _ _ ak,rfl⟩)
  refine⟨bf,?_,rfl,λ_ h=>h⟩
  cases l with
  |slot s=>exact PC he _ _ af
  |cell r i=>
   simp only [aI.at]at af ⊢;cases ak:look bM r with
   |none=>simp [ak]at af
   |some c=>simp [ak]at af;simp [G9 eZ _ _ ak,af]
 have l7:∀l e,({env:=mJ,H:=bM,aW:=st.aW}:aI).at l=some e→below n e.d=true∧(∀r i,l = .cell r i→r<n):=by
  intro l e af;cases l with
  |slot s=>exact⟨Za s e (qb af),by simp⟩
  |cell r i=>
   simp only [aI.at]at af;cases ak:look bM r with
   |none=>simp [ak]at af
   |some c=>
    simp [ak]at af;have:=PD r c (qb ak)
    exact⟨G' this.2 af,by rintro dl lG h;cases h;exact this.1⟩
 refine⟨λr=>if r<n then β r else none,?_⟩
 have b':∀l e,({env:=mJ,H:=bM,aW:=st.aW}:aI).at l=some e→cp tmps w (λr=>if r<n then β r else none) l=cp tmps w β l:=by
  intro l e af;cases l with
  |slot s=>rfl
  |cell r i=>simp [cp,(l7 _ _ af).2 r i rfl]
 have iW:∀r c,look bM r=some c→r<n:=λr c ak=>(PD r c (qb ak)).1
 constructor
 ·intro l e af;rw [b' l e af];exact(Z.e_ l e af).Pu (λr ak=>by simp [ak]) (l7 l e af).1
 ·intro l e T af aS;rw [b' l e af];exact Z.own l e T af aS
 ·intro l cD e bf T T' b af aS dr d9 hb bQ;rw [b' l e af]at hb;rw [b' cD bf dr]at bQ;exact Z.uniq l cD e bf T T' b af aS dr d9 hb bQ
 ·intro l e T b r cs af aS hb ak;rw [b' l e af]at hb;have:=Z.unbox l e T b r cs af aS hb ak
  simpa [iW r cs ak]using this
 ·intro r cs ak;obtain⟨b,vs,T,ae,ar⟩:=Z.box r cs ak;exact⟨b,vs,T,by simpa [iW r cs ak]using ae,ar⟩
 ·intro r dl b cs cs' ak fG hb bQ;exact Z.inj r dl b cs cs' ak fG (by simpa [iW r cs ak]using hb) (by simpa [iW dl cs' fG]using bQ)
 ·intro r b hb;by_cases c8:r<n
  ·exact c8
  ·simp [c8]at hb
 ·exact Z.mem
 ·exact Z.m0
 ·exact Z.frame
 ·intro r b hb;simp [ey r b hb,Z.h4 r b hb]
 ·exact Z.iF
 ·exact Z.gZ
end
def kv(P:Program):TypeDesc→Option k4
 |.int k=>some (.int k)
 |.bool=>some .bool
 |.string=>some .str
 |.struct cr=>some (.bZ (cr.toList.map λf=>(f.offset,f.type,P.cellsOf f.type)))
 |.slice e=>some (.bD e)
 |.array n e=>some (.arr n e)
 |.pointer _=>some .ptr
 |.func _ _ _=>some .a8
 |.interface _=>some .nk
 |_=>none
def si:Value→V→Bool
 |.int k n,.int k' n'=>decide (k=k')&&decide (n=n')
 |.bool a,.bool b=>a == b
 |.string s,.str l=>decide (s.data.toList=l)
 |.slice none 0 0,.bD _ n _=>Nat.beq n 0
 |.pointer none,.en=>true
 |.nilIface,.hI=>true
 |.nilFunc,.aR=>true
 |_,_=>false
def sj:List Value→List V→Bool
 |[],[]=>true
 |v::vs,x::xs=>si v x&&sj vs xs
 |_,_=>false
def uP(P:Program)(inner:TypeId→List Field→Bool):Nat→List Field→Bool
 |_,[]=>true
 | i, f :: l => Nat.beq f.offset i && !decide (f.name = "_") && (match P.underlying f.type with
  |some (.int _) |some .bool |some .string=>uP P inner (i+1) l
  |some (.struct gs)=>inner f.type gs.toList&&uP P inner (i+P.cellsOf f.type) l
  |_=>false)
def qc(P:Program):Nat→List Field→Nat
 | 0,cr=>cr.length
 |d+1,cr=>(cr.map λf=>match P.underlying f.type with
  |some (.struct gs)=>qc P d gs.toList
  |_=>1).sum
def sk(P:Program):Nat→Nat→List Field→Bool
 | 0=>uP P λ_ _=>false
 |d+1=>uP P λt gs=>!P.stoodInHeld t&&Nat.beq (P.cellsOf t) (qc P d gs)&&sk P d 0 gs
def G_(P:Program)(t:TypeId):Bool:=
 match P.underlying t with
 |some (.struct cr)=>!P.stoodInHeld t && !P.eqGuardType P.depth t&&sk P 4 0 cr.toList
 |_=>false
def PE(P:Program)(t:TypeId)(aP:ew):Bool:=
 match P.info? t,P.underlying t with
 |some i,some d=>decide (kv P d=some aP.k)&&Nat.beq i.size aP.size&&Nat.beq i.bytes aP.bytes&&Nat.beq aP.zero.length aP.size &&
  aP.iT.all (λx=>liesAt P P.depth t (aP.size / P.cellsOf t) x.1 x.2 1) &&
  (match i.zero with|some z=>sj z.cells.toList aP.zero&&(match z with|.agg _=>aP.k.isAgg|.tuple _=>false|_=>!aP.k.isAgg)|none=>false)
 |_,_=>false
def fb(P:Program)(tt:dw):Bool:=tt.all λx=>PE P x.1 x.2
def Ha{M:Mem}{v:Value}{x:V}(h:si v x=true):cY M v x∧v.oneCell'=true:=by
 unfold si at h;split at h<;>simp at h
 ·obtain⟨rfl,rfl⟩:=h;exact⟨.int _ _,rfl⟩
 ·subst h;exact⟨.bool _,rfl⟩
 ·rename_i s l;subst h;exact⟨by exact .str s.data.toList,rfl⟩
 ·subst h;exact⟨.k5 _ _,rfl⟩
 ·exact⟨.en,rfl⟩
 ·exact⟨.hI,rfl⟩
 ·exact⟨.aR,rfl⟩
def uQ{M:Mem}:∀{vs:List Value} {xs:List V},sj vs xs=true→vs.length=xs.length∧(∀v,v∈vs→v.oneCell'=true)∧∀(i:Nat) v x,vs[i]? = some v→xs[i]? = some x→cY M v x∧si v x=true
 |[],[],_=>by simp
 |[],_::_,h=>by simp [sj]at h
 |_::_,[],h=>by simp [sj]at h
 |v::vs,x::xs,h=>by
  simp [sj]at h;obtain⟨Z,ae,ar⟩:=uQ (M:=M) h.2;refine⟨by simp [Z],?_,?_⟩
  ·intro u hu;rcases List.mem_cons.1 hu with rfl|hu
   ·exact(Ha (M:=M) h.1).2
   ·exact ae u hu
  ·intro i u y hu cl;cases i with
   |zero=>simp at hu cl;subst hu;subst cl;exact⟨(Ha h.1).1,h.1⟩
   |succ i=>simp at hu cl;exact ar i u y hu cl
structure Row(P:Program)(t:TypeId)(aP:ew) where
 info:TypeInfo
 desc:TypeDesc
 z:Value
 hi:P.info? t=some info
 hd:P.underlying t=some desc
 hk:kv P desc=some aP.k
 size:info.size=aP.size
 bytes:info.bytes=aP.bytes
 dE:info.zero=some z
 Hb:aP.zero.length=aP.size
 xJ:sj z.cells.toList aP.zero=true
 iT:(aP.iT.all λx=>liesAt P P.depth t (aP.size / P.cellsOf t) x.1 x.2 1)=true
 akq:match z with|.agg _=>aP.k.isAgg=true|.tuple _=>False|_=>aP.k.isAgg=false
theorem eu{P:Program}{tt:dw}(h:fb P tt=true){t:TypeId}{aP:ew}(bS:look tt t=some aP):Nonempty (Row P t aP):=by
 have hm:=qb bS;unfold fb at h;rw [List.all_eq_true]at h;have:=h _ hm
 unfold PE at this
 dsimp only at this
 split at this
 case h_2=>cases this
 rename_i i d hi hd;simp only [Bool.and_eq_true,decide_eq_true_eq,Nat.beq_eq]at this;obtain⟨⟨⟨⟨⟨Z,ae⟩,ar⟩,aK⟩,l7⟩,bc⟩:=this;split at bc
 case h_2=>cases bc
 rename_i z dE;simp only [Bool.and_eq_true]at bc
 exact⟨⟨i,d,z,hi,hd,Z,ae,ar,dE,aK,bc.1,l7,by
  have:=bc.2
  cases z<;>simp at this<;>simp [this]⟩⟩
def Row.cellsOf{P:Program}{t:TypeId}{aP:ew}(r:Row P t aP):P.cellsOf t=aP.size:=by
 simp [Program.cellsOf,r.hi,r.size]
section runs
variable {P:Program} {t:TypeId} {aP:ew} (w:World)
def Row.run_sizeOf(r:Row P t aP):(sizeOf t).run P w = .ok aP.size w:=by
 rw [Go.run_sizeOf w r.hi,r.cellsOf]
def Row.BI(r:Row P t aP):(zeroValue t).run P w = .ok r.z w:=by
 simp [zeroValue,typeInfo,r.hi,r.dE]
def Row.run_underlying(r:Row P t aP):(underlying t).run P w = .ok r.desc w:=Go.run_underlying r.hd w
def Row.uR(r:Row P t aP):(isAgg t).run P w = .ok aP.k.isAgg w:=by
 have hk:=r.hk;simp only [isAgg,Sem.run_bind,r.run_underlying,Result.andThen_ok];cases hd:r.desc<;>simp [hd,kv]at hk<;>simp [←hk,k4.isAgg]
end runs
def fC(tmps:Array Value)(p:Path):Prop:=∀x,x∈p→tmps.getD x.1 undef = .bool x.2
structure fx(P:Program)(K:Ctx)(N:Nat)(M:Mem)(β:Nat→Option Nat)(g:c_)(tmps:Array Value)(w:World):Prop where
 bo:bH P K M β {env:=g.env,H:=g.H,aW:=g.aW} tmps w
 size:tmps.size=N
 fresh:∀s id,look g.ids s=some id→look g.H id=none→∀b,β id≠some b
 cond:∀t q d,look g.bU t=some (q,d)→(fC tmps q→ct M β (tmps.getD t undef) d)∧(¬ fC tmps q→tmps.getD t undef=undef)
def Path.Zb{q p:Path}(h:q.sub p=true){tmps:Array Value}(hp:fC tmps p):fC tmps q:=by
 intro x hx;unfold Path.sub at h;rw [List.all_eq_true]at h;have:=h x hx
 unfold Path.has at this;rw [List.any_eq_true]at this;obtain⟨y,cl,oa⟩:=this;simp at oa
 have Z:=hp y cl;rw [←oa.1,←oa.2];exact Z
def Zc{M:Mem}{v:Value}{x:V}(h:GS v=some x):cY M v x:=by
 unfold GS at h;split at h<;>simp at h<;>subst h
 ·exact .int _ _
 ·exact .bool _
 ·rename_i s;exact .str s.data.toList
 ·exact .en
 ·exact .hI
 ·exact .aR
def d'{P:Program}{K:Ctx}{N:Nat}{M:Mem}{β:Nat→Option Nat}{g:c_}{tmps:Array Value}{w:World}(h:fx P K N M β g tmps w){p:Path}(hp:fC tmps p){tt:dw}{ty:TypeId}{x:Operand}{d:D}
 (hx:rd g.env g.bU p tt ty x=some d) {ds:List Deferred}:ct M β ((⟨tmps,ds⟩:Act).eval x) d:=by
 cases x with
 |tmp t=>
  simp only [rd]at hx;split at hx
  ·rename_i q dZ hc;rw [Bool.cond_eq_ite]at hx;split at hx<;>simp at hx
   subst hx;exact(h.cond t q dZ hc).1 (Path.Zb (by assumption) hp)
  ·simp only [Option.map_eq_some_iff]at hx;obtain⟨e,he,rfl⟩:=hx;exact h.bo.e_ (.slot t) e he
 |const v=>
  simp only [rd]at hx;split at hx
  ·rename_i heq;cases heq
  ·rename_i heq;cases heq;split at hx
   ·cases hx;exact .v _ _ (.k5 _ _)
   ·cases hx
  ·rename_i heq;cases heq;simp only [Option.map_eq_some_iff]at hx;obtain⟨y,cl,rfl⟩:=hx;exact .v _ _ (Zc cl)
  ·rename_i heq;cases heq
  ·rename_i heq;cases heq
 |global n=>simp [rd]at hx
 |func f=>
  simp [rd]at hx;subst hx;exact .fn f [] [] rfl (by simp)
def Zd{v:Value}(h:v.oneCell'=true):v.cells = #[v]:=by
 cases v<;>first|rfl|(simp [Value.oneCell']at h)
def ct.cells{M:Mem}{β:Nat→Option Nat}{v:Value}{d:D}(h:ct M β v d)(bS:p6 d=false):
 v.cells.toList.length=(cellsD d).length∧(∀u,u∈v.cells.toList→u.oneCell'=true)∧∀(i:Nat) u c,v.cells.toList[i]? = some u→(cellsD d)[i]? = some c→ct M β u c:=by
 have single:∀{v:Value} {d:D},v.cells = #[v]→cellsD d=[d]→v.oneCell'=true→ct M β v d→
  v.cells.toList.length=(cellsD d).length∧(∀u,u∈v.cells.toList→u.oneCell'=true)∧∀(i:Nat) u c,v.cells.toList[i]? = some u→(cellsD d)[i]? = some c→ct M β u c:=by
  intro v d Z ae ar aK;rw [Z,ae];refine⟨rfl,by simpa using ar,λi u c hu hc=>?_⟩
  cases i with
  |zero=>simp at hu hc;subst hu;subst hc;exact aK
  |succ i=>simp at hu
 cases h with
 |v u x hx=>
  cases hx with
  |agg vs cs hn Z ak=>
   refine⟨by simp [Value.cells,cellsD,V.cells,hn],by simpa [Value.cells]using Z,λi u c hu hc=>?_⟩
   simp [Value.cells]at hu;simp [cellsD,V.cells]at hc;obtain⟨a,ha,rfl⟩:=hc;exact .v _ _ (ak i u a hu ha)
  |any v Z=>exact single (Zd Z) rfl Z (.v _ _ (.any _ Z))
  |_=>exact single rfl rfl rfl (.v _ _ (by constructor<;>assumption))
 |ptr r off b hb=>exact single rfl rfl rfl (.ptr r off b hb)
 |kS r off u=>exact single rfl rfl rfl (.kS r off u)
 |co r off b u hb=>exact single rfl rfl rfl (.co r off b u hb)
 |eI b off x val cM Z ak=>exact single rfl rfl rfl (.eI b off x val cM Z ak)
 |full b k n get h=>exact single rfl rfl rfl (.full b k n get h)
 |fn f vs cs hn ak=>exact single rfl rfl rfl (.fn f vs cs hn ak)
 |agg vs cs hn Z ak=>exact⟨hn,Z,ak⟩
 |cx vs cs hn ak=>simp [p6]at bS
def Ze{cs:List D}:∀{xs:List V},xx cs=some xs→cs=xs.map .v:=by
 induction cs with
 |nil=>intro xs h;simp [xx]at h;subst h;rfl
 |cons d l a7=>
  intro xs h;cases d<;>simp [xx]at h
  obtain⟨ys,cl,rfl⟩:=h;simp [a7 cl]
def BJ{M:Mem}{β:Nat→Option Nat}{vs:List Value}{cs:List D}(hn:vs.length=cs.length)(Z:∀v,v∈vs→v.oneCell'=true)
 (h:∀(i:Nat) v c,vs[i]? = some v→cs[i]? = some c→ct M β v c):ct M β (.agg ⟨vs⟩) (o8 cs):=by
 unfold o8;split
 ·rename_i xs hx;have:=Ze hx
  subst this;refine .v _ _ (.agg vs xs (by simpa using hn) Z λi v c ay hc=>?_)
  have:=h i v (.v c) ay (by simp [hc])
  cases this;assumption
 ·exact .agg vs cs hn Z h
section
variable {P:Program} {K:Ctx} {N:Nat} {M:Mem} {β:Nat→Option Nat} {st:aI} {g:c_} {tmps:Array Value} {w:World} {v:Value}
def k9{k:IntKind}{n:Int}(h:ct M β v (.v (.int k n))):v = .int k n:=by
 cases h with|v u x h=>cases h;rfl
def mM{x:V}(h:ct M β v (.v x)):cY M v x:=by
 cases h with|v u x h=>exact h
def sl{b:Bool}(h:ct M β v (.v (.bool b))):v = .bool b:=by
 cases h with|v u x h=>cases h;rfl
def lH{l:al5}(h:ct M β v (.v (.str l))):v = .string ⟨⟨l⟩⟩:=by
 cases h with|v u x h=>cases h;rfl
def qd{r off:Nat}(h:ct M β v (.ptr r off)):∃b,β r=some b∧v = .pointer (some ⟨b,off,none⟩):=by
 cases h with|ptr r off b h=>exact⟨b,h,rfl⟩
def Hc{t:TypeId}{x:V}(h:ct M β v (.v (.iface t x))):∃u,v = .iface t u∧cY M u x:=by
 cases h with|v u x h=>cases h with|iface t u x h=>exact⟨u,rfl,h⟩
def Zf{cs:List V}(h:ct M β v (.v (.agg cs))):∃vs:List Value,v = .agg ⟨vs⟩∧vs.length=cs.length∧(∀u,u∈vs→u.oneCell'=true)∧∀(i:Nat) u c,vs[i]? = some u→cs[i]? = some c→cY M u c:=by
 cases h with|v u x h=>cases h with|agg vs cs hn Z h=>exact⟨vs,rfl,hn,Z,h⟩
def Zg{cs:List D}(h:ct M β v (.cx cs)):∃vs:List Value,v = .tuple ⟨vs⟩∧vs.length=cs.length∧∀(i:Nat) u c,vs[i]? = some u→cs[i]? = some c→ct M β u c:=by
 cases h with|cx vs cs hn h=>exact⟨vs,rfl,hn,h⟩
def PF{f:FuncId}{cs:List D}(h:ct M β v (.fn f cs)):∃vs:List Value,v = .func (.func f) #[] ⟨vs⟩∧vs.length=cs.length∧∀(i:Nat) u c,vs[i]? = some u→cs[i]? = some c→ct M β u c:=by
 cases h with|fn f vs cs hn h=>exact⟨vs,rfl,hn,h⟩
def q0{k n:Nat}{get:Nat→V}(h:ct M β v (.v (.bD k n get))):((v = .slice none 0 0∨∃a,v = .slice (some a) 0 0)∧n=0)∨
 ∃(b off cap:Nat) (val:Nat→Nat→Value),v = .slice (some ⟨b,off,none⟩) n cap∧n≤cap∧(∀i,i<n→(get i).cells.length=k)∧(∀i j,i<n→j<k→M b (off+i*k+j)=some (val i j))∧
  (∀i j,i<n→j<k→(val i j).oneCell'=true)∧(∀(i j:Nat) c,i<n→(get i).cells[j]? = some c→cY M (val i j) c):=by
 cases h with
 |v u x h=>
  cases h with
  |k5=>exact .inl ⟨.inl rfl,rfl⟩
  |n2 a=>exact .inl ⟨.inr ⟨a,rfl⟩,rfl⟩
  |bD b off k n cap get val hc hk cM Z h=>exact .inr ⟨b,off,cap,val,rfl,hc,hk,cM,Z,h⟩
def BK{x:V}(h:ct M β v (.eI x)):∃(b off:Nat) (val:Nat→Value),v = .pointer (some ⟨b,off,none⟩)∧(∀j,j<x.cells.length→M b (off+j)=some (val j))∧(∀j,j<x.cells.length→(val j).oneCell'=true)∧
 (∀(j:Nat) c,x.cells[j]? = some c→cY M (val j) c):=by
 cases h with|eI b off x val cM Z h=>exact⟨b,off,val,rfl,cM,Z,h⟩
def sm{k n:Nat}{get:Nat→V}(h:ct M β v (.v (.bD k n get))):∃a cap,v = .slice a n cap∧n≤cap:=by
 rcases q0 h with⟨rfl|⟨a,rfl⟩,rfl⟩|⟨b,off,cap,val,rfl,hc,_⟩
 ·exact⟨_,_,rfl,Nat.le_refl _⟩
 ·exact⟨_,_,rfl,Nat.le_refl _⟩
 ·exact⟨_,_,rfl,hc⟩
def addr_add(b off n:Nat):(⟨b,off,none⟩:Addr).add n=⟨b,off+n,none⟩:=by
 unfold Addr.add;split<;>simp_all
def uS{x:V}(hx:x.isAgg=false):x.cells=[x]:=by
 cases x<;>first|rfl|simp [V.isAgg]at hx
def PG{x:V}{val:Nat→Value}(Z:∀j,j<x.cells.length→(val j).oneCell'=true)(h:∀(j:Nat) c,x.cells[j]? = some c→cY M (val j) c):
 cY M (bif x.isAgg then .agg ⟨(List.range x.cells.length).map val⟩else val 0) x:=by
 cases hx:x.isAgg with
 |false=>
  have:=uS hx
  simpa using h 0 x (by simp [this])
 |true=>
  cases x<;>simp [V.isAgg]at hx
  rename_i cs;refine .agg _ cs (by simp [V.cells]) ?_ ?_
  ·intro u hu;obtain⟨j,hj,rfl⟩:=List.mem_map.1 hu;exact Z j (by simpa using hj)
  ·intro i u c hu hc;simp only [List.getElem?_map,Option.map_eq_some_iff]at hu;obtain⟨j,hj,rfl⟩:=hu
   have:j=i:=by
    rw [List.getElem?_eq_some_iff]at hj;obtain⟨_,h⟩:=hj;simpa using h.symm
   subst this;exact h j c hc
def Zh{t:TypeId}{aP:ew}(r:Row P t aP)(BE:∀b o v,M b o=some v→w.cell? ⟨b,o,none⟩=some v){x:V}(ay:ct M β v (.eI x))(hx:x.isAgg=aP.k.isAgg)(hs:x.cells.length=aP.size):
 ∃u,(Instr.loadAt t v).run P w = .ok u w∧cY M u x:=by
 obtain⟨b,off,val,rfl,cM,Z,h⟩:=BK ay;refine⟨_,?_,PG Z h⟩
 have af:∀j,j<aP.size→w.cell? ((⟨b,off,none⟩:Addr).add j)=some (val j):=λj hj=>by rw [addr_add];exact BE _ _ _ (cM j (by omega))
 cases ha:x.isAgg with
 |true=>
  rw [ha]at hx;simp [Instr.loadAt,Instr.sureAddr,loadVar,r.uR,←hx,r.run_sizeOf,run_loadCells w ⟨b,off,none⟩ aP.size val af,hs]
 |false=>
  rw [ha]at hx;have h0:=cM 0 (by rw [uS ha];simp)
  have:=BE _ _ _ h0
  simp [Instr.loadAt,Instr.sureAddr,loadVar,r.uR,←hx,run_load];simp at this
  rw [this]
def PH{t:TypeId}{aP:ew}(r:Row P t aP){b off:Nat}{vs:List Value}{T:TypeId}{f:Nat×Nat}(bx:w.heap[b]? = some (.cells ⟨vs⟩ T f))(hle:off+aP.size≤vs.length)(ha:aP.k.isAgg=true):
 (Instr.loadAt t (.pointer (some ⟨b,off,none⟩))).run P w = .ok (.agg ⟨(vs.drop off).take aP.size⟩) w:=by
 have hlen:((vs.drop off).take aP.size).length=aP.size:=by simp;omega
 have:=run_loadCells_list (P:=P) w ⟨b,off,none⟩ ((vs.drop off).take aP.size) (λj u hj=>by
  rw [addr_add,cell_of_heap bx];rw [List.getElem?_take]at hj;split at hj
  ·simpa using hj
  ·cases hj)
 rw [hlen]at this;simp [Instr.loadAt,Instr.sureAddr,loadVar,r.uR,ha,r.run_sizeOf,this]
def Hd{t:TypeId}{aP:ew}(r:Row P t aP){b off:Nat}{u:Value}(hc:w.cell? ⟨b,off,none⟩=some u)(ha:aP.k.isAgg=false):
 (Instr.loadAt t (.pointer (some ⟨b,off,none⟩))).run P w = .ok u w:=by
 simp [Instr.loadAt,Instr.sureAddr,loadVar,r.uR,ha,run_load,hc]
def He{t:TypeId}{aP:ew}(r:Row P t aP){cr:List (Nat×TypeId×Nat)}(hk:aP.k = .bZ cr):∃gs:Array Field,r.desc = .struct gs∧cr=gs.toList.map λf=>(f.offset,f.type,P.cellsOf f.type):=by
 have:=r.hk
 rw [hk]at this;cases hd:r.desc<;>simp [hd,kv]at this
 exact⟨_,rfl,this.symm⟩
def ob{t:TypeId}{aP:ew}(r:Row P t aP){e:TypeId}(hk:aP.k = .bD e):r.desc = .slice e:=by
 have:=r.hk
 rw [hk]at this;cases hd:r.desc<;>simp [hd,kv]at this
 rw [this]
def pf{t:TypeId}{aP:ew}(r:Row P t aP)(hk:aP.k = .str):r.desc = .string:=by
 have:=r.hk
 rw [hk]at this;cases hd:r.desc<;>simp [hd,kv]at this;rfl
def xK{t:TypeId}{aP:ew}(r:Row P t aP){k:IntKind}(hk:aP.k = .int k):r.desc = .int k:=by
 have:=r.hk
 rw [hk]at this;cases hd:r.desc<;>simp [hd,kv]at this
 rw [this]
def Zi{t:TypeId}{aP:ew}(r:Row P t aP){n:Nat}{e:TypeId}(hk:aP.k = .arr n e):r.desc = .array n e:=by
 have:=r.hk
 rw [hk]at this;cases hd:r.desc<;>simp [hd,kv]at this
 rw [this.1,this.2]
def PI{s:TypeId}{aP:ew}(r:Row P s aP){cr:List (Nat×TypeId×Nat)}(hk:aP.k = .bZ cr){f dD gY fv:Nat}(ba:cr[f]? = some (dD,gY,fv))(ej:1≤fv)(b off:Nat):
 (Instr.fieldAt s (.pointer (some ⟨b,off,none⟩)) f).run P w = .ok (.pointer (some ⟨b,off+dD,none⟩)) w:=by
 obtain⟨gs,hd,rfl⟩:=He r hk;simp only [List.getElem?_map,Option.map_eq_some_iff]at ba;obtain⟨fd,lI,he⟩:=ba;simp only [Prod.mk.injEq]at he;obtain⟨rfl,rfl,rfl⟩:=he;have BL:gs[f]? = some fd:=by simpa using lI
 have hs:(sizeOf fd.type).run P w = .ok (P.cellsOf fd.type) w:=by
  cases hi:P.info? fd.type with
  |none=>simp [Program.cellsOf,hi]at ej
  |some i=>exact Go.run_sizeOf w hi
 have ea:P.cellsOf fd.type≠0:=by omega
 simp [Instr.fieldAt,r.run_underlying,hd,BL,Instr.sureAddr,fieldPlace,hs,ea,addr_add]
def PJ{s:TypeId}{aP:ew}(r:Row P s aP){cr:List (Nat×TypeId×Nat)}(hk:aP.k = .bZ cr){f dD gY fv:Nat}(ba:cr[f]? = some (dD,gY,fv)){uT:ew}(ao:Row P gY uT)(vs:List Value)(hle:dD+fv≤vs.length):
 (uT.k.isAgg=true→(Instr.field s (.agg ⟨vs⟩) f).run P w = .ok (.agg ⟨(vs.drop dD).take fv⟩) w)∧
 (uT.k.isAgg=false→∀u,vs[dD]? = some u→(Instr.field s (.agg ⟨vs⟩) f).run P w = .ok u w):=by
 obtain⟨gs,hd,rfl⟩:=He r hk;simp only [List.getElem?_map,Option.map_eq_some_iff]at ba;obtain⟨fd,lI,he⟩:=ba;simp only [Prod.mk.injEq]at he;obtain⟨rfl,rfl,rfl⟩:=he;have BL:gs[f]? = some fd:=by simpa using lI
 have ej:=ao.cellsOf;refine⟨λha=>?_,λha u hu=>?_⟩
 ·simp [Instr.field,r.run_underlying,hd,BL,asAgg,part,ao.uR,ha,ao.run_sizeOf,ej,List.extract_eq_take_drop]
 ·simp [Instr.field,r.run_underlying,hd,BL,asAgg,part,ao.uR,ha,hu]
def Zj{t:TypeId}{aP:ew}(r:Row P t aP){e:TypeId}(hk:aP.k = .bD e){b8:ew}(dG:Row P e b8){k:IntKind}{j:Int}{b off n cap:Nat}(h0:0≤j)(Z:j<n):
 (Instr.indexAt t (.slice (some ⟨b,off,none⟩) n cap) (.int k j)).run P w = .ok (.pointer (some ⟨b,off+j.toNat*b8.size,none⟩)) w:=by
 simp [Instr.indexAt,asIntOf,r.run_underlying,ob r hk,h0,Z,dG.run_sizeOf,addr_add]
def Zk{t:TypeId}{aP:ew}(r:Row P t aP)(hk:aP.k = .str){k:IntKind}{j:Int}{l:al5}(h0:0≤j)(Z:j<l.length):
 (Instr.index t (.string ⟨⟨l⟩⟩) (.int k j)).run P w = .ok (.int .u8 (l.getD j.toNat 0).toNat) w:=by
 have c8:j.toNat<l.length:=by omega
 have Zl:j.toNat<(ByteArray.mk ⟨l⟩).size:=c8;have hs:(ByteArray.mk ⟨l⟩)[j.toNat]? = some l[j.toNat]:=by rw [getElem?_pos (ByteArray.mk ⟨l⟩) j.toNat Zl];rfl
 simp [Instr.index,asIntOf,r.run_underlying,pf r hk,h0,hs,List.getElem?_eq_getElem c8]
def BM(l:al5):(⟨⟨l⟩⟩:ByteArray).toList=l:=by
 rw [ByteArray.toList_eq]
end
section
variable {P:Program} {K:Ctx} {N:Nat} {M:Mem} {β:Nat→Option Nat} {g:c_} {tmps:Array Value} {w:World} {o:Oper} {f:ko} {p:Path} {tt:dw} {b4:f6} {ops:List Oper}
def after(g:c_)(f:ko):aI:={env:=gD f.gJ g.env,H:=f.hs++g.H,aW:=g.aW+f.eY}
def h6(P:Program)(K:Ctx)(M:Mem)(β:Nat→Option Nat)(g:c_)(f:ko)(tmps:Array Value)(v:Value)(w':World):Prop:=
 ∃M' β',M.le M'∧(∀r b,β r=some b→β' r=some b)∧(∀r b,β' r=some b→β r=some b∨(look f.hs r).isSome=true)∧bH P K M' β' (after g f) tmps w'∧
  ∀e,f.e=some e→ct M' β' v e.d∧∀T l0,e.own=some T→l6 P K M' β' (after g f) tmps w' l0 v T
def Yields(P:Program)(K:Ctx)(M:Mem)(β:Nat→Option Nat)(g:c_)(f:ko)(o:Oper)(tmps:Array Value)(w:World):Prop:=
 (∃v w',(execOp (Act.eval ⟨tmps,[]⟩) o).run P w = .ok (.value v) w'∧h6 P K M β g f tmps v w')∨
 (f.e=none∧∃w',(execOp (Act.eval ⟨tmps,[]⟩) o).run P w = .ok .skip w'∧h6 P K M β g f tmps undef w')∨
 (∃fn vs,(execOp (Act.eval ⟨tmps,[]⟩) o).run P w = .ok (.enter fn vs) w∧Calls P fn vs w λe w'=>∃v,e = .returned v∧h6 P K M β g f tmps v w')
def eO(h:fx P K N M β g tmps w){v:Value}{d:D}(ak:(execOp (Act.eval ⟨tmps,[]⟩) o).run P w = .ok (.value v) w)(hd:ct M β v d){rs:List e'}{aZ:List Prop}:
 Yields P K M β g {e:=some {d},rs,aZ} o tmps w:=
 .inl ⟨v,w,ak,M,β,Mem.le_refl _,λ_ _ h=>h,λ_ _ h=>.inl h,h.bo,λe he=>by cases he;exact⟨hd,by simp⟩⟩
def iH(x:Sem Value){v:Value}{w':World}(h:x.run P w = .ok v w'):(do pure (.value (←x)):Sem Next).run P w = .ok (.value v) w':=by
 simp [h]
def BN(h:fx P K N M β g tmps w)(hp:fC tmps p){x:Operand}(ax:o.op = .move x∨o.op = .assign x){d:D}(hx:rd g.env g.bU p tt o.type x=some d):
 Yields P K M β g {e:=some {d},rs:=g.rs} o tmps w:=
 eO h (v:=(⟨tmps,[]⟩:Act).eval x) (by rcases ax with ax|ax<;>simp [execOp,ax]) (d' h hp hx)
def PK(h:fx P K N M β g tmps w)(hp:fC tmps p){t:Nat}(ax:o.op = .move (.tmp t)∨o.op = .assign (.tmp t)){d:D}(hx:rd g.env g.bU p tt o.type (.tmp t)=some d)
 {s:TypeId} (hs:n5 g (.tmp t)=some s) {rs:List e'}:Yields P K M β g {e:=some {d,own:=some s},gJ:=[t],rs} o tmps w:=by
 refine .inl ⟨(⟨tmps,[]⟩:Act).eval (.tmp t),w,by rcases ax with ax|ax<;>simp [execOp,ax],M,β,Mem.le_refl _,λ_ _ h=>h,λ_ _ h=>.inl h,?_,λe he=>?_⟩
 ·have:=h.bo.gJ [t];exact this
 ·cases he;refine⟨d' h hp hx,λT l0 aS=>?_⟩
  cases aS;simp only [n5,Option.bind_eq_some_iff]at hs;obtain⟨e,he,hs⟩:=hs;exact h.bo.hand he hs l0
def Zm(h:fx P K N M β g tmps w)(hp:fC tmps p)(ax:o.op = .assign (.const (.slice none 0 0))){d:D}(hx:rd g.env g.bU p tt o.type (.const (.slice none 0 0))=some d)(s:TypeId):
 Yields P K M β g {e:=some {d,own:=some s},rs:=g.rs} o tmps w:=by
 refine .inl ⟨.slice none 0 0,w,by simp [execOp,ax,Act.eval],M,β,Mem.le_refl _,λ_ _ h=>h,λ_ _ h=>.inl h,h.bo,λe he=>?_⟩
 cases he;exact⟨d' (ds:=[]) h hp hx,λT l0 _=>G8 l0 T⟩
def Zn(h:fx P K N M β g tmps w)(hp:fC tmps p){c:Nat}{a b:Operand}(ax:o.op = .pick (.tmp c) a b){qV xB sc:Bool}(hc:rd g.env g.bU p tt o.type (.tmp c)=some (.v (.bool qV)))
 (ha:rd g.env g.bU ((c,true)::p) tt o.type a=some (.v (.bool xB))) (hb:rd g.env g.bU ((c,false)::p) tt o.type b=some (.v (.bool sc))):
 Yields P K M β g {e:=some {d:=.v (.bool (bif qV then xB else sc))},rs:=g.rs} o tmps w:=by
 have ji:(⟨tmps,[]⟩:Act).eval (.tmp c) = .bool qV:=sl (d' h hp hc);have PL:tmps.getD c undef = .bool qV:=ji;cases qV with
 |true=>
  refine eO h (v:=(⟨tmps,[]⟩:Act).eval a) (by simp [execOp,ax,ji,asBool]) ?_
  exact d' h (p:=(c,true)::p) (λx hx=>by rcases List.mem_cons.1 hx with rfl|hx;exact PL;exact hp x hx) ha
 |false=>
  refine eO h (v:=(⟨tmps,[]⟩:Act).eval b) (by simp [execOp,ax,ji,asBool]) ?_
  exact d' h (p:=(c,false)::p) (λx hx=>by rcases List.mem_cons.1 hx with rfl|hx;exact PL;exact hp x hx) hb
def bH.Hf{st:aI}(h:bH P K M β st tmps w)(o:Nat):M w.heap.size o=none:=by
 cases hm:M w.heap.size o with
 |none=>rfl
 |some v=>have:=lt_of_cell (h.mem _ _ _ hm);omega
def PM(h:fx P K N M β g tmps w){vs:List Value}{T:TypeId}{cs:List a1}(hlen:vs.length=cs.length)(il:∀v,v∈vs→v.oneCell'=true)(hlies:kt P T vs.length cs)
 (ay:∀(i:Nat) v e,vs[i]? = some v→cs[i]? = some e→ct M β v e.d∧∀T,e.own=some T→v = .slice none 0 0)
 (ak:(execOp (Act.eval ⟨tmps,[]⟩) o).run P w = .ok (.value (.pointer (some ⟨w.heap.size,0,none⟩))) {w with heap:=w.heap.push (.cells ⟨vs⟩ T (0,0))}) {id eY:Nat} (hid:mH g o=some (id,eY)):
 Yields P K M β g {e:=some {d:=.ptr id 0},hs:=[(id,cs)],eY,rs:=g.rs} o tmps w:=by
 have ba:(∀b,β id≠some b)∧id<g.aW+eY:=by
  unfold mH at hid;split at hid
  ·rename_i akr af;rw [Bool.cond_eq_ite]at hid;split at hid<;>cases hid
   rename_i hc;simp only [Bool.and_eq_true,Option.isNone_iff_eq_none,Nat.blt_eq]at hc;rw [Option.bind_eq_some_iff]at af;obtain⟨s,_,af⟩:=af;exact⟨h.fresh s _ af hc.1,by omega⟩
  ·cases hid;exact⟨λb hb=>by have:=h.bo.lt _ b hb;simp at this,by omega⟩
 refine .inl ⟨_,_,ak,M,_,Mem.le_refl _,?_,?_,h.bo.Y5 (n':=g.aW+eY) ba.1 ba.2 (by simp) (T:=T) hlen il hlies ay,λe he=>?_⟩
 ·intro r b hb;have ea:r≠id:=λe=>ba.1 b (e ▸ hb)
  simp [ea,hb]
 ·intro r b hb;by_cases ea:r=id
  ·exact .inr (by simp [dP,ea])
  ·simp [ea]at hb;exact .inl hb
 ·cases he;exact⟨.ptr _ _ _ (by simp),by simp⟩
def PN{α:Type}:∀(l:List α) (n i:Nat),(cK n l)[i]? = (l[i]?).map (n+i,·)
 |[],n,i=>by simp [cK]
 |x::l,n,0=>by simp [cK]
 |x::l,n,i+1=>by simp [cK,PN l (n+1) i];congr 1;funext;congr 1;omega
def PO{α:Type}:∀(l:List α) (n:Nat),(cK n l).length=l.length
 |[],n=>rfl
 |x::l,n=>by simp [cK,PO l (n+1)]
def PP{x:V}{t:Option TypeId}{T:TypeId}(h:Bz x t=some T):∃k n get,x = .bD k n get:=by
 cases x<;>simp [Bz]at h;exact⟨_,_,_,rfl⟩
def PQ(iT:List (Nat×TypeId))(id i:Nat)(x:V):xz iT id i x = .v x∨(x = .en∧∃u,xz iT id i x = .co id i u∧(i,u)∈iT):=by
 unfold xz;split
 ·split
  ·rename_i y cl;right
   have Z:=List.find?_some cl;have ae:=List.mem_of_find?_eq_some cl;obtain⟨j,u⟩:=y;obtain rfl:j=i:=by simpa using Z
   exact⟨rfl,u,rfl,ae⟩
  ·exact .inl rfl
 ·exact .inl rfl
def Zo{t:TypeId}{id:Nat}{z:List a1}(h:BA tt t id=some z):∃aP,look tt t=some aP∧z.length=aP.zero.length∧
 ∀(i:Nat) e,z[i]? = some e→∃x,aP.zero[i]? = some x∧(e.d = .v x∨(x = .en∧∃u,e.d = .co id i u∧(i,u)∈aP.iT))∧∀T,e.own=some T→∃k n get,x = .bD k n get:=by
 unfold BA at h;split at h<;>simp at h
 ·rename_i e fv jy zero lJ af;subst h;refine⟨_,af,by simp,λi bf he=>?_⟩
  simp only [List.getElem?_map,Option.map_eq_some_iff]at he;obtain⟨x,hx,rfl⟩:=he;exact⟨x,hx,.inl rfl,λT aS=>PP aS⟩
 ·rename_i cr fv jy zero lJ af;subst h;refine⟨_,af,by simp [PO],λi bf he=>?_⟩
  simp only [List.getElem?_map,Option.map_eq_some_iff,PN]at he;obtain⟨_,⟨x,hx,rfl⟩,rfl⟩:=he;simp only [Nat.zero_add];exact⟨x,hx,PQ lJ id i x,λT aS=>PP aS⟩
 ·rename_i k fv jy zero lJ _ _ af;subst h;refine⟨_,af,by simp,λi bf he=>?_⟩
  simp only [List.getElem?_map,Option.map_eq_some_iff]at he;obtain⟨x,hx,rfl⟩:=he;exact⟨x,hx,.inl rfl,by simp⟩
def Zp(h:fx P K N M β g tmps w)(cu:fb P tt=true){t:TypeId}(ax:o.op = .alloc t){z:List a1}{id eY:Nat}(dE:BA tt t id=some z)(hid:mH g o=some (id,eY)):
 Yields P K M β g {e:=some {d:=.ptr id 0},hs:=[(id,z)],eY,rs:=g.rs} o tmps w:=by
 obtain⟨aP,af,hlen,PR⟩:=Zo dE;obtain⟨r⟩:=eu cu af;obtain⟨Z,ae,ar⟩:=uQ (M:=M) r.xJ;refine PM h (vs:=r.z.cells.toList) (T:=t) (by omega) ae (λe he q off u hd=>?_) (λi v e ay he=>?_) ?_ hid
 ·obtain⟨i,hi,rfl⟩:=List.getElem_of_mem he;obtain⟨x,hx,jz,_⟩:=PR i z[i] (List.getElem?_eq_getElem hi);rcases jz with jz|⟨_,aks,jz,hm⟩
  ·rw [jz]at hd;cases hd
  ·rw [jz]at hd;cases hd;have:=List.all_eq_true.1 r.iT _ hm
   have ej:=r.Hb;rw [show r.z.cells.toList.length=aP.size by omega]
   exact this
 ·obtain⟨x,hx,hd,fP⟩:=PR i e he;obtain⟨aK,bc⟩:=ar i v x ay hx
  refine⟨by
   rcases hd with hd|⟨rfl,u,hd,_⟩
   ·rw [hd];exact .v _ _ aK
   ·rw [hd];cases aK;exact .kS _ _ _,λT aS=>?_⟩
  obtain⟨k,n,get,rfl⟩:=fP T aS;unfold si at bc;split at bc<;>simp_all
 ·simp [execOp,ax,Instr.alloc,r.BI,newVar,newRow]
def Hg(tt:dw)(aP:ew)(id:Nat):∀(l:List D) (i j:Nat),(pb tt aP id i l)[j]? = (l[j]?).map (uI tt aP id (i+j))
 |[],i,j=>by simp [pb]
 |d::l,i,0=>by simp [pb]
 |d::l,i,j+1=>by
  simp only [pb,List.getElem?_cons_succ];rw [Hg tt aP id l (i+1) j,show i+1+j=i+(j+1)by omega]
def Hh(tt:dw)(aP:ew)(id:Nat):∀(l:List D) (i:Nat),(pb tt aP id i l).length=l.length
 |[],i=>rfl
 |d::l,i=>by simp only [pb,List.length_cons,Hh tt aP id l (i+1)]
def PS{M:Mem}{β:Nat→Option Nat}(tt:dw)(aP:ew)(id i:Nat)(d:D)(q1:∀r o u,d ≠ .co r o u){v:Value}(h:ct M β v d):
 ct M β v (uI tt aP id i d).d∧(∀T,(uI tt aP id i d).own=some T→v = .slice none 0 0)∧∀r o u,(uI tt aP id i d).d = .co r o u→(o,u)∈aP.iT:=by
 unfold uI;split
 ·rcases PQ aP.iT id i .en with Z|⟨_,u,Z,ae⟩
  ·simp only [Z];exact⟨h,(λT aS=>by cases aS),(λr o u e=>by cases e)⟩
  ·simp only [Z]
   cases h with|v u x hx=>cases hx with
    |en=>exact⟨.kS _ _ _,(λT aS=>by cases aS),(λr o u e=>by cases e;exact ae)⟩
 ·split
  ·cases h with|v u x hx=>cases hx with
    |nj=>exact⟨.v _ _ (.k5 _ _),λ_ _=>rfl,λr o u e=>by cases e⟩
  ·exact⟨h,(λT aS=>by cases aS),(λr o u e=>by cases e)⟩
 ·exact⟨h,(λT aS=>by cases aS),λr o u e=>absurd e (q1 r o u)⟩
def Zq(h:fx P K N M β g tmps w)(hp:fC tmps p){t:TypeId}{x:Operand}(ax:o.op = .box t x){d:D}(hx:rd g.env g.bU p tt o.type x=some d)(bS:p6 d=false)(q1:qU (cellsD d)=true)(cu:fb P tt=true){aP:ew}(af:look tt t=some aP)(ej:(cellsD d).length=aP.size){id eY:Nat}(hid:mH g o=some (id,eY)):
 Yields P K M β g {e:=some {d:=.ptr id 0},hs:=[(id,pb tt aP id 0 (cellsD d))],eY,rs:=g.rs} o tmps w:=by
 obtain⟨r⟩:=eu cu af;obtain⟨Z,ae,ar⟩:=(d' (ds:=[]) h hp hx).cells bS;refine PM h (vs:=((⟨tmps,[]⟩:Act).eval x).cells.toList) (T:=t) (by rw [Hh];simpa using Z) ae (λe he q off u hd=>?_) (λi v e ay he=>?_) ?_ hid
 ·obtain⟨i,hi,rfl⟩:=List.getElem_of_mem he;have hg:(pb tt aP id 0 (cellsD d))[i]? = some _:=List.getElem?_eq_getElem hi;rw [Hg,Option.map_eq_some_iff]at hg;obtain⟨c,hc,Hi⟩:=hg;rw [←Hi]at hd;have uU:i<((⟨tmps,[]⟩:Act).eval x).cells.toList.length:=by rw [Hh]at hi;omega
  have:=(PS tt aP id (0+i) c (BC q1 c (List.mem_of_getElem? hc)) (ar i _ c (List.getElem?_eq_getElem uU) hc)).2.2 q off u hd
  have hb:=List.all_eq_true.1 r.iT _ this;rw [Z,ej];exact hb
 ·rw [Hg,Option.map_eq_some_iff]at he;obtain⟨c,hc,rfl⟩:=he;obtain⟨g1,g2,_⟩:=PS tt aP id (0+i) c (BC q1 c (List.mem_of_getElem? hc)) (ar i v c ay hc);exact⟨g1,g2⟩
 ·simp [execOp,ax,Instr.box,newVar,newRow]
end
def qe{α:Type}:∀(cs:List α) (off:Nat) (xs:List α),off+xs.length≤cs.length→(setAt cs off xs).length=cs.length∧∀(i:Nat),(setAt cs off xs)[i]? = if off≤i∧i<off+xs.length then xs[i-off]? else cs[i]?
 |[],0,[],_=>by simp [setAt]
 |[],0,x::xs,h=>by simp at h
 |[],n+1,xs,h=>by simp at h
 |c::cs,0,[],_=>by
  refine⟨by simp [setAt],λi=>?_⟩
  simp only [setAt,List.length_nil];rw [if_neg (by omega)]
 |c::cs,0,x::xs,h=>by
  obtain⟨Z,ae⟩:=qe cs 0 xs (by simp at h ⊢;omega)
  refine⟨by simp [setAt,Z],λi=>?_⟩
  cases i with
  |zero=>simp [setAt]
  |succ i=>
   simp only [setAt,List.getElem?_cons_succ,ae i,Nat.zero_add,List.length_cons];by_cases hi:i<xs.length<;>simp [hi]
 |c::cs,n+1,xs,h=>by
  obtain⟨Z,ae⟩:=qe cs n xs (by simp at h ⊢;omega)
  refine⟨by simp [setAt,Z],λi=>?_⟩
  cases i with
  |zero=>simp [setAt]
  |succ i=>
   simp only [setAt,List.getElem?_cons_succ,ae i];by_cases hi:n≤i∧i<n+xs.length
   ·rw [if_pos hi,if_pos (by omega)];congr 1;omega
   ·rw [if_neg hi,if_neg (by omega)]
def Hj(off:Nat):∀(l:List Value) (k:Nat) (cs:Array Value),off+k+l.length≤cs.size→
 ((l.zipIdx k).foldl (λcs (x:Value×Nat)=>cs.setIfInBounds (off+x.2) x.1) cs).size=cs.size∧
 ∀(i:Nat),((l.zipIdx k).foldl (λcs (x:Value×Nat)=>cs.setIfInBounds (off+x.2) x.1) cs)[i]? = if off+k≤i∧i<off+k+l.length then l[i-(off+k)]? else cs[i]?
 |[],k,cs,h=>by
  refine⟨rfl,λi=>?_⟩
  simp only [List.zipIdx_nil,List.foldl_nil,List.length_nil];rw [if_neg (by omega)]
 |x::l,k,cs,h=>by
  obtain⟨Z,ae⟩:=Hj off l (k+1) (cs.setIfInBounds (off+k) x) (by simp at h ⊢;omega)
  simp only [List.zipIdx_cons,List.foldl_cons];refine⟨by simpa using Z,λi=>?_⟩
  rw [ae i];simp only [List.length_cons]at h ⊢;by_cases ar:off+(k+1)≤i∧i<off+(k+1)+l.length
  ·rw [if_pos ar,if_pos (by omega)]
   obtain⟨j,rfl⟩:∃j,i=off+k+1+j:=⟨i-(off+k+1),by omega⟩
   rw [show off+k+1+j-(off+(k+1))=j by omega,show off+k+1+j-(off+k)=j+1 by omega]
   simp
  ·rw [if_neg ar];by_cases aK:i=off+k
   ·subst aK;rw [if_pos (by omega)]
    have:off+k<cs.size:=by omega
    simp [this]
   ·rw [if_neg (by omega)]
    rw [Array.getElem?_setIfInBounds_ne (Ne.symm aK)]
section
variable {P:Program} {K:Ctx} {N:Nat} {M:Mem} {β:Nat→Option Nat} {g:c_} {tmps:Array Value} {w:World} {o:Oper} {f:ko} {p:Path} {tt:dw} {b4:f6} {ops:List Oper}
structure Cells(M:Mem)(β:Nat→Option Nat)(vs:List Value)(cs:List D):Prop where
 len:vs.length=cs.length
 one:∀v,v∈vs→v.oneCell'=true
 rep:∀(i:Nat) v c,vs[i]? = some v→cs[i]? = some c→ct M β v c
def BO{vs:List Value}(h:∀v,v∈vs→v.oneCell'=true){i:Nat}{v:Value}(hi:vs[i]? = some v):v.oneCell'=true:=h v (List.mem_of_getElem? hi)
def PT{vs:List Value}(h:∀(i:Nat) v,vs[i]? = some v→v.oneCell'=true):∀v,v∈vs→v.oneCell'=true:=λv ay=>by
 obtain⟨i,hi⟩:=List.getElem?_of_mem ay;exact h i v hi
def Cells.set{vs:List Value}{cs:List D}(h:Cells M β vs cs){ws:List Value}{ds:List D}(de:Cells M β ws ds){off:Nat}(hle:off+ds.length≤cs.length){vs':List Value}(hlen:vs'.length=vs.length)
 (h7:∀(i:Nat),vs'[i]? = if off≤i∧i<off+ws.length then ws[i-off]? else vs[i]?):Cells M β vs' (setAt cs off ds):=by
 obtain⟨Z,ae⟩:=qe cs off ds hle;refine⟨by rw [hlen,Z,h.len],PT λi v ay=>?_,λi v c ay hc=>?_⟩
 ·rw [h7 i]at ay;split at ay
  ·exact BO de.one ay
  ·exact BO h.one ay
 ·rw [h7 i]at ay;rw [ae i]at hc;by_cases hi:off≤i∧i<off+ds.length
  ·rw [if_pos hi]at hc;rw [if_pos (by rw [de.len];exact hi)]at ay
   exact de.rep _ v c ay hc
  ·rw [if_neg hi]at hc;rw [if_neg (by rw [de.len];exact hi)]at ay
   exact h.rep _ v c ay hc
def Hk{place:Nat→Option (Nat×Nat)}:∀{cy:List (Nat×D)} {vs:List (Nat×Value)} {cs cs':List D} {cells:Array Value},vs.length=cy.length→
 (∀(i:Nat) a b,cy[i]? = some a→vs[i]? = some b→a.1=b.1∧ct M β b.2 a.2)→Cells M β cells.toList cs→p7 place cs cy=some cs'→
 ∃iX,Instr.fill place cells vs=some iX∧Cells M β iX.toList cs'
 |[],[],cs,cs',cells,_,_,hc,h=>by simp [p7]at h;subst h;exact⟨cells,rfl,hc⟩
 |[],_::_,_,_,_,h,_,_,_=>by simp at h
 |_::_,[],_,_,_,h,_,_,_=>by simp at h
 |(i,d)::cy,(j,v)::vs,cs,cs',cells,hn,ak,hc,h=>by
  obtain⟨PU,hd⟩:=ak 0 (i,d) (j,v) (by simp) (by simp)
  simp only at PU hd
  subst PU;simp only [p7]at h;split at h
  ·cases h
  ·rename_i off size nq;rw [Bool.cond_eq_ite]at h;split at h
   case isFalse=>cases h
   rename_i hb;simp only [Bool.and_eq_true,Nat.beq_eq,Nat.ble_eq,Bool.not_eq_true']at hb;obtain⟨⟨dc,fR⟩,Hl⟩:=hb;obtain⟨Z,ae,ar⟩:=hd.cells Hl;have ej:cells.size=cs.length:=by simpa using hc.len
   have ei:v.cells.size=size:=by simpa [dc]using Z
   have ba:=Hj off v.cells.toList 0 cells (by simp [ei];omega)
   have Hm:v.cells.zipIdx.foldl (λcs (x:Value×Nat)=>cs.setIfInBounds (off+x.2) x.1) cells=(v.cells.toList.zipIdx 0).foldl (λcs (x:Value×Nat)=>cs.setIfInBounds (off+x.2) x.1) cells:=by
    rw [←Array.foldl_toList,Array.toList_zipIdx]
   have ji:Cells M β (v.cells.zipIdx.foldl (λcs (x:Value×Nat)=>cs.setIfInBounds (off+x.2) x.1) cells).toList (setAt cs off (cellsD d)):=by
    rw [Hm];refine hc.set ⟨Z,ae,ar⟩ (by omega) (by simpa using ba.1) (λk=>?_)
    have:=ba.2 k
    simp only [Nat.add_zero]at this;rw [Array.getElem?_toList,this];simp only [Array.getElem?_toList]
   obtain⟨iX,xL,oc⟩:=Hk (place:=place) (by simpa using hn) (λk a b ha hb=>ak (k+1) a b (by simpa using ha) (by simpa using hb)) ji h
   refine⟨iX,?_,oc⟩
   simp only [Instr.fill,nq];rw [if_neg (by simp;omega)]
   exact xL
def q2{α du:Type}{f:α→Option du}:∀{l:List α} {cD:List du},mapM' f l=some cD→cD.length=l.length∧∀(i:Nat) a b,l[i]? = some a→cD[i]? = some b→f a=some b
 |[],cD,h=>by simp [mapM']at h;subst h;simp
 |x::l,cD,h=>by
  simp only [mapM']at h;split at h<;>simp at h
  rename_i y ys cl Zr;subst h;obtain⟨Z,ae⟩:=q2 Zr;refine⟨by simp [Z],λi a b ha hb=>?_⟩
  cases i with
  |zero=>simp at ha hb;subst ha;subst hb;exact cl
  |succ i=>simp at ha hb;exact ae i a b ha hb
def Row.PV{t:TypeId}{aP:ew}(r:Row P t aP):Cells M β r.z.cells.toList (aP.zero.map .v):=by
 obtain⟨Z,ae,ar⟩:=uQ (M:=M) r.xJ;refine⟨by simpa using Z,ae,λi v c ay hc=>?_⟩
 simp only [List.getElem?_map,Option.map_eq_some_iff]at hc;obtain⟨x,hx,rfl⟩:=hc;exact .v _ _ (ar i v x ay hx).1
def Zs{M:Mem}{v:Value}{x:V}(h:si v x=true):cY M v (GY x):=by
 have h0:=(Ha (M:=M) h).1;unfold si at h;split at h<;>first|exact h0|skip
 ·rename_i k n g;have:n=0:=by simpa using h
  subst this;exact .nj _ _
 ·cases h
def Row.Zt{t:TypeId}{aP:ew}(r:Row P t aP):Cells M β r.z.cells.toList (aP.zero.map λx=>.v (GY x)):=by
 obtain⟨Z,ae,ar⟩:=uQ (M:=M) r.xJ;refine⟨by simpa using Z,ae,λi v c ay hc=>?_⟩
 simp only [List.getElem?_map,Option.map_eq_some_iff]at hc;obtain⟨x,hx,rfl⟩:=hc;exact .v _ _ (Zs (ar i v x ay hx).2)
def Hn(h:fx P K N M β g tmps w)(hp:fC tmps p){ty:Nat→TypeId}{parts:Array (Nat×Operand)}{cy:List (Nat×D)}(k_:mapM' (fun(x:Nat×Operand)=>(rd g.env g.bU p tt (ty x.1) x.2).map λd=>(x.1,d)) parts.toList=some cy):
 ((parts.map fun(x:Nat×Operand)=>(x.1,(⟨tmps,[]⟩:Act).eval x.2)).toList).length=cy.length∧
 ∀(i:Nat) a b,cy[i]? = some a→(parts.map fun(x:Nat×Operand)=>(x.1,(⟨tmps,[]⟩:Act).eval x.2)).toList[i]? = some b→a.1=b.1∧ct M β b.2 a.2:=by
 obtain⟨Z,ae⟩:=q2 k_;refine⟨by simpa using Z.symm,λi a b ha hb=>?_⟩
 simp only [Array.toList_map,List.getElem?_map,Option.map_eq_some_iff]at hb;obtain⟨x,hx,rfl⟩:=hb;have:=ae i x a hx ha
 simp only [Option.map_eq_some_iff]at this;obtain⟨d,hd,rfl⟩:=this;exact⟨rfl,d' h hp hd⟩
def run_places{cr:Array Field}{l:List (Nat×TypeId×Nat)}(af:l=cr.toList.map λf=>(f.offset,f.type,P.cellsOf f.type))(hs:∀f,f∈cr.toList→1≤P.cellsOf f.type):
 (cr.mapM λf=>(do pure (f.offset,←sizeOf f.type):Sem (Nat×Nat))).run P w = .ok (cr.map λf=>(f.offset,P.cellsOf f.type)) w:=by
 obtain⟨uV⟩:=cr;rw [List.mapM_toArray]
 have key:∀(l:List Field),(∀f,f∈l→1≤P.cellsOf f.type)→(l.mapM λf=>(do pure (f.offset,←sizeOf f.type):Sem (Nat×Nat))).run P w = .ok (l.map λf=>(f.offset,P.cellsOf f.type)) w:=by
  intro l;induction l with
  |nil=>intro _;rfl
  |cons f l a7=>
   intro ba;have h0:=ba f (by simp)
   have Z:(sizeOf f.type).run P w = .ok (P.cellsOf f.type) w:=by
    cases hi:P.info? f.type with
    |none=>simp [Program.cellsOf,hi]at h0
    |some i=>exact Go.run_sizeOf w hi
   simp only [List.mapM_cons,Sem.run_bind,Z,Result.andThen_ok,Sem.run_pure,a7 (λf h=>ba f (by simp [h])),List.map_cons]
 simp only [Sem.run_map,key uV (by simpa using hs),Result.andThen_ok]
 simp
def PW(h:fx P K N M β g tmps w)(hp:fC tmps p)(cu:fb P tt=true){t:TypeId}{aP:ew}(af:look tt t=some aP){cr:List (Nat×TypeId×Nat)}(hk:aP.k = .bZ cr)(mN:cr.all (λf=>Nat.ble 1 f.2.2)=true)
 {parts:Array (Nat×Operand)} (ax:o.op = .build t parts) {cy:List (Nat×D)} (k_:mapM' (fun(x:Nat×Operand)=>(rd g.env g.bU p tt (p9 tt t x.1) x.2).map λd=>(x.1,d)) parts.toList=some cy)
 {zs:List D} (sn:∀(r:Row P t aP),Cells M β r.z.cells.toList zs) {cs:List D} (ba:p7 (fun(i:Nat)=>(cr[i]?).map fun(f:Nat×TypeId×Nat)=>(f.1,f.2.2)) zs cy=some cs) {rs:List e'}:
 Yields P K M β g {e:=some {d:=o8 cs},rs} o tmps w:=by
 obtain⟨r⟩:=eu cu af;obtain⟨gs,hd,Ho⟩:=He r hk;obtain⟨Z,ae⟩:=Hn h hp k_;obtain⟨cells,xL,hc⟩:=Hk Z ae (sn r) ba
 have BP:∀f,f∈gs.toList→1≤P.cellsOf f.type:=by
  intro fd lI;rw [List.all_eq_true]at mN;have:=mN (fd.offset,fd.type,P.cellsOf fd.type) (by rw [Ho];exact List.mem_map.2 ⟨fd,lI,rfl⟩)
  simpa using this
 have nq:(fun(i:Nat)=>(gs.map λf=>(f.offset,P.cellsOf f.type))[i]?)=fun(i:Nat)=>(cr[i]?).map fun(f:Nat×TypeId×Nat)=>(f.1,f.2.2):=by
  funext i
  rw [Ho];cases hi:gs[i]? <;> simp [hi]
 refine eO h (v:=.agg cells) ?_ ?_
 ·simp only [execOp,ax];refine iH _ ?_;have Zu:=run_places (P:=P) (w:=w) Ho BP;simp only [Instr.build,Sem.run_bind,r.BI,Result.andThen_ok,r.run_underlying,hd,Zu,nq];have:Instr.fill (fun(i:Nat)=>(cr[i]?).map fun(f:Nat×TypeId×Nat)=>(f.1,f.2.2)) r.z.cells (parts.map fun(x:Nat×Operand)=>(x.1,(⟨tmps,[]⟩:Act).eval x.2)).toList=some cells:=xL
  rw [this];rfl
 ·have:=BJ hc.len hc.one hc.rep
  simpa using this
def Zv(h:fx P K N M β g tmps w)(hp:fC tmps p)(cu:fb P tt=true){t:TypeId}{aP:ew}(af:look tt t=some aP){n:Nat}{e:TypeId}(hk:aP.k = .arr n e){b8:ew}(eC:look tt e=some b8)
 {parts:Array (Nat×Operand)} (ax:o.op = .build t parts) {cy:List (Nat×D)} (k_:mapM' (fun(x:Nat×Operand)=>(rd g.env g.bU p tt (p9 tt t x.1) x.2).map λd=>(x.1,d)) parts.toList=some cy)
 {cs:List D} (ba:p7 (λi=>some (i*b8.size,b8.size)) (aP.zero.map .v) cy=some cs):
 Yields P K M β g {e:=some {d:=o8 cs},rs:=g.rs} o tmps w:=by
 obtain⟨r⟩:=eu cu af;obtain⟨ao⟩:=eu cu eC;obtain⟨Z,ae⟩:=Hn h hp k_;obtain⟨cells,xL,hc⟩:=Hk Z ae (r.PV (β:=β)) ba;refine eO h (v:=.agg cells) ?_ ?_
 ·simp only [execOp,ax];refine iH _ ?_;simp only [Instr.build,Sem.run_bind,r.BI,Result.andThen_ok,r.run_underlying,Zi r hk,ao.run_sizeOf];have:Instr.fill (λi=>some (i*b8.size,b8.size)) r.z.cells (parts.map fun(x:Nat×Operand)=>(x.1,(⟨tmps,[]⟩:Act).eval x.2)).toList=some cells:=xL
  rw [this];rfl
 ·have:=BJ hc.len hc.one hc.rep
  simpa using this
end
section
variable {P:Program} {K:Ctx} {N:Nat} {M:Mem} {β:Nat→Option Nat} {g:c_} {tmps:Array Value} {w:World} {o:Oper} {f:ko} {p:Path} {tt:dw} {b4:f6} {ops:List Oper}
def im(M:Mem)(b:Nat)(lo:Nat)(vs:List Value):Mem:=λbC o=>if bC=b∧lo≤o∧o<lo+vs.length then vs[o-lo]? else M bC o
def Hp{b lo:Nat}{vs:List Value}(h:∀o,lo≤o→M b o=none):M.le (im M b lo vs):=by
 intro bC o v ay;unfold im;split
 ·rename_i hc;obtain⟨rfl,Z,ae⟩:=hc;rw [h o Z]at ay;cases ay
 ·exact ay
def BQ{b lo:Nat}{vs:List Value}{i:Nat}{v:Value}(h:vs[i]? = some v):im M b lo vs b (lo+i)=some v:=by
 have hi:i<vs.length:=(List.getElem?_eq_some_iff.1 h).1;unfold im;rw [if_pos ⟨rfl,by omega,by omega⟩,show lo+i-lo=i by omega,h]
def Zw{k:Nat}{n:Nat}{cells:List Value}(af:cells.length=n*k){i j:Nat}(hi:i<n)(hj:j<k):cells[i*k+j]? = some (cells.getD (i*k+j) undef):=by
 have:i*k+j<cells.length:=by
  have Z:(i+1)*k≤n*k:=Nat.mul_le_mul_right k hi;rw [Nat.add_mul]at Z;omega
 simp [List.getD,List.getElem?_eq_getElem this]
def bH.newRow{st:aI}(h:bH P K M β st tmps w){vs:List Value}{T:TypeId}{n:Nat}{w':World}(hw:w'.heap=w.heap.push (.cells ⟨vs⟩ T (0,0)))(np:(w'.os,w'.output)=(w.os,w.output):=by rfl):
 bH P K (im M w.heap.size 0 (vs.take n)) β st tmps w'∧M.le (im M w.heap.size 0 (vs.take n)):=by
 have cM:M.le (im M w.heap.size 0 (vs.take n)):=Hp λo _=>h.Hf o
 refine⟨h.free w.heap.size ?_ ?_ ?_ ?_ cM ?_ ?_ np,cM⟩
 ·cases dF:K.F w.heap.size with
  |none=>rfl
  |some aZ=>have:=lt_of_heap (h.frame _ aZ dF).1;omega
 ·intro r cs ak hb;have:=h.xG ak hb;omega
 ·intro l e T af aS hb;have:=(h.own l e T af aS).lt hb;omega
 ·intro bC _ bQ;rw [hw];simp [Array.getElem?_push,Nat.ne_of_lt bQ]
 ·intro bC o bQ;simp [im,bQ]
 ·intro o v ay;unfold im at ay;split at ay
  ·rename_i hc;simp only [Nat.sub_zero]at ay;rw [List.getElem?_take]at ay;split at ay
   ·have:w'.heap[w.heap.size]? = some (.cells ⟨vs⟩ T (0,0)):=by rw [hw];simp
    rw [cell_of_heap this,ay]
   ·cases ay
  ·rw [h.Hf o]at ay;cases ay
def Hq{st:aI}(h:bH P K M β st tmps w){l0:Loc}{T:TypeId}{vs:List Value}{T':TypeId}(qf:T'=T){n cap:Nat}{w':World}(hw:w'.heap=w.heap.push (.cells ⟨vs⟩ T' (0,0)))(hn:n≤cap)
 (hcap:cap*P.cellsOf T≤vs.length):l6 P K (im M w.heap.size 0 (vs.take (n*P.cellsOf T))) β st tmps w' l0 (.slice (some ⟨w.heap.size,0,none⟩) n cap) T:=by
 have so:w'.heap[w.heap.size]? = some (.cells ⟨vs⟩ T' (0,0)):=by rw [hw];simp
 refine⟨.inr ⟨w.heap.size,n,cap,vs,T',rfl,hn,so,hcap,λo ax=>?_,?_,qf⟩,?_,?_⟩
 ·have hle:n*P.cellsOf T≤vs.length:=Nat.le_trans (Nat.mul_le_mul_right _ hn) hcap;unfold im;rw [if_neg,h.Hf o]
  rintro ⟨_,_,ar⟩
  simp only [List.length_take]at ar;omega
 ·cases dF:K.F w.heap.size with
  |none=>rfl
  |some aZ=>have:=lt_of_heap (h.frame _ aZ dF).1;omega
 ·intro l e n_ b af aS _ hb bQ;simp [g']at hb;subst hb
  have hold:cp tmps w' β l=cp tmps w β l:=by
   cases l with
   |slot s=>rfl
   |cell r i=>
    simp only [aI.at]at af;cases ak:look st.H r with
    |none=>simp [ak]at af
    |some cs=>
     obtain⟨cS,jT,gF,dc,bx,_⟩:=h.box r cs ak;simp only [cp,dc];rw [qa (w:=w) (by rw [hw];simp [Array.getElem?_push,Nat.ne_of_lt (lt_of_heap bx)])]
  rw [hold]at bQ;have:=(h.own l e n_ af aS).lt bQ
  omega
 ·intro b r cs hb ak bQ;simp [g']at hb;subst hb;have:=h.xG ak bQ
  omega
def PX{size:Nat}:∀(l:List (Nat×Value)) (m:Nat) (cells:Array Value),(∀(i:Nat) x,l[i]? = some x→x.1=m+i∧x.2.cells.size=size)→(m+l.length)*size≤cells.size→
 ∃iX,Instr.fill (λi=>some (i*size,size)) cells l=some iX∧iX.size=cells.size∧(∀i,i<m*size→iX[i]? = cells[i]?)∧
  ∀(i:Nat) x (j:Nat) u,l[i]? = some x→x.2.cells[j]? = some u→iX[(m+i)*size+j]? = some u
 |[],m,cells,_,_=>⟨cells,rfl,rfl,λ_ _=>rfl,by simp⟩
 |(a,v)::l,m,cells,af,hle=>by
  obtain⟨ha,ej⟩:=af 0 (a,v) (by simp)
  simp only [Nat.add_zero]at ha;simp only at ej
  subst ha
  have akt:a*size+size≤cells.size:=by
   have Z:(a+1)*size≤(a+((a,v)::l).length)*size:=Nat.mul_le_mul_right _ (by simp)
   rw [Nat.add_mul,Nat.one_mul]at Z;omega
  have ba:=Hj (a*size) v.cells.toList 0 cells (by simp [ej];omega)
  have Hm:v.cells.zipIdx.foldl (λcs (x:Value×Nat)=>cs.setIfInBounds (a*size+x.2) x.1) cells=(v.cells.toList.zipIdx 0).foldl (λcs (x:Value×Nat)=>cs.setIfInBounds (a*size+x.2) x.1) cells:=by
   rw [←Array.foldl_toList,Array.toList_zipIdx]
  rw [←Hm]at ba;generalize jW:v.cells.zipIdx.foldl (λcs (x:Value×Nat)=>cs.setIfInBounds (a*size+x.2) x.1) cells=c1 at ba
  obtain⟨iX,Z,ae,ar,aK⟩:=PX l (a+1) c1 (λi x hx=>by
   obtain⟨Z,ae⟩:=af (i+1) x (by simpa using hx)
   exact⟨by omega,ae⟩) (by rw [ba.1];simpa [Nat.add_assoc,Nat.add_comm 1]using hle)
  refine⟨iX,?_,by rw [ae,ba.1],λi hi=>?_,λi x j u hx hu=>?_⟩
  ·simp only [Instr.fill];rw [if_neg (by simp [ej];omega)]
   have:v.cells.zipIdx.foldl (λcs (c,j)=>cs.setIfInBounds (a*size+j) c) cells=c1:=jW
   rw [this];exact Z
  ·rw [ar i (by rw [Nat.add_mul];omega),ba.2 i,if_neg (by omega)]
  ·cases i with
   |zero=>
    simp at hx;subst hx
    simp only at hu
    have hj:j<size:=by rw [←ej];exact(Array.getElem?_eq_some_iff.1 hu).1
    rw [Nat.add_zero,ar _ (by rw [Nat.add_mul,Nat.one_mul];omega),ba.2,if_pos (by simp [ej];omega)]
    simpa using hu
   |succ i=>
    have:=aK i x j u (by simpa using hx) hu
    rw [show a+(i+1)=a+1+i by omega];exact this
def PY{PZ:Bool}{size:Nat}:∀{cy:List (Nat×D)} {n:Nat} {xs:List V},elems PZ size n cy=some xs→xs.length=cy.length∧
 ∀(i:Nat) y x,cy[i]? = some y→xs[i]? = some x→y=(n+i,.v x)∧x.cells.length=size∧x.isAgg=PZ
 |[],n,xs,h=>by simp [elems]at h;subst h;simp
 |(j,d)::cy,n,xs,h=>by
  cases d<;>simp only [elems]at h<;>try cases h
  rename_i fj;rw [Bool.cond_eq_ite]at h;split at h
  case isFalse=>cases h
  rename_i hb;simp only [Bool.and_eq_true,Nat.beq_eq,beq_iff_eq]at hb;obtain⟨⟨dc,fR⟩,Hl⟩:=hb;simp only [Option.map_eq_some_iff]at h;obtain⟨ys,cl,rfl⟩:=h;obtain⟨Z,ae⟩:=PY cl;refine⟨by simp [Z],λi y x hi hx=>?_⟩
  cases i with
  |zero=>simp at hi hx;subst hi;subst hx;exact⟨by simp [dc],fR,Hl⟩
  |succ i=>
   simp at hi hx
   obtain⟨ar,aK⟩:=ae i y x hi hx;exact⟨by rw [ar];simp;omega,aK⟩
def Zx(h:fx P K N M β g tmps w)(hp:fC tmps p)(cu:fb P tt=true){t e:TypeId}{aP b8:ew}(af:look tt t=some aP)(hk:aP.k = .bD e)(eC:look tt e=some b8){len:Nat}
 {parts:Array (Nat×Operand)} (ax:o.op = .buildSlice t len parts) {cy:List (Nat×D)} (k_:mapM' (fun(x:Nat×Operand)=>(rd g.env g.bU p tt (p9 tt t x.1) x.2).map λd=>(x.1,d)) parts.toList=some cy)
 {xs:List V} (hx:elems b8.k.isAgg b8.size 0 cy=some xs) (hlen:xs.length=len) (_hs:1≤b8.size) (hb:len*b8.size≤16777216) {x:V} (ay:gC (.bD b8.size len λi=>xs.getD i .en) x) {rs:List e'} {aZ:List Prop}:
 Yields P K M β g {e:=some {d:=.v x,own:=some e},rs,aZ} o tmps w:=by
 obtain⟨r⟩:=eu cu af;obtain⟨dG⟩:=eu cu eC;obtain⟨Z,ae⟩:=Hn h hp k_;obtain⟨aku,Hr⟩:=PY hx;generalize qg:(parts.map fun(x:Nat×Operand)=>(x.1,(⟨tmps,[]⟩:Act).eval x.2))=pa at Z ae
 generalize l8:pa.toList=vs at Z ae
 have nq:vs.length=len:=by omega
 have hy:∀(i:Nat) b,vs[i]? = some b→∃x,xs[i]? = some x∧b.1=i∧cY M b.2 x∧x.cells.length=b8.size:=by
  intro i b hi;have G4:i<vs.length:=(List.getElem?_eq_some_iff.1 hi).1;have ha:cy[i]? = some cy[i]:=List.getElem?_eq_getElem (by omega)
  have lK:xs[i]? = some xs[i]:=List.getElem?_eq_getElem (by omega)
  obtain⟨ar,aK,_⟩:=Hr i _ _ ha lK;obtain⟨bc,b2⟩:=ae i _ b ha hi;rw [ar]at bc b2;exact⟨_,lK,by simpa using bc.symm,mM b2,aK⟩
 have oc:∀(i:Nat) b,vs[i]? = some b→∃x,xs[i]? = some x∧b.1=i∧b.2.cells.size=b8.size∧(∀u,u∈b.2.cells.toList→u.oneCell'=true)∧∀(j:Nat) u c,b.2.cells.toList[j]? = some u→x.cells[j]? = some c→cY M u c:=by
  intro i b hi;obtain⟨x,ar,aK,bc,b2⟩:=hy i b hi;obtain⟨cU,dQ,f'⟩:=(ct.v (β:=β) _ _ bc).cells rfl;refine⟨x,ar,aK,by simp [cellsD]at cU;omega,dQ,λj u c hu hc=>?_⟩
  exact mM (f' j u (.v c) hu (by simp [cellsD,hc]))
 obtain⟨iX,uW,q3,akv,Zy⟩:=PX (size:=b8.size) vs 0 ((Array.range (len*b8.size)).map λi=>dG.z.cells[i % dG.z.cells.size]!) (λi x hi=>by
  obtain⟨y,ar,aK,bc,_⟩:=oc i x hi;exact⟨by omega,bc⟩) (by simp [nq])
 have ej:iX.size=len*b8.size:=by rw [q3];simp
 have h7:∀i j,i<len→j<b8.size→∃b u,vs[i]? = some b∧b.2.cells.toList[j]? = some u∧iX.toList[i*b8.size+j]? = some u:=by
  intro i j hi hj;have eN:vs[i]? = some vs[i]:=List.getElem?_eq_getElem (by omega)
  obtain⟨y,ar,aK,bc,_⟩:=oc i _ eN;have hu:vs[i].2.cells[j]? = some vs[i].2.cells[j]:=Array.getElem?_eq_getElem (by omega)
  refine⟨vs[i],vs[i].2.cells[j],eN,(Array.getElem?_toList ..).trans hu,?_⟩
  have:=Zy i _ j _ eN hu
  simpa using this
 have eS:(execOp (Act.eval ⟨tmps,[]⟩) o).run P w = .ok (.value (.slice (some ⟨w.heap.size,0,none⟩) len len)) {w with heap:=w.heap.push (.cells ⟨iX.toList⟩ e (0,0))}:=by
  simp only [execOp,ax];refine iH _ ?_;have bQ:¬ (16777216<len*b8.size):=by omega
  have Zz:(parts.map fun(x:Nat×Operand)=>match x with|(i,x)=>(i,(⟨tmps,[]⟩:Act).eval x))=pa:=qg
  rw [Zz];simp only [Instr.buildSlice,Sem.run_bind,r.run_underlying,ob r hk,Result.andThen_ok,dG.run_sizeOf];by_cases h0:len*b8.size=0
  ·have b5:∀f:Nat→Value,(Array.range (len*b8.size)).map f = #[]:=by intro f;rw [h0];simp
   rw [b5]at uW;have e1:∀f:Nat→Value,(Array.range 0).map f = #[]:=by intro f;simp
   simp [h0,l8,e1,uW,newRow]
  ·simp [h0,bQ,dG.BI,l8,uW,newRow]
 obtain⟨cG,hle⟩:=h.bo.newRow (w':={w with heap:=w.heap.push (.cells ⟨iX.toList⟩ e (0,0))}) (T:=e) (vs:=iX.toList) (n:=len*b8.size) rfl;have xM:iX.toList.take (len*b8.size)=iX.toList:=List.take_of_length_le (by simp [ej])
 refine .inl ⟨_,_,eS,_,β,hle,λ_ _ h=>h,λ_ _ h=>.inl h,cG,λe1 he=>?_⟩
 cases he;refine⟨.v _ _ (ay _ _ (.bD _ 0 b8.size len len _ (λi j=>iX.toList.getD (i*b8.size+j) undef) (Nat.le_refl _) ?_ ?_ ?_ ?_)),λT l0 aS=>?_⟩
 ·intro i hi;have lK:xs[i]? = some xs[i]:=List.getElem?_eq_getElem (by omega)
  have ha:cy[i]? = some cy[i]:=List.getElem?_eq_getElem (by omega)
  simp only [List.getD,lK,Option.getD_some];exact(Hr i _ _ ha lK).2.1
 ·intro i j hi hj;obtain⟨b,u,_,_,hu⟩:=h7 i j hi hj;rw [xM,Nat.zero_add];have:=BQ (M:=M) (b:=w.heap.size) (lo:=0) hu
  simpa [List.getD,hu]using this
 ·intro i j hi hj;obtain⟨b,u,dc,Hs,hu⟩:=h7 i j hi hj;obtain⟨y,_,_,_,b2,_⟩:=oc i b dc;simp only [List.getD,hu,Option.getD_some];exact BO b2 Hs
 ·intro i j c hi hc;have lK:xs[i]? = some xs[i]:=List.getElem?_eq_getElem (by omega)
  simp only [List.getD,lK,Option.getD_some]at hc
  have hj:j<b8.size:=by
   have ha:cy[i]? = some cy[i]:=List.getElem?_eq_getElem (by omega)
   rw [←(Hr i _ _ ha lK).2.1];exact(List.getElem?_eq_some_iff.1 hc).1
  obtain⟨b,u,dc,Hs,hu⟩:=h7 i j hi hj;obtain⟨y,cl,_,_,_,cU⟩:=oc i b dc;rw [lK]at cl;cases cl;simp only [List.getD,hu,Option.getD_some];exact(cU j u c Hs hc).mono hle
 ·cases aS;have:=Hq (l0:=l0) (T:=e) h.bo (vs:=iX.toList) (T':=e) (n:=len) (cap:=len) (w':={w with heap:=w.heap.push (.cells ⟨iX.toList⟩ e (0,0))}) rfl rfl (Nat.le_refl _) (by rw [dG.cellsOf];simp [ej])
  rw [dG.cellsOf]at this;exact this
end
section
variable {P:Program} {K:Ctx} {N:Nat} {M:Mem} {β:Nat→Option Nat} {g:c_} {tmps:Array Value} {w:World} {o:Oper} {f:ko} {p:Path} {tt:dw} {b4:f6} {ops:List Oper}
def ZA(h:fx P K N M β g tmps w)(hp:fC tmps p)(cu:fb P tt=true){t:TypeId}{aP:ew}(af:look tt t=some aP){a:Operand}(ax:o.op = .load t a){q off:Nat}(ha:rd g.env g.bU p tt o.type a=some (.ptr q off))
 {cs:List a1} (aB:look g.H q=some cs) (iY:aP.k.isAgg=true) (hle:off+aP.size≤cs.length):
 Yields P K M β g {e:=some {d:=o8 (((cs.drop off).take aP.size).map (·.d))},rs:=g.rs} o tmps w:=by
 obtain⟨r⟩:=eu cu af;obtain⟨b,hb,ay⟩:=qd (d' (ds:=[]) h hp ha);obtain⟨bC,vs,T,bQ,bx,hlen,_,_,il,lE⟩:=h.bo.box q cs aB;rw [hb]at bQ;cases bQ;have eS:=PH (P:=P) (w:=w) r (off:=off) bx (by omega) iY
 refine eO h (v:=.agg ⟨(vs.drop off).take aP.size⟩) ?_ ?_
 ·simp only [execOp,ax];rw [ay];exact iH _ eS
 ·refine BJ (by simp;omega) (λv ay=>il v (List.mem_of_mem_drop (List.mem_of_mem_take ay))) (λi v c ay hc=>?_)
  rw [List.getElem?_map,Option.map_eq_some_iff]at hc;obtain⟨e,he,rfl⟩:=hc;rw [List.getElem?_take]at ay he;split at ay
  ·rename_i hi;rw [if_pos hi,List.getElem?_drop]at he;rw [List.getElem?_drop]at ay;have:=h.bo.e_ (.cell q (off+i)) e (by simp [aI.at,aB,he])
   simpa [cp,hb,cell_of_heap bx,ay]using this
  ·cases ay
def ZB(h:fx P K N M β g tmps w)(hp:fC tmps p)(cu:fb P tt=true){t:TypeId}{aP:ew}(af:look tt t=some aP){a:Operand}(ax:o.op = .load t a){q off:Nat}(ha:rd g.env g.bU p tt o.type a=some (.ptr q off))
 {cs:List a1} (aB:look g.H q=some cs) (iY:aP.k.isAgg=false) {e:a1} (he:cs[off]? = some e):
 Yields P K M β g {e:=some {d:=e.d},rs:=g.rs} o tmps w:=by
 obtain⟨r⟩:=eu cu af;obtain⟨b,hb,ay⟩:=qd (d' (ds:=[]) h hp ha);obtain⟨bC,vs,T,v,bQ,bx,eN,b'⟩:=G3 h.bo aB he;rw [hb]at bQ;cases bQ;have hc:w.cell? ⟨b,off,none⟩=some v:=by rw [cell_of_heap bx,eN]
 refine eO h (v:=v) ?_ ?_
 ·simp only [execOp,ax];rw [ay];exact iH _ (Hd (P:=P) r hc iY)
 ·have:=h.bo.e_ (.cell q off) e (by simp [aI.at,aB,he])
  rwa [b']at this
def P0{cs:List a1}{off:Nat}{e:a1}(c8:off<cs.length)(i:Nat):(setAt cs off [e])[i]? = if i=off then some e else cs[i]? := by
 rw [(qe cs off [e] (by simp;omega)).2 i]
 by_cases hi:i=off
 ·subst hi;simp
 ·rw [if_neg (by simp;omega),if_neg hi]
def ZC(h:fx P K N M β g tmps w)(hp:fC tmps p)(cu:fb P tt=true){t:TypeId}{aP:ew}(af:look tt t=some aP){a:Operand}(ax:o.op = .load t a){q off:Nat}(ha:rd g.env g.bU p tt o.type a=some (.ptr q off))
 {cs:List a1} (aB:look g.H q=some cs) (iY:aP.k.isAgg=false) {e:a1} (he:cs[off]? = some e) {s:TypeId} (hs:e.own=some s) {rs:List e'}:
 Yields P K M β g {e:=some e,hs:=[(q,setAt cs off [{d:=e.d}])],rs} o tmps w:=by
 obtain⟨r⟩:=eu cu af;obtain⟨b,hb,ay⟩:=qd (d' (ds:=[]) h hp ha);obtain⟨bC,vs,T,v,bQ,bx,eN,b'⟩:=G3 h.bo aB he;rw [hb]at bQ;cases bQ;have hc:w.cell? ⟨b,off,none⟩=some v:=by rw [cell_of_heap bx,eN]
 have c8:off<cs.length:=(List.getElem?_eq_some_iff.1 he).1
 have lF:=λl0=>h.bo.PB aB he hs (cs':=setAt cs off [{d:=e.d}]) (qe cs off _ (by simp;omega)).1 (λj bf hj=>by
  rw [P0 c8]at hj;by_cases Ht:j=off
  ·subst Ht;simp at hj;subst hj;exact⟨e,he,rfl,by simp⟩
  ·rw [if_neg Ht]at hj;exact⟨bf,hj,rfl,λT aS=>⟨aS,Ht⟩⟩) l0
 refine .inl ⟨v,w,?_,M,β,Mem.le_refl _,λ_ _ h=>h,λ_ _ h=>.inl h,(lF (.slot 0)).1,λe1 qh=>?_⟩
 ·simp only [execOp,ax];rw [ay];exact iH _ (Hd (P:=P) r hc iY)
 ·cases qh;refine⟨?_,λT l0 aS=>?_⟩
  ·have:=h.bo.e_ (.cell q off) e (by simp [aI.at,aB,he])
   rwa [b']at this
  ·rw [hs]at aS;cases aS;have:=(lF l0).2
   rwa [b']at this
def ZD(h:fx P K N M β g tmps w)(hp:fC tmps p)(cu:fb P tt=true){t:TypeId}{aP:ew}(af:look tt t=some aP){a:Operand}(ax:o.op = .load t a){x:V}(ha:rd g.env g.bU p tt o.type a=some (.eI x))
 (iY:x.isAgg=aP.k.isAgg) (hs:x.cells.length=aP.size):Yields P K M β g {e:=some {d:=.v x},rs:=g.rs} o tmps w:=by
 obtain⟨r⟩:=eu cu af;obtain⟨u,Z,ae⟩:=Zh (w:=w) r h.bo.mem (d' (ds:=[]) h hp ha) iY hs;exact eO h (v:=u) (by simp only [execOp,ax];exact iH _ Z) (.v _ _ ae)
def P1{t:TypeId}{aP:ew}(r:Row P t aP){b off:Nat}{vs:List Value}{T:TypeId}(bx:w.heap[b]? = some (.cells ⟨vs⟩ T (0,0))){v:Value}(hs:v.cells.size=aP.size)(il:∀u,u∈v.cells.toList→u.oneCell'=true)
 (hle:off+aP.size≤vs.length):(Instr.storeAt t (.pointer (some ⟨b,off,none⟩)) v).run P w = .ok () (w.setRow b (vs.take off++v.cells.toList++vs.drop (off+aP.size)).toArray):=by
 have:=run_storeCells_at P b off T v.cells.toList 0 ⟨vs⟩ w bx (by simpa [hs]using hle) il
 simp only [Nat.add_zero,Array.length_toList,hs]at this;simp [Instr.storeAt,Instr.sureAddr,storeVar,r.run_sizeOf,hs,this]
def Hu{vs us:List Value}{off:Nat}(hle:off+us.length≤vs.length)(i:Nat):(vs.take off++us++vs.drop (off+us.length))[i]? = if off≤i∧i<off+us.length then us[i-off]? else vs[i]? := by
 have bS:(vs.take off).length=off:=by simp;omega
 by_cases Z:i<off
 ·rw [if_neg (by omega),List.append_assoc,List.getElem?_append_left (by omega),List.getElem?_take,if_pos Z]
 ·by_cases ae:i<off+us.length
  ·rw [if_pos (by omega),List.append_assoc,List.getElem?_append_right (by omega),bS,List.getElem?_append_left (by omega)]
  ·rw [if_neg (by omega),List.getElem?_append_right (by simp;omega),List.getElem?_drop]
   congr 1
   simp;omega
def xN{vs us:List Value}{off:Nat}(hle:off+us.length≤vs.length):(vs.take off++us++vs.drop (off+us.length)).length=vs.length:=by
 simp;omega
def P2{vs us:List Value}{off:Nat}(Z:∀v,v∈vs→v.oneCell'=true)(ae:∀v,v∈us→v.oneCell'=true):∀v,v∈vs.take off++us++vs.drop (off+us.length)→v.oneCell'=true:=by
 intro v ay;rcases List.mem_append.1 ay with ay|ay
 ·rcases List.mem_append.1 ay with ay|ay
  ·exact Z v (List.mem_of_mem_take ay)
  ·exact ae v ay
 ·exact Z v (List.mem_of_mem_drop ay)
def P3{v:Value}{t:TypeId}{a x:Operand}(ax:o.op = .store t a x)(hx:(⟨tmps,[]⟩:Act).eval x=v){gT:Value}(ha:(⟨tmps,[]⟩:Act).eval a=gT){w':World}(h:(Instr.storeAt t gT v).run P w = .ok () w'):
 (execOp (Act.eval ⟨tmps,[]⟩) o).run P w = .ok .skip w':=by
 simp only [execOp,ax,hx,ha];simp [h]
def kt.set{T:TypeId}{n:Nat}{cs ds:List a1}{off:Nat}(h:kt P T n cs)(hn:∀e,e∈ds→∀r o u,e.d ≠ .co r o u)(hle:off+ds.length≤cs.length):kt P T n (setAt cs off ds):=λe he r o u hd=>by
 obtain⟨i,hi,rfl⟩:=List.getElem_of_mem he;have hg:(setAt cs off ds)[i]? = some (setAt cs off ds)[i]:=List.getElem?_eq_getElem hi;rw [(qe cs off ds hle).2 i]at hg;split at hg
 ·exact absurd hd (hn _ (List.mem_of_getElem? hg) r o u)
 ·exact h _ (List.mem_of_getElem? hg) r o u hd
def ZE(h:fx P K N M β g tmps w)(hp:fC tmps p)(cu:fb P tt=true){t:TypeId}{aP:ew}(af:look tt t=some aP){a x:Operand}(ax:o.op = .store t a x){q off:Nat}(ha:rd g.env g.bU p tt o.type a=some (.ptr q off))
 {cs:List a1} (aB:look g.H q=some cs) {d:D} (hx:rd g.env g.bU p tt t x=some d) (bS:p6 d=false) (q1:qU (cellsD d)=true) (hs:(cellsD d).length=aP.size) (hle:off+aP.size≤cs.length):
 Yields P K M β g {e:=none,hs:=[(q,setAt cs off ((cellsD d).map λd=>{d}))],rs:=g.rs} o tmps w:=by
 obtain⟨r⟩:=eu cu af;obtain⟨b,hb,ay⟩:=qd (d' (ds:=[]) h hp ha);obtain⟨bC,vs,T,bQ,bx,hlen,_,_,il,lE⟩:=h.bo.box q cs aB;rw [hb]at bQ;cases bQ;obtain⟨Z,ae,ar⟩:=(d' (ds:=[]) h hp hx).cells bS;generalize hu:(⟨tmps,[]⟩:Act).eval x=u at Z ae ar
 have P4:u.cells.size=aP.size:=by simp at Z;omega
 have sq:u.cells.toList.length=aP.size:=by simpa using P4
 have eS:=P1 (P:=P) r (off:=off) bx P4 ae (by omega)
 rw [←sq]at eS;refine .inr (.inl ⟨rfl,_,P3 ax hu ay eS,M,β,Mem.le_refl _,λ_ _ h=>h,λ_ _ h=>.inl h,?_,λe he=>by cases he⟩)
 have uX:=qe cs off ((cellsD d).map λd=>({d}:a1)) (by simp;omega)
 refine h.bo.G5 aB hb bx (vs':=vs.take off++u.cells.toList++vs.drop (off+u.cells.toList.length)) (by rw [xN (by omega),uX.1,hlen]) (P2 il ae) (λ_=>by
  rw [xN (by omega)]
  refine lE.set (λe he=>?_) (by simp;omega)
  obtain⟨c,hc,rfl⟩:=List.mem_map.1 he;exact BC q1 c hc) uX.1
  (setRow_heap w b _ _ T (0,0) bx) (λbC ea=>setRow_other w b bC _ ea) cs.length (λi v e eN lL=>?_)
 rw [Hu (by omega)]at eN
 rw [uX.2]at lL;simp only [List.length_map]at lL;by_cases hi:off≤i∧i<off+aP.size
 ·rw [if_pos (by omega)]at eN
  rw [if_pos (by omega),List.getElem?_map,Option.map_eq_some_iff]at lL
  obtain⟨c,hc,rfl⟩:=lL;exact⟨ar _ v c eN hc,by simp⟩
 ·rw [if_neg (by omega)]at eN
  rw [if_neg (by omega)]at lL
  have q4:i<cs.length:=(List.getElem?_eq_some_iff.1 lL).1;refine⟨?_,λT aS=>.inl ⟨by omega,⟨e,lL,aS⟩,eN⟩⟩
  have:=h.bo.e_ (.cell q i) e (by simp [aI.at,aB,lL])
  simpa [cp,hb,cell_of_heap bx,eN]using this
def P5(ty:Nat→Option TypeId):∀(l:List a1) (n:Nat),(o_ ty n l).length=l.length∧∀(i:Nat) bf,(o_ ty n l)[i]? = some bf→∃e,l[i]? = some e∧((e.d=bf.d∧∀T,bf.own=some T→e.own=some T)∨∃k g,e.d = .v (.nj k g)∧bf.d = .v (.bD k 0 g))
 |[],n=>by simp [o_]
 |e::l,n=>by
  obtain⟨Z,ae⟩:=P5 ty l (n+1);refine⟨by simp [o_,Z],λi bf he=>?_⟩
  cases i with
  |zero=>
   simp only [o_,List.getElem?_cons_zero,Option.some.injEq]at he;refine⟨e,rfl,?_⟩
   split at he
   ·rename_i k g hd;subst he;exact .inr ⟨k,g,hd,rfl⟩
   ·subst he;exact .inl ⟨rfl,λ_ h=>h⟩
  |succ i=>simp only [o_,List.getElem?_cons_succ]at he ⊢;exact ae i bf he
def ZF(h:fx P K N M β g tmps w)(hp:fC tmps p)(cu:fb P tt=true){t:TypeId}{aP:ew}(af:look tt t=some aP){a x:Operand}(ax:o.op = .store t a x){q off:Nat}(ha:rd g.env g.bU p tt o.type a=some (.ptr q off))
 {cs:List a1} (aB:look g.H q=some cs) {d:D} (hx:rd g.env g.bU p tt t x=some d) (bS:p6 d=false) (q1:qU (cellsD d)=true) (hs:(cellsD d).length=aP.size) (hle:off+aP.size≤cs.length) (ty:Nat→Option TypeId):
 Yields P K M β g {e:=none,hs:=[(q,o_ ty 0 (setAt cs off ((cellsD d).map λd=>{d})))],rs:=g.rs} o tmps w:=by
 have up:∀{M':Mem} {β':Nat→Option Nat} {v:Value} {w':World},h6 P K M β g {e:=none,hs:=[(q,setAt cs off ((cellsD d).map λd=>{d}))],rs:=g.rs} tmps v w'→
  h6 P K M β g {e:=none,hs:=[(q,o_ ty 0 (setAt cs off ((cellsD d).map λd=>{d})))],rs:=g.rs} tmps v w':=by
  rintro M' β' v w' ⟨xO,xP,Z,ae,ar,aK,_⟩
  refine⟨xO,xP,Z,ae,λr b hb=>?_,?_,λe he=>by cases he⟩
  ·rcases ar r b hb with bc|bc
   ·exact .inl bc
   ·right
    simp only [dP]at bc ⊢;split at bc
    ·rename_i sr;simp [sr]
    ·cases bc
  ·obtain⟨g1,g2⟩:=P5 ty (setAt cs off ((cellsD d).map λd=>({d}:a1))) 0
   refine aK.Y3 rfl (λl bf dr=>?_) (λr cs' ak=>?_)
   ·cases l with
    |slot s=>exact⟨bf,dr,.inl ⟨rfl,λ_ h=>h⟩⟩
    |cell r i=>
     simp only [aI.at,after,List.cons_append,List.nil_append,dP]at dr ⊢;by_cases sr:q=r
     ·simp only [sr,if_true,Option.bind_some]at dr ⊢;exact g2 i bf dr
     ·simp only [sr,if_false]at dr ⊢;exact⟨bf,dr,.inl ⟨rfl,λ_ h=>h⟩⟩
   ·simp only [after,List.cons_append,List.nil_append,dP]at ak ⊢;by_cases sr:q=r
    ·simp only [sr,if_true,Option.some.injEq]at ak ⊢;subst ak;exact⟨_,rfl,g1.symm⟩
    ·simp only [sr,if_false]at ak ⊢;exact⟨cs',ak,rfl⟩
 rcases ZE h hp cu af ax ha aB hx bS q1 hs hle with⟨v,w',Z,ae⟩|⟨h0,w',Z,ae⟩|⟨fn,vs,Z,ae⟩
 ·exact .inl ⟨v,w',Z,up (M':=M) (β':=β) ae⟩
 ·exact .inr (.inl ⟨h0,w',Z,up (M':=M) (β':=β) ae⟩)
 ·exact .inr (.inr ⟨fn,vs,Z,ae.mono λe w' ⟨v,ar,aK⟩=>⟨v,ar,up (M':=M) (β':=β) aK⟩⟩)
def P6(h:fx P K N M β g tmps w)(hp:fC tmps p)(cu:fb P tt=true){t:TypeId}{aP:ew}(af:look tt t=some aP){a x:Operand}(ax:o.op = .store t a x){q off:Nat}(ha:rd g.env g.bU p tt o.type a=some (.ptr q off))
 {cs:List a1} (aB:look g.H q=some cs) {k n:Nat} {get:Nat→V} (hx:rd g.env g.bU p tt t x=some (.v (.bD k n get))) (hs:aP.size=1) (hle:off+aP.size≤cs.length) {s:TypeId} {l:List Nat}
 (fP:l6 P K M β {env:=gD l g.env,H:=g.H,aW:=g.aW} tmps w (.cell q off) ((⟨tmps,[]⟩:Act).eval x) s):
 Yields P K M β g {e:=none,gJ:=l,hs:=[(q,setAt cs off [{d:=.v (.bD k n get),own:=some s}])],rs:=g.rs} o tmps w:=by
 obtain⟨r⟩:=eu cu af;obtain⟨b,hb,ay⟩:=qd (d' (ds:=[]) h hp ha);have nr:=h.bo.gJ l;obtain⟨bC,vs,T,bQ,bx,hlen,_,_,il,lE⟩:=h.bo.box q cs aB;rw [hb]at bQ;cases bQ;have kw:=d' (ds:=[]) h hp hx;generalize hu:(⟨tmps,[]⟩:Act).eval x=u at kw fP
 have xQ:u.cells = #[u]∧u.oneCell'=true:=by
  obtain⟨a,cap,rfl,_⟩:=sm kw;exact⟨rfl,rfl⟩
 have eS:=P1 (P:=P) r (off:=off) bx (v:=u) (by rw [xQ.1,hs];rfl) (by rw [xQ.1];simpa using xQ.2) (by omega)
 rw [xQ.1,hs]at eS;have c8:off<cs.length:=by omega
 refine .inr (.inl ⟨rfl,_,P3 ax hu ay eS,M,β,Mem.le_refl _,λ_ _ h=>h,λ_ _ h=>.inl h,?_,λe he=>by cases he⟩)
 refine nr.G5 (st:={env:=gD l g.env,H:=g.H,aW:=g.aW}) aB hb bx (vs':=vs.take off++[u]++vs.drop (off+1)) (by rw [show off+1=off+[u].length by rfl,xN (by simp;omega),(qe cs off _ (by simp;omega)).1,hlen])
  (P2 (us:=[u]) il (by simpa using xQ.2)) (λ_=>by
   rw [show off+1=off+[u].length by rfl,xN (by simp;omega)]
   refine lE.set (λe he=>?_) (by simp;omega)
   obtain rfl:=List.mem_singleton.1 he;exact λ_ _ _ e=>by cases e) (qe cs off _ (by simp;omega)).1 (setRow_heap w b _ _ T (0,0) bx) (λbC ea=>setRow_other w b bC _ ea) off (λi v e eN lL=>?_)
 rw [show off+1=off+[u].length by rfl,Hu (by simp;omega)]at eN
 rw [P0 c8]at lL;by_cases hi:i=off
 ·subst hi;simp at eN lL
  subst eN;subst lL;refine⟨kw,λT aS=>.inr ⟨rfl,?_⟩⟩
  cases aS;exact fP
 ·rw [if_neg hi]at lL;rw [if_neg (by simp;omega)]at eN
  refine⟨?_,λT aS=>.inl ⟨hi,⟨e,lL,aS⟩,eN⟩⟩
  have:=h.bo.e_ (.cell q i) e (by simp [aI.at,aB,lL])
  simpa [cp,hb,cell_of_heap bx,eN]using this
end
section
variable {P:Program} {K:Ctx} {N:Nat} {M:Mem} {β:Nat→Option Nat} {g:c_} {tmps:Array Value} {w:World} {o:Oper} {f:ko} {p:Path} {tt:dw} {b4:f6} {ops:List Oper}
structure kx(M:Mem)(k m:Nat)(get:Nat→V)(news:List Value):Prop where
 len:news.length=m*k
 hk:∀i,i<m→(get i).cells.length=k
 one:∀u,u∈news→u.oneCell'=true
 rep:∀(i j:Nat) c u,i<m→(get i).cells[j]? = some c→news[i*k+j]? = some u→cY M u c
def flat(k m:Nat)(val:Nat→Nat→Value):List Value:=(List.range (m*k)).map λq=>val (q / k) (q % k)
def pg(k m:Nat)(val:Nat→Nat→Value):(flat k m val).length=m*k:=by simp [flat]
def ZG{k m:Nat}{val:Nat→Nat→Value}{i j:Nat}(hi:i<m)(hj:j<k):(flat k m val)[i*k+j]? = some (val i j):=by
 have c8:i*k+j<m*k:=by
  have Z:(i+1)*k≤m*k:=Nat.mul_le_mul_right k hi;rw [Nat.add_mul]at Z;omega
 have Z:(i*k+j) / k=i:=by rw [Nat.mul_comm,Nat.mul_add_div (by omega),Nat.div_eq_of_lt hj];omega
 have ae:(i*k+j) % k=j:=by rw [Nat.mul_comm,Nat.mul_add_mod,Nat.mod_eq_of_lt hj]
 simp [flat,c8,Z,ae]
def P7{k m:Nat}{val:Nat→Nat→Value}{q:Nat}{u:Value}(h:(flat k m val)[q]? = some u):q / k<m∧q % k<k∧q=q / k*k+q % k∧u=val (q / k) (q % k):=by
 have aB:q<m*k:=by have:=(List.getElem?_eq_some_iff.1 h).1;rwa [pg]at this
 have hk:0<k:=by
  rcases Nat.eq_zero_or_pos k with rfl|h;· simp at aB
  ·exact h
 refine⟨(Nat.div_lt_iff_lt_mul hk).2 aB,Nat.mod_lt _ hk,(Nat.div_add_mod' q k).symm,?_⟩
 simp [flat,aB]at h;exact h.symm
def Hv{v:Value}{k n:Nat}{get:Nat→V}(h:ct M β v (.v (.bD k n get))):((v = .slice none 0 0∨∃a,v = .slice (some a) 0 0)∧n=0)∨
 ∃(b off cap:Nat) (ev:List Value),v = .slice (some ⟨b,off,none⟩) n cap∧n≤cap∧kx M k n get ev∧∀(q:Nat) u,ev[q]? = some u→M b (off+q)=some u:=by
 rcases q0 h with h|⟨b,off,cap,val,rfl,hc,hk,cM,Z,ak⟩
 ·exact .inl h
 ·refine .inr ⟨b,off,cap,flat k n val,rfl,hc,⟨pg k n val,hk,?_,?_⟩,?_⟩
  ·refine PT λq u hu=>?_
   obtain⟨ae,ar,_,rfl⟩:=P7 hu;exact Z _ _ ae ar
  ·intro i j c u hi hc hu;have hj:j<k:=by rw [←hk i hi];exact(List.getElem?_eq_some_iff.1 hc).1
   rw [ZG hi hj]at hu;cases hu;exact ak i j c hi hc
  ·intro q u hu;obtain⟨ae,ar,aK,rfl⟩:=P7 hu;have:=cM _ _ ae ar
   rwa [Nat.add_assoc,←aK]at this
def uY(k:Nat)(get:Nat→V):kx M k 0 get []:=⟨by simp,by simp,by simp,by simp⟩
def kx.app{k n m:Nat}{get k6:Nat→V}{ev news:List Value}(h:kx M k n get ev)(ae:kx M k m k6 news):kx M k (n+m) (λi=>bif Nat.blt i n then get i else k6 (i-n)) (ev++news):=by
 have hb:∀i,(bif Nat.blt i n then get i else k6 (i-n))=if i<n then get i else k6 (i-n):=by
  intro i;by_cases hi:i<n
  ·have:Nat.blt i n=true:=by simpa using hi
   simp [this,hi]
  ·have:Nat.blt i n=false:=by rw [Bool.eq_false_iff];simpa using hi
   simp [this,hi]
 refine⟨by simp [h.len,ae.len,Nat.add_mul],λi hi=>?_,λu hu=>?_,λi j c u hi hc hu=>?_⟩
 ·rw [hb];split
  ·exact h.hk i (by assumption)
  ·exact ae.hk _ (by omega)
 ·rcases List.mem_append.1 hu with hu|hu
  ·exact h.one u hu
  ·exact ae.one u hu
 ·rw [hb]at hc;by_cases hin:i<n
  ·rw [if_pos hin]at hc;have hj:j<k:=by rw [←h.hk i hin];exact(List.getElem?_eq_some_iff.1 hc).1
   have c8:i*k+j<ev.length:=by
    rw [h.len];have Z:(i+1)*k≤n*k:=Nat.mul_le_mul_right k hin;rw [Nat.add_mul]at Z;omega
   rw [List.getElem?_append_left c8]at hu;exact h.rep i j c u hin hc hu
  ·rw [if_neg hin]at hc;have akw:n*k≤i*k:=Nat.mul_le_mul_right k (by omega)
   rw [List.getElem?_append_right (by rw [h.len];omega),h.len]at hu
   have:i*k+j-n*k=(i-n)*k+j:=by rw [Nat.sub_mul];omega
   rw [this]at hu;exact ae.rep (i-n) j c u (by omega) hc hu
def kx.mono{M':Mem}(cM:M.le M'){k n:Nat}{get:Nat→V}{ev:List Value}(h:kx M k n get ev):kx M' k n get ev:=
 ⟨h.len,h.hk,h.one,λi j c u hi hc hu=>(h.rep i j c u hi hc hu).mono cM⟩
def kx.bD{k n cap b off:Nat}{get:Nat→V}{ev:List Value}(h:kx M k n get ev)(hc:n≤cap)(cM:∀(q:Nat) u,ev[q]? = some u→M b (off+q)=some u):
 cY M (.slice (some ⟨b,off,none⟩) n cap) (.bD k n get):=by
 have hin:∀i j,i<n→j<k→ev[i*k+j]? = some (ev.getD (i*k+j) undef):=λi j hi hj=>Zw h.len hi hj
 refine .bD b off k n cap get (λi j=>ev.getD (i*k+j) undef) hc h.hk (λi j hi hj=>?_) (λi j hi hj=>BO h.one (hin i j hi hj)) (λi j c hi la=>?_)
 ·rw [Nat.add_assoc];exact cM _ _ (hin i j hi hj)
 ·have hj:j<k:=by rw [←h.hk i hi];exact(List.getElem?_eq_some_iff.1 la).1
  exact h.rep i j c _ hi la (hin i j hi hj)
def ZH(t gK ty e:TypeId)(i:TypeInfo)(bS:P.underlying t=some (.slice e))(hi:P.info? e=some i)(b ss kT:Nat)(x:Value)(n:Nat)(news:List Value)(hs:Src P i.size gK x n news w)
 (su:ss+n≤kT) {vs:List Value} {T:TypeId} (bx:w.heap[b]? = some (.cells ⟨vs⟩ T (0,0))) (hle:ss*i.size+news.length≤vs.length):
 (Builtin.append_ #[t,gK] ty #[.slice (some ⟨b,0,none⟩) ss kT,x]).run P w = .ok (.slice (some ⟨b,0,none⟩) (ss+n) kT) (w.setRow b (vs.take (ss*i.size)++news++vs.drop (ss*i.size+news.length)).toArray):=by
 have dH:=run_storeCells_at P b (ss*i.size) T news 0 ⟨vs⟩ w bx (by simpa using hle) hs.one
 simp only [Nat.add_zero]at dH;rcases hs.kind with⟨bf,hk⟩|hk<;>simp [Builtin.append_,run_underlying bS,run_underlying hk,sizeOf,typeInfo,hi,hs.len,su,hs.cells,addr_add,dH]
def ZI(t gK ty e:TypeId)(i:TypeInfo)(bS:P.underlying t=some (.slice e))(hi:P.info? e=some i)(x:Value)(news:List Value)(hs:Src P i.size gK x 0 news w):
 (Builtin.append_ #[t,gK] ty #[.slice none 0 0,x]).run P w = .ok (.slice none 0 0) w:=by
 rcases hs.kind with⟨bf,hk⟩|hk<;>simp [Builtin.append_,run_underlying bS,run_underlying hk,sizeOf,typeInfo,hi,hs.len,hs.cells]
def BR{t gK:TypeId}{a x:Operand}{c:Call}(ax:o.op = .call c)(hc:c.callee = .builtin .append)(eJ:c.args.toList=[a,x])(gj:c.argTypes.toList[0]? = some t)(ns:c.argTypes.toList[1]? = some gK)
 {gT Hw:Value} (ha:(⟨tmps,[]⟩:Act).eval a=gT) (hx:(⟨tmps,[]⟩:Act).eval x=Hw) {v:Value} {w':World}
 (h:∀ty,(Builtin.append_ #[t,gK] ty #[gT,Hw]).run P w = .ok v w'):
 (execOp (Act.eval ⟨tmps,[]⟩) o).run P w = .ok (.value v) w':=by
 have sv:c.args = #[a,x]:=by apply Array.ext';simpa using eJ
 have Hx:∀ty,(Builtin.append_ c.argTypes ty #[gT,Hw]).run P w = .ok v w':=by
  intro ty;have h0:c.argTypes[0]? = some t:=by simpa using gj
  have Z:c.argTypes[1]? = some gK:=by simpa using ns
  have:=h ty
  simp only [Builtin.append_,h0,Z]at this ⊢;exact this
 simp only [execOp,ax,resolve,hc,sv,Sem.run_bind,Sem.run_pure,Result.andThen_ok,invoke,builtin,List.map_toArray,List.map_cons,List.map_nil,ha,hx];simp [Hx]
def ZJ(h:fx P K N M β g tmps w)(hp:fC tmps p)(cu:fb P tt=true){t gK e:TypeId}{aP b8:ew}(af:look tt t=some aP)(hk:aP.k = .bD e)(eC:look tt e=some b8){s:Nat}{x:Operand}{c:Call}
 (ax:o.op = .call c) (hc:c.callee = .builtin .append) (eJ:c.args.toList=[.tmp s,x]) (gj:c.argTypes.toList[0]? = some t) (ns:c.argTypes.toList[1]? = some gK)
 {n m:Nat} {get k6:Nat→V} (hs:rd g.env g.bU p tt o.type (.tmp s)=some (.full b8.size n get)) (xR:1≤b8.bytes) (hm:1≤m)
 {news:List Value} (ky:Src P b8.size gK ((⟨tmps,[]⟩:Act).eval x) m news w) (kz:kx M b8.size m k6 news) (su:(n+m)*b8.bytes≤140737488355328)
 {y:V} (cl:gC (.bD b8.size (n+m) λi=>bif Nat.blt i n then get i else k6 (i-n)) y) {rs:List e'} {aZ:List Prop}:
 Yields P K M β g {e:=some {d:=.v y,own:=some e},gJ:=[s],rs,aZ} o tmps w:=by
 obtain⟨r⟩:=eu cu af;obtain⟨dG⟩:=eu cu eC;have nr:=h.bo.gJ [s];have eD:=d' (ds:=[]) h hp hs;have xS:P.underlying t=some (.slice e):=by rw [r.hd,ob r hk]
 have sw:(⟨tmps,[]⟩:Act).eval (.tmp s)=tmps.getD s undef:=rfl;rw [sw]at eD
 have qi:∃base,tmps.getD s undef = .slice base n n∧cY M (.slice base n n) (.bD b8.size n get):=by
  generalize tmps.getD s undef=gT at eD
  cases eD with
  |full base k n get h=>exact⟨base,rfl,h⟩
 obtain⟨base,ay,f9⟩:=qi;have c8:n<n+m:=by omega
 have sx:∃ev:List Value,kx M b8.size n get ev∧∀w':World,w'.heap=w.heap→(Builtin.firstCells b8.size n (.slice base n n)).run P w' = .ok ev.toArray w':=by
  rcases Hv (ct.v _ _ f9:ct M β _ _) with⟨q5|⟨a,q5⟩,mO⟩|⟨b,off,cap,ev,q5,hcap,holds,hold⟩
  ·simp only [Value.slice.injEq]at q5;obtain⟨rfl,rfl,_⟩:=q5;exact⟨[],uY _ _,λw' _=>run_firstCells_none w' b8.size 0 0 0⟩
  ·simp only [Value.slice.injEq]at q5;obtain⟨rfl,rfl,_⟩:=q5;refine⟨[],uY _ _,λw' mK=>?_⟩
   exact run_firstCells_some (P:=P) w' b8.size 0 a 0 0 [] (by simp) (λj u hj=>by simp at hj)
  ·simp only [Value.slice.injEq]at q5;obtain⟨rfl,_,rfl⟩:=q5;refine⟨ev,holds,λw' mK=>?_⟩
   refine run_firstCells_some (P:=P) w' b8.size n ⟨b,off,none⟩ n n ev (by rw [holds.len]) (λj u hj=>?_)
   rw [addr_add,qa (w:=w) (by rw [mK])]
   exact h.bo.mem _ _ _ (hold j u hj)
 obtain⟨ev,holds,sx⟩:=sx
 have Hy:((n+m:Nat):Int)≤9223372036854775807:=by
  have:n+m≤(n+m)*b8.bytes:=Nat.le_mul_of_pos_right _ xR
  omega
 have Hz:=growslice_fits (need:=n+m) (old:=n) (bytes:=b8.bytes) c8 su;have hcap:=grownCap_ge w (n+m) n e;have qj:=holds.app kz
 have sy:dG.z.cells.size=b8.size:=by
  obtain⟨l5,_⟩:=uQ (M:=M) dG.xJ;have:=dG.Hb
  simp at l5;omega
 generalize sn:(Builtin.zeroCells dG.z.cells (grownCap w (n+m) n e-(n+m))).toList=zs
 have HA:Builtin.zeroCells dG.z.cells (grownCap w (n+m) n e-(n+m))=zs.toArray:=by rw [←sn]
 have HB:zs.length=(grownCap w (n+m) n e-(n+m))*b8.size:=by
  rw [←sn];simp [Builtin.zeroCells,sy]
 have eS:∀ty,(Builtin.append_ #[t,gK] ty #[tmps.getD s undef,(⟨tmps,[]⟩:Act).eval x]).run P w =
  .ok (.slice (some ⟨w.heap.size,0,none⟩) (n+m) (grownCap w (n+m) n e)) (w.drew.alloc (.cells ⟨ev++news++zs⟩ e (0,0))):=by
  intro ty;have:=run_append_grow_src (P:=P) w t gK ty e dG.info dG.z xS dG.hi dG.dE base n n ev (by rw [dG.size];exact sx w.drew rfl) _ m news (by rw [dG.size];exact ky) c8 Hy (by rw [dG.bytes];exact Hz)
  rw [ay,this,HA];simp
 have mK:(w.drew.alloc (.cells ⟨ev++news++zs⟩ e (0,0))).heap=w.heap.push (.cells ⟨ev++news++zs⟩ e (0,0)):=rfl
 have HC:(ev++news++zs).length=grownCap w (n+m) n e*b8.size:=by
  rw [List.length_append,qj.len,HB,←Nat.add_mul];congr 1;omega
 obtain⟨cG,hle⟩:=nr.newRow (vs:=ev++news++zs) (T:=e) (n:=(n+m)*b8.size) mK
 have xM:(ev++news++zs).take ((n+m)*b8.size)=ev++news:=by
  rw [List.take_append_of_le_length (by rw [qj.len];exact Nat.le_refl _),List.take_of_length_le (by rw [qj.len];exact Nat.le_refl _)]
 refine .inl ⟨_,_,BR ax hc eJ gj ns sw rfl eS,_,β,hle,λ_ _ h=>h,λ_ _ h=>.inl h,cG,λe1 he=>?_⟩
 cases he;refine⟨.v _ _ (cl _ _ ((qj.mono hle).bD hcap λq u hu=>?_)),λT l0 aS=>?_⟩
 ·rw [xM];exact BQ hu
 ·cases aS;have:=Hq (l0:=l0) (T:=e) nr (vs:=ev++news++zs) (T':=e) (n:=n+m) (cap:=grownCap w (n+m) n e) rfl mK hcap (by rw [dG.cellsOf,HC];exact Nat.le_refl _)
  rw [dG.cellsOf]at this;exact this
def P8(h:fx P K N M β g tmps w)(hp:fC tmps p)(cu:fb P tt=true){t gK e:TypeId}{aP b8:ew}(af:look tt t=some aP)(hk:aP.k = .bD e)(eC:look tt e=some b8){s:Nat}{x:Operand}{c:Call}
 (ax:o.op = .call c) (hc:c.callee = .builtin .append) (eJ:c.args.toList=[.tmp s,x]) (gj:c.argTypes.toList[0]? = some t) (ns:c.argTypes.toList[1]? = some gK)
 {n m:Nat} {get k6:Nat→V} (hs:rd g.env g.bU p tt o.type (.tmp s)=some (.v (.bD b8.size n get))) {HD:a1} (xT:look g.env s=some HD) (fP:HD.own=some e) (xR:1≤b8.bytes)
 {news:List Value} (ky:Src P b8.size gK ((⟨tmps,[]⟩:Act).eval x) m news w) (kz:kx M b8.size m k6 news) (su:(n+m)*b8.bytes≤140737488355328)
 {y:V} (cl:gC (.bD b8.size (n+m) λi=>bif Nat.blt i n then get i else k6 (i-n)) y) {rs:List e'} {aZ:List Prop}:
 Yields P K M β g {e:=some {d:=.v y,own:=some e},gJ:=[s],rs,aZ} o tmps w:=by
 obtain⟨r⟩:=eu cu af;obtain⟨dG⟩:=eu cu eC;have nr:=h.bo.gJ [s];have eD:=d' (ds:=[]) h hp hs;have xS:P.underlying t=some (.slice e):=by rw [r.hd,ob r hk]
 have sw:(⟨tmps,[]⟩:Act).eval (.tmp s)=tmps.getD s undef:=rfl;rw [sw]at eD;have HE:=h.bo.own (.slot s) HD e xT fP;simp only [cp]at HE;have xU:=h.bo.hand xT fP
 -- lb row ZK is grown
 have P9:∀(base:Option Addr) (kT:Nat) (ev:List Value),tmps.getD s undef = .slice base n kT→kx M b8.size n get ev→
  (∀w':World,w'.heap=w.heap→(Builtin.firstCells b8.size n (.slice base n kT)).run P w' = .ok ev.toArray w')→kT<n+m→
  Yields P K M β g {e:=some {d:=.v y,own:=some e},gJ:=[s],rs,aZ} o tmps w:=by
  intro base kT ev ay holds sx c8
  have Hy:((n+m:Nat):Int)≤9223372036854775807:=by
   have:n+m≤(n+m)*b8.bytes:=Nat.le_mul_of_pos_right _ xR
   omega
  have Hz:=growslice_fits (need:=n+m) (old:=kT) (bytes:=b8.bytes) c8 su;have hcap:=grownCap_ge w (n+m) kT e;have qj:=holds.app kz
  have sy:dG.z.cells.size=b8.size:=by
   obtain⟨l5,_⟩:=uQ (M:=M) dG.xJ;have:=dG.Hb
   simp at l5;omega
  generalize sn:(Builtin.zeroCells dG.z.cells (grownCap w (n+m) kT e-(n+m))).toList=zs
  have HA:Builtin.zeroCells dG.z.cells (grownCap w (n+m) kT e-(n+m))=zs.toArray:=by rw [←sn]
  have HB:zs.length=(grownCap w (n+m) kT e-(n+m))*b8.size:=by
   rw [←sn];simp [Builtin.zeroCells,sy]
  have eS:∀ty,(Builtin.append_ #[t,gK] ty #[tmps.getD s undef,(⟨tmps,[]⟩:Act).eval x]).run P w =
   .ok (.slice (some ⟨w.heap.size,0,none⟩) (n+m) (grownCap w (n+m) kT e)) (w.drew.alloc (.cells ⟨ev++news++zs⟩ e (0,0))):=by
   intro ty;have:=run_append_grow_src (P:=P) w t gK ty e dG.info dG.z xS dG.hi dG.dE base n kT ev (by rw [dG.size];exact sx w.drew rfl) _ m news (by rw [dG.size];exact ky) c8 Hy (by rw [dG.bytes];exact Hz)
   rw [ay,this,HA];simp
  have mK:(w.drew.alloc (.cells ⟨ev++news++zs⟩ e (0,0))).heap=w.heap.push (.cells ⟨ev++news++zs⟩ e (0,0)):=rfl
  have HC:(ev++news++zs).length=grownCap w (n+m) kT e*b8.size:=by
   rw [List.length_append,qj.len,HB,←Nat.add_mul];congr 1;omega
  obtain⟨cG,hle⟩:=nr.newRow (vs:=ev++news++zs) (T:=e) (n:=(n+m)*b8.size) mK
  have xM:(ev++news++zs).take ((n+m)*b8.size)=ev++news:=by
   rw [List.take_append_of_le_length (by rw [qj.len];exact Nat.le_refl _),List.take_of_length_le (by rw [qj.len];exact Nat.le_refl _)]
  refine .inl ⟨_,_,BR ax hc eJ gj ns sw rfl eS,_,β,hle,λ_ _ h=>h,λ_ _ h=>.inl h,cG,λe1 he=>?_⟩
  cases he;refine⟨.v _ _ (cl _ _ ((qj.mono hle).bD hcap λq u hu=>?_)),λT l0 aS=>?_⟩
  ·rw [xM];exact BQ hu
  ·cases aS;have:=Hq (l0:=l0) (T:=e) nr (vs:=ev++news++zs) (T':=e) (n:=n+m) (cap:=grownCap w (n+m) kT e) rfl mK hcap (by rw [dG.cellsOf,HC];exact Nat.le_refl _)
   rw [dG.cellsOf]at this;exact this
 have cw:(tmps.getD s undef = .slice none 0 0∧n=0)∨∃(b off cap:Nat) (ev:List Value),tmps.getD s undef = .slice (some ⟨b,off,none⟩) n cap∧n≤cap∧kx M b8.size n get ev∧∀(q:Nat) u,ev[q]? = some u→M b (off+q)=some u:=by
  rcases Hv eD with⟨ay|⟨a,ay⟩,mO⟩|hx
  ·exact .inl ⟨ay,mO⟩
  ·subst mO;rcases HE with h0|⟨bC,n',P',vs,T',Z,_⟩
   ·exact .inl ⟨h0,rfl⟩
   ·rw [ay]at Z;simp only [Value.slice.injEq,Option.some.injEq]at Z;obtain⟨rfl,rfl,rfl⟩:=Z;exact .inr ⟨bC,0,0,[],ay,Nat.le_refl _,uY _ _,λq u hu=>by simp at hu⟩
  ·exact .inr hx
 rcases cw with⟨ay,mO⟩|⟨b,off,cap,ev,ay,hcap,holds,hold⟩
 ·subst mO;by_cases hm:m=0
  ·subst hm;refine .inl ⟨_,_,BR ax hc eJ gj ns (sw.trans ay) rfl (λty=>ZI (w:=w) t gK ty e dG.info xS dG.hi _ news (by rw [dG.size];exact ky)),M,β,Mem.le_refl _,λ_ _ h=>h,λ_ _ h=>.inl h,nr,λe1 he=>?_⟩
   cases he;exact⟨.v _ _ (cl _ _ (.k5 _ _)),λT l0 _=>G8 l0 T⟩
  ·refine P9 none 0 [] ay (uY _ _) (λw' _=>run_firstCells_none w' b8.size 0 0 0) (by omega)
 ·by_cases c8:cap<n+m
  ·refine P9 (some ⟨b,off,none⟩) cap ev ay holds (λw' mK=>?_) c8
   refine run_firstCells_some (P:=P) w' b8.size n ⟨b,off,none⟩ n cap ev (by rw [holds.len]) (λj u hj=>?_)
   rw [addr_add,qa (w:=w) (by rw [mK])]
   exact h.bo.mem _ _ _ (hold j u hj)
  · -- there is room
   rcases HE with h0|⟨bC,n',P',vs,T',Z,akx,bx,l8,jA,dF,qf⟩
   ·rw [ay]at h0;simp at h0
   ·rw [ay]at Z;simp only [Value.slice.injEq,Option.some.injEq,Addr.mk.injEq,and_true]at Z;obtain⟨⟨rfl,rfl⟩,rfl,rfl⟩:=Z;rw [dG.cellsOf]at l8 jA
    have hlen:n*b8.size+news.length≤vs.length:=by
     rw [kz.len,←Nat.add_mul];exact Nat.le_trans (Nat.mul_le_mul_right _ (by omega)) l8
    have eS:∀ty,(Builtin.append_ #[t,gK] ty #[tmps.getD s undef,(⟨tmps,[]⟩:Act).eval x]).run P w =
     .ok (.slice (some ⟨b,0,none⟩) (n+m) cap) (w.setRow b (vs.take (n*b8.size)++news++vs.drop (n*b8.size+news.length)).toArray):=by
     intro ty;have:=ZH (P:=P) (w:=w) t gK ty e dG.info xS dG.hi b n cap _ m news (by rw [dG.size];exact ky) (by omega) bx (by rw [dG.size];exact hlen)
     rw [dG.size]at this;rw [ay,this]
    generalize P_:vs.take (n*b8.size)++news++vs.drop (n*b8.size+news.length)=vs' at eS
    have ZL:vs'.length=vs.length:=by rw [←P_,xN hlen]
    have so:(w.setRow b vs'.toArray).heap[b]? = some (.cells ⟨vs'⟩ T' (0,0)):=setRow_heap w b _ _ T' (0,0) bx;have hle:M.le (im M b (n*b8.size) news):=Hp jA;have jx:g' (tmps.getD s undef)=some b:=by rw [ay];rfl
    have cG:bH P K (im M b (n*b8.size) news) β {env:=gD [s] g.env,H:=g.H,aW:=g.aW} tmps (w.setRow b vs'.toArray):=by
     refine nr.free b dF (λr cs ak hb=>(xU (.slot s)).unbox b r cs jx ak hb) (λl e1 gF fk q6=>?_) (λbC ea _=>setRow_other w b bC _ ea) hle (λbC o' ea=>?_) (λo' l9 nt=>?_)
     ·by_cases BS:l = .slot s
      ·subst BS;simp only [aI.at,mL,List.mem_singleton,if_true,Option.map_eq_some_iff]at fk;obtain⟨_,_,rfl⟩:=fk;simp at q6
      ·exact(xU (.slot s)).apart l e1 gF b fk q6 BS jx
     ·simp [im,ea]
     ·rw [cell_of_heap so,←P_,Hu hlen];unfold im at nt;split at nt
      ·rename_i ji;rw [if_pos ⟨ji.2.1,ji.2.2⟩];exact nt
      ·rename_i ji;rw [if_neg (λxV=>ji ⟨rfl,xV.1,xV.2⟩)]
       have:=h.bo.mem _ _ _ nt
       rwa [cell_of_heap bx]at this
    refine .inl ⟨_,_,BR ax hc eJ gj ns sw rfl eS,_,β,hle,λ_ _ h=>h,λ_ _ h=>.inl h,cG,λe1 he=>?_⟩
    cases he;refine⟨.v _ _ (cl _ _ (((holds.app kz).mono hle).bD (by omega) λq u hu=>?_)),λT l0 aS=>?_⟩
    ·by_cases aB:q<ev.length
     ·rw [List.getElem?_append_left aB]at hu;exact hle _ _ _ (hold q u hu)
     ·rw [List.getElem?_append_right (by omega)]at hu
      have:=BQ (M:=M) (b:=b) (lo:=n*b8.size) hu
      rw [holds.len]at this;rw [Nat.zero_add];have od:n*b8.size+(q-n*b8.size)=q:=by rw [holds.len]at aB;omega
      rwa [od]at this
    ·cases aS;refine⟨.inr ⟨b,n+m,cap,vs',T',rfl,by omega,so,by rw [dG.cellsOf,ZL];exact l8,λo' jS=>?_,dF,qf⟩,λl e1 gF cS fk q6 _ dc=>?_,λcS r cs dc ak=>?_⟩
     ·rw [dG.cellsOf,Nat.add_mul]at jS;unfold im;rw [if_neg (λxV=>by rw [kz.len]at xV;omega)]
      exact jA o' (by omega)
     ·simp [g']at dc;subst dc
      have BS:l ≠ .slot s:=by
       rintro rfl
       simp only [after,aI.at,mL,List.mem_singleton,if_true,Option.map_eq_some_iff]at fk;obtain⟨_,_,rfl⟩:=fk;simp at q6
      have ZM:cp tmps (w.setRow b vs'.toArray) β l=cp tmps w β l:=by
       cases l with
       |slot uN=>rfl
       |cell r i=>
        have eC:=fk;simp only [after,aI.at]at eC;cases ak:look g.H r with
        |none=>simp [ak]at eC
        |some cs=>
         obtain⟨hz,ZN,n_,fR,BT,_⟩:=h.bo.box r cs ak;have ea:hz≠b:=by rintro rfl;exact(xU (.slot s)).unbox hz r cs jx ak fR
         simp only [cp,fR];rw [qa (w:=w) (setRow_other w b hz _ ea)]
      rw [ZM];exact(xU (.slot s)).apart l e1 gF b fk q6 BS jx
     ·simp [g']at dc;subst dc;exact(xU (.slot s)).unbox b r cs jx ak
def Qa(h:bH P K M β {env:=g.env,H:=g.H,aW:=g.aW} tmps w)(cu:fb P tt=true){gK e2:TypeId}{aP:ew}(af:look tt gK=some aP)(hk:aP.k = .bD e2){v:Value}{k m:Nat}{get:Nat→V}
 (ay:ct M β v (.v (.bD k m get))):∃news,Src P k gK v m news w∧kx M k m get news:=by
 obtain⟨r⟩:=eu cu af;have hu:P.underlying gK=some (.slice e2):=by rw [r.hd,ob r hk]
 rcases Hv ay with⟨rfl|⟨a,rfl⟩,rfl⟩|⟨b,off,cap,ev,rfl,_,kz,hold⟩
 ·exact⟨[],Src.ofNil w hu 0,uY _ _⟩
 ·exact⟨[],Src.ofSlice w hu a 0 0 [] (by simp) (λj u hj=>by simp at hj) (by simp),uY _ _⟩
 ·have hc:∀(j:Nat) u,ev[j]? = some u→w.cell? ((⟨b,off,none⟩:Addr).add j)=some u:=λj u hj=>by rw [addr_add];exact h.mem _ _ _ (hold j u hj)
  exact⟨ev,Src.ofSlice w hu _ m cap ev kz.len hc kz.one,kz⟩
def ZO(cu:fb P tt=true){gK:TypeId}{aP:ew}(af:look tt gK=some aP)(hk:aP.k = .str)(l:al5)(M:Mem):
 ∃news,Src P 1 gK (.string ⟨⟨l⟩⟩) l.length news w∧kx M 1 l.length (λi=>.int .u8 (l.getD i 0).toNat) news:=by
 obtain⟨r⟩:=eu cu af;have hu:P.underlying gK=some .string:=by rw [r.hd,pf r hk]
 refine⟨byteCells ⟨⟨l⟩⟩,Src.ofString w hu ⟨⟨l⟩⟩,⟨by simp [byteCells],λi _=>rfl,λu hu=>?_,λi j c u hi hc hu=>?_⟩⟩
 ·obtain⟨_,_,rfl⟩:=List.mem_map.1 hu;rfl
 ·cases j with
  |succ j=>simp [V.cells]at hc
  |zero=>
   simp [V.cells]at hc;subst hc;simp only [byteCells,Nat.mul_one,Nat.add_zero,List.getElem?_map,Option.map_eq_some_iff]at hu;obtain⟨a,ha,rfl⟩:=hu;have:l[i]? = some a:=ha
   simp [this];exact .int _ _
end
end Go.Ab

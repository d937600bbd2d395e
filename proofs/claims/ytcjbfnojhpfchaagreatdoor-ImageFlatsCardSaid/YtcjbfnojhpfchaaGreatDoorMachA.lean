/- The abstract machine: a step of code over plain data, proved against the model. -/
import Derived.Orders
import Derived.KernelRfl
import Derived.Laws.Sem
import Derived.Laws.Entries
import Derived.ChangeKeysEq
import Derived.Laws.Cells
import Derived.Laws.CopyRow
import Derived.Laws.Slices
import Derived.Laws.Strings2
import Derived.Deep.AppendSrc
set_option linter.all false
namespace Go.Ab
abbrev atW:=List UInt8
inductive V where
 |int (k:IntKind) (n:Int)
 |bool (b:Bool)
 |str (s:atW)
 |agg (cs:List V)
 |bH (k n:Nat) (get:Nat→V)
 |iface (t:TypeId) (x:V)
 |eA |ir |aV
 |any
 |oN (k:Nat) (get:Nat→V)
def V.cells:V→List V
 |.agg cs=>cs
 |x=>[x]
inductive D where
 |v (x:V)
 |ptr (r off:Nat)
 |ct (r off:Nat) (u:TypeId)
 |e6 (x:V)
 |full (k n:Nat) (get:Nat→V)
 |fn (f:FuncId) (fc:List D)
 |agg (cs:List D)
 |cw (cs:List D)
structure a7 where
 d:D
 own:Option TypeId:=none
structure aK where
 env:List (Nat×a7)
 H:List (Nat×List a7)
 aX:Nat
inductive mc where
 |int (k:IntKind) |bool |str
 |ca (cx:List (Nat×TypeId×Nat))
 |bH (e:TypeId) |arr (n:Nat) (e:TypeId) |ptr |a' |oO
deriving DecidableEq
structure eM where
 k:mc
 size:Nat
 bytes:Nat
 zero:List V
 jG:List (Nat×TypeId):=[]
abbrev dI:=List (TypeId×eM)
def look{α:Type}:List (Nat×α)→Nat→Option α
 |[],_=>none
 |(j,x)::l,i=>bif Nat.beq j i then some x else look l i
def del{α:Type}:List (Nat×α)→Nat→List (Nat×α)
 |[],_=>[]
 |(j,x)::l,i=>bif Nat.beq j i then del l i else(j,x)::del l i
def mc.isAgg:mc→Bool
 |.ca _ |.arr _ _=>true
 |_=>false
abbrev Path:=List (Nat×Bool)
def Path.has(p:Path)(x:Nat×Bool):Bool:=p.any λy=>Nat.beq y.1 x.1&&(y.2 == x.2)
def Path.sub(q p:Path):Bool:=q.all p.has
inductive Out where
 |ret (d:D) (own:Option TypeId)
 |bf (x:V)
inductive fu where
 |val (x:V)
 |raw
 |own
 |call (o:Out) (H:Option (List (List a7))) (os:List Nat)
def aJ(i:Int)(n:Nat):Bool:=decide (0≤i)&&decide (i<n)
def hh(i:Int)(n:Nat):Bool:=decide (0≤i)&&decide (i≤n)
def lU(a b:Int)(n:Nat):Bool:=decide (0≤a)&&(decide (a≤b)&&decide (b≤n))
def tl(a:Int):Bool:=!decide (a=0)
def room(n b:Nat):Bool:=decide (n*b≤140737488355328)
def b0(n:Nat):Bool:=decide (n≤9223372036854775807)
structure dk where
 env:List (Nat×a7)
 b5:List (Nat×Path×D)
 H:List (Nat×List a7)
 aX:Nat
 rs:List fu
 a6:List Prop
 ids:List (Nat×Nat):=[]
def MD:Value→Option V
 |.int k n=>some (.int k n)
 |.bool b=>some (.bool b)
 |.string s=>some (.str s.data.toList)
 |.pointer none=>some .eA
 |.nilIface=>some .ir
 |.nilFunc=>some .aV
 |_=>none
def rd(env:List (Nat×a7))(b5:List (Nat×Path×D))(p:Path)(tt:dI)(ty:TypeId):Operand→Option D
 |.tmp t=>match look b5 t with
  |some (q,d)=>bif q.sub p then some d else none
  |none=>(look env t).map (·.d)
 |.const (.slice none 0 0)=>match look tt ty with
  |some {k:=.bH _,zero:=[.bH k 0 get],..}=>some (.v (.bH k 0 get))
  |_=>none
 |.const v=>(MD v).map .v
 |.func f=>some (.fn f [])
 |.global _=>none
def lV(f:TypeId→Operand→Option D):List Operand→List TypeId→Option (List D)
 |[],_=>some []
 |x::xs,t::ts=>match f t x,lV f xs ts with
  |some d,some ds=>some (d::ds)
  |_,_=>none
 |_::_,[]=>none
def Bv:List D→Option (List V)
 |[]=>some []
 |.v x::l=>(Bv l).map (x :: ·)
 |_::_=>none
def qJ(cs:List D):D:=match Bv cs with|some vs=>.v (.agg vs)|none=>.agg cs
def cellsD:D→List D
 |.v x=>x.cells.map .v
 |.agg cs=>cs
 |d=>[d]
def tm:List D→Bool
 |[]=>true
 |.ct _ _ _::_=>false
 |_::l=>tm l
def r8:D→Bool
 |.cw _=>true
 |_=>false
def setAt{α:Type}:List α→Nat→List α→List α
 |cs,0,[]=>cs
 |_::cs,0,x::xs=>x::setAt cs 0 xs
 |c::cs,n+1,xs=>c::setAt cs n xs
 |[],_,_=>[]
def r9(place:Nat→Option (Nat×Nat))(cells:List D):List (Nat×D)→Option (List D)
 |[]=>some cells
 |(i,d)::rest=>match place i with
  |none=>none
  |some (off,size)=>
   bif Nat.beq (cellsD d).length size&&Nat.ble (off+size) cells.length && !r8 d then r9 place (setAt cells off (cellsD d)) rest else none
abbrev Mem:=Nat→Nat→Option Value
def Mem.le(M M':Mem):Prop:=∀b o v,M b o=some v→M' b o=some v
def Mem.le_refl(M:Mem):M.le M:=λ_ _ _ h=>h
def Mem.le_trans{A B C:Mem}(h:A.le B)(cM:B.le C):A.le C:=λb o v e=>cM b o v (h b o v e)
inductive de(M:Mem):Value→V→Prop where
 |int (k:IntKind) (n:Int):de M (.int k n) (.int k n)
 |bool (b:Bool):de M (.bool b) (.bool b)
 |str (l:atW):de M (.string ⟨⟨l⟩⟩) (.str l)
 |agg (vs:List Value) (cs:List V) (hn:vs.length=cs.length) (Z:∀v,v∈vs→v.oneCell'=true)
  (h:∀(i:Nat) v c,vs[i]? = some v→cs[i]? = some c→de M v c):de M (.agg ⟨vs⟩) (.agg cs)
 |md (k:Nat) (get:Nat→V):de M (.slice none 0 0) (.bH k 0 get)
 |pC (a:Addr) (k:Nat) (get:Nat→V):de M (.slice (some a) 0 0) (.bH k 0 get)
 |bH (b off k n cap:Nat) (get:Nat→V) (val:Nat→Nat→Value) (hc:n≤cap)
  (hk:∀i,i<n→(get i).cells.length=k)
  (cT:∀i j,i<n→j<k→M b (off+i*k+j)=some (val i j)) (Z:∀i j,i<n→j<k→(val i j).oneCell'=true)
  (h:∀(i j:Nat) c,i<n→(get i).cells[j]? = some c→de M (val i j) c):de M (.slice (some ⟨b,off,none⟩) n cap) (.bH k n get)
 |iface (t:TypeId) (v:Value) (x:V) (h:de M v x):de M (.iface t v) (.iface t x)
 |eA:de M (.pointer none) .eA
 |ir:de M .nilIface .ir
 |aV:de M .nilFunc .aV
 |any (v:Value) (Z:v.oneCell'=true):de M v .any
 |oN (k:Nat) (get:Nat→V):de M (.slice none 0 0) (.oN k get)
def hA(raw x:V):Prop:=∀(M:Mem) (v:Value),de M v raw→de M v x
def pD(k:IntKind)(a b:Int):Int:=k.wrap (BitVec.ofInt k.bits a &&& BitVec.ofInt k.bits b).toNat
def qK(k:IntKind)(a b:Int):Int:=k.wrap (BitVec.ofInt k.bits a |||BitVec.ofInt k.bits b).toNat
def mP(k:IntKind)(a b:Int):Int:=k.wrap (BitVec.ofInt k.bits a ^^^ BitVec.ofInt k.bits b).toNat
def ME(k:IntKind)(a b:Int):Int:=k.wrap (BitVec.ofInt k.bits a &&& ~~~BitVec.ofInt k.bits b).toNat
def oP(k:IntKind)(x y:Int):Int:=k.wrap (x*2 ^ min y.toNat k.bits)
def nj(k:IntKind)(x y:Int):Int:=x.fdiv (2 ^ min y.toNat k.bits)
def n3(y:Int):Bool:=decide (0≤y)
def MF(op:BinOp)(k:IntKind)(x y:Int):Option (V×List Prop):=
 match op with
 |.shl=>some (.int k (oP k x y),[n3 y=true])
 |.shr=>some (.int k (nj k x y),[n3 y=true])
 |_=>none
def MG(op:BinOp)(k:IntKind)(a b:Int):Option (V×List Prop):=
 match op with
 |.add=>some (.int k (k.wrap (a+b)),[])
 |.sub=>some (.int k (k.wrap (a-b)),[])
 |.mul=>some (.int k (k.wrap (a*b)),[])
 |.quo=>some (.int k (k.wrap (a.tdiv b)),[tl b=true])
 |.rem=>some (.int k (a.tmod b),[tl b=true])
 |.eql=>some (.bool (decide (a=b)),[])
 |.neq=>some (.bool (!decide (a=b)),[])
 |.lss=>some (.bool (decide (a<b)),[])
 |.leq=>some (.bool (decide (a≤b)),[])
 |.gtr=>some (.bool (decide (b<a)),[])
 |.geq=>some (.bool (decide (b≤a)),[])
 |.and=>some (.int k (pD k a b),[])
 |.or=>some (.int k (qK k a b),[])
 |.xor=>some (.int k (mP k a b),[])
 |.andNot=>some (.int k (ME k a b),[])
 |_=>none
def MH(op:BinOp)(a b:atW):Option (V×List Prop):=
 match op with
 |.add=>some (.str (a++b),[b0 (a.length+b.length)=true])
 |.eql=>some (.bool (decide (a=b)),[])
 |.neq=>some (.bool (!decide (a=b)),[])
 |.lss=>some (.bool (Op.bytesLess a b),[])
 |.leq=>some (.bool (Op.bytesLess a b||decide (a=b)),[])
 |.gtr=>some (.bool (!(Op.bytesLess a b||decide (a=b))),[])
 |.geq=>some (.bool (!Op.bytesLess a b),[])
 |_=>none
def isNil:mc→D→Option Bool
 |.ptr,.v .eA=>some true
 |.ptr,.ptr _ _=>some false
 |.ptr,.e6 _=>some false
 |.oO,.v .ir=>some true
 |.oO,.v (.iface _ _)=>some false
 |.a',.v .aV=>some true
 |.a',.fn _ _=>some false
 |_,_=>none
def FY:mc→D→Bool
 |.ptr,.v .eA=>true
 |.oO,.v .ir=>true
 |.a',.v .aV=>true
 |_,_=>false
def jf:List (Option mc)→List V→List V→Option Bool
 |[],[],[]=>some true
 |some (.int _)::ks,.int k a::l,.int k' b::m=>bif decide (k=k') then(jf ks l m).map λr=>decide (a=b)&&r else none
 |some .str::ks,.str a::l,.str b::m=>(jf ks l m).map λr=>decide (a=b)&&r
 |some .bool::ks,.bool a::l,.bool b::m=>(jf ks l m).map λr=>(a == b)&&r
 |_,_,_=>none
def mQ(tt:dI):Nat→List (Nat×TypeId×Nat)→List (Option mc)
 | 0,cx=>cx.map λf=>(look tt f.2.1).map (·.k)
 |d+1,cx=>cx.flatMap λf=>match look tt f.2.1 with
  |some {k:=.ca gs,..}=>mQ tt d gs
  |o=>[o.map (·.k)]
def Vf(k:Option mc)(ad7:Bool)(op:BinOp)(a b:D):Option (V×List Prop):=
 match a,b with
 |.v (.int k x),.v (.int k' y)=>match MF op k x y with
  |some z=>some z
  |none=>bif decide (k=k')then MG op k x y else none
 |.v (.str x),.v (.str y)=>MH op x y
 |.v (.bool x),.v (.bool y)=>match k,op with
  |some .bool,.eql=>some (.bool (x == y),[])
  |some .bool,.neq=>some (.bool (!(x == y)),[])
  |_,_=>none
 |a,b=>match k with
  |some k=>bif FY k b&&ad7 then match isNil k a,op with
   |some t,.eql=>some (.bool t,[])
   |some t,.neq=>some (.bool (!t),[])
   |_,_=>none
   else none
  |none=>none
def isConst:Operand→Bool
 |.const _=>true
 |_=>false
def Vg(op:UnOp)(a:V):Option V:=
 match op,a with
 |.not,.bool b=>some (.bool (!b))
 |.neg,.int k n=>some (.int k (k.wrap (0-n)))
 |_,_=>none
def Bw(env:List (Nat×a7))(b5:List (Nat×Path×D))(t:Nat):Option Bool:=
 match look b5 t with
 |some (_,.v (.bool b))=>some b
 |some _=>none
 |none=>match look env t with
  |some ⟨.v (.bool b),_⟩=>some b
  |_=>none
def under(g:dk):Path→Prop→Prop
 |[],q=>q
 |(t,w)::p,q=>match Bw g.env g.b5 t with
  |some b=>b=w→under g p q
  |none=>under g p q
structure lm where
 e:Option a7
 hJ:List Nat:=[]
 hs:List (Nat×List a7):=[]
 eP:Nat:=0
 rs:List fu
 a6:List Prop:=[]
def pE(g:dk):Operand→Option TypeId
 |.tmp t=>(look g.env t).bind (·.own)
 |_=>none
def ad8(t:Nat)(o:Oper):Bool:=
 match o.op with
 |.assign (.tmp u)=>Nat.beq u t
 |.store _ _ (.tmp u)=>Nat.beq u t
 |.call {callee:=.builtin .append,args,..}=>match args.toList with
  |.tmp u::_=>Nat.beq u t
  |_=>false
 |_=>false
def ad9(ops:List Oper)(dst:Option Nat):Bool:=
 match dst with
 |some t=>ops.any (ad8 t)
 |none=>false
def refs:D→List Nat
 |.ptr r _=>[r]
 |.ct r _ _=>[r]
 |.fn _ fc=>fc.flatMap fun |.ptr r _=>[r] |_=>[]
 |.agg cs=>cs.flatMap fun |.ptr r _=>[r] |.ct r _ _=>[r] |.fn _ fc=>(fc.flatMap fun |.ptr r _=>[r] |_=>[]) |_=>[]
 |_=>[]
def idx(l:List Nat)(r:Nat):Option Nat:=
 match l with
 |[]=>none
 |x::l=>bif Nat.beq x r then some 0 else(idx l r).map (· + 1)
def dedup:List Nat→List Nat
 |[]=>[]
 |x::l=>bif (dedup l).any (Nat.beq x)then dedup l else x::dedup l
mutual
def eB(f:Nat→Option Nat):D→Option D
 |.v x=>some (.v x)
 |.ptr r off=>(f r).map (.ptr · off)
 |.ct r off u=>(f r).map (.ct · off u)
 |.e6 x=>some (.e6 x)
 |.full k n get=>some (.full k n get)
 |.fn g fc=>(ln f fc).map (.fn g)
 |.agg cs=>(ln f cs).map .agg
 |.cw cs=>(ln f cs).map .cw
def ln(f:Nat→Option Nat):List D→Option (List D)
 |[]=>some []
 |d::l=>match eB f d,ln f l with
  |some dE,some cG=>some (dE::cG)
  |_,_=>none
end
def FZ(f:Nat→Option Nat)(e:a7):Option a7:=(eB f e.d).map λd=>{d,own:=e.own}
def nk(f:Nat→Option Nat):List a7→Option (List a7)
 |[]=>some []
 |e::l=>match FZ f e,nk f l with
  |some bg,some cG=>some (bg::cG)
  |_,_=>none
def j'(f:Nat→Option Nat):List (List a7)→Option (List (List a7))
 |[]=>some []
 |b::l=>match nk f b,j' f l with
  |some bG,some cG=>some (bG::cG)
  |_,_=>none
def boxes(H:List (Nat×List a7)):List Nat→Option (List (List a7))
 |[]=>some []
 |r::l=>match look H r,boxes H l with
  |some b,some bs=>some (b::bs)
  |_,_=>none
def cQ{α:Type}:Nat→List α→List (Nat×α)
 |_,[]=>[]
 |n,x::l=>(n,x)::cQ (n+1) l
def lp:List Nat→List (List a7)→List (Nat×List a7)
 |r::l,b::bs=>(r,b)::lp l bs
 |_,_=>[]
def mapM'{α β:Type}(f:α→Option β):List α→Option (List β)
 |[]=>some []
 |x::l=>match f x,mapM' f l with
  |some y,some ys=>some (y::ys)
  |_,_=>none
structure gD where
 call:FuncId→List D→List (Nat×TypeId)→List (List a7)→Out→List (List a7)→Prop
 eq:TypeId→Bool
inductive n4 where
 |go (e:lm)
 |bf (x:V) (hs:List (Nat×List a7)) (a6:List Prop)
def oQ(H:List (Nat×List a7)):Nat→List Nat→List Nat
 | 0,l=>l
 |n+1,l=>oQ H n (dedup (l++l.flatMap λr=>((look H r).getD []).flatMap λe=>refs e.d))
def nl:List Nat→Bool
 |[]=>true
 |x::l=>!l.any (Nat.beq x)&&nl l
def handed(tt:dI)(g:dk)(xs:List Operand)(ts:List TypeId):List Nat→Option (List (Nat×Option Nat×TypeId))
 |[]=>some []
 |i::os=>match xs[i]?,handed tt g xs ts os with
  |some (.tmp t),some l=>match look g.env t with
   |some ⟨_,some e⟩=>bif (look g.b5 t).isNone&&l.all (λx=>!(match x.2.1 with |some u=>Nat.beq u t |none=>false) && !Nat.beq x.1 i)then some ((i,some t,e)::l)else none
   |_=>none
  |some (.const (.slice none 0 0)),some l=>match(ts[i]?).bind (look tt) with
   |some {k:=.bH e,..}=>bif l.all (λx=>!Nat.beq x.1 i)then some ((i,none,e)::l)else none
   |_=>none
  |_,_=>none
def xL(cd:gD)(tt:dI)(g:dk)(p:Path)(xs:List Operand)(ts:List TypeId)(f:FuncId)(args:List D):Option n4:=
 let ρ:=oQ g.H 2 (dedup (args.flatMap refs))
 match g.rs with
 |.call out cJ os::rs=>
  match ln (idx ρ) args,(boxes g.H ρ).bind (j' (idx ρ)),handed tt g xs ts os with
  |some jH,some H1,some hd=>bif !nl ρ || !(p.isEmpty||os.isEmpty)then none else
   let eo:=hd.map λx=>(x.1,x.2.2)
   let hJ:=hd.filterMap λx=>x.2.1
   match out,cJ with
   |.ret d own,none=>(eB (λj=>ρ[j]?) d).map λdE=>.go {e:=some {d:=dE,own},hJ,rs,a6:=[cd.call f jH eo H1 out H1]}
   |.ret d own,some cJ=>match eB (λj=>ρ[j]?) d,j' (λj=>ρ[j]?) cJ with
    |some dE,some iO=>bif Nat.beq cJ.length ρ.length then some (.go {e:=some {d:=dE,own},hJ,hs:=lp ρ iO,rs,a6:=[cd.call f jH eo H1 out cJ]})else none
    |_,_=>none
   |.bf x,none=>some (.bf x [] [cd.call f jH eo H1 out H1])
   |.bf x,some cJ=>match j' (λj=>ρ[j]?) cJ with
    |some iO=>bif Nat.beq cJ.length ρ.length then some (.bf x (lp ρ iO) [cd.call f jH eo H1 out cJ])else none
    |none=>none
  |_,_,_=>none
 |_=>none
def F0:V→Option TypeId→Option TypeId
 |.bH _ _ _,t=>t
 |_,_=>none
def Vh(tt:dI):Nat→List (Nat×TypeId×Nat)→Nat→Option TypeId
 | 0,_,_=>none
 |d+1,cx,j=>match cx.find? λf=>Nat.ble f.1 j&&Nat.blt j (f.1+f.2.2) with
  |some f=>match look tt f.2.1 with
   |some {k:=.bH e,..}=>some e
   |some {k:=.ca gs,..}=>Vh tt d gs (j-f.1)
   |_=>none
  |none=>none
def MI(tt:dI):mc→Nat→Option TypeId
 |.ca cx,j=>Vh tt 5 cx j
 |.bH e,0=>some e
 |_,_=>none
def Vi(tt:dI)(jG:List (Nat×TypeId))(k:mc)(i:Nat):Option TypeId:=
 match MI tt k i with
 |some e=>some e
 |none=>(jG.find? λy=>Nat.beq (y.1+1) i).bind λy=>match look tt y.2 with |some {k,..}=>MI tt k 1 |none=>none
def Bx(jG:List (Nat×TypeId))(id i:Nat)(x:V):D:=
 match x with
 |.eA=>match jG.find? λy=>Nat.beq y.1 i with
  |some y=>.ct id i y.2
  |none=>.v x
 |_=>.v x
def F1(tt:dI)(t:TypeId)(id:Nat):Option (List a7):=
 match look tt t with
 |some {k:=.bH e,zero,..}=>some (zero.map λx=>{d:=.v x,own:=F0 x (some e)})
 |some {k:=.ca cx,zero,jG,..}=>some ((cQ 0 zero).map fun(i,x)=>
  {d:=Bx jG id i x,own:=F0 x (Vi tt jG (.ca cx) i)})
 |some {zero,..}=>some (zero.map λx=>{d:=.v x})
 |none=>none
def V.isAgg:V→Bool
 |.agg _=>true
 |_=>false
def MJ:V→V
 |.bH k 0 g=>.oN k g
 |x=>x
def qL(ty:Nat→Option TypeId):Nat→List a7→List a7
 |_,[]=>[]
 |i,e::l=>(match e.d with
  |.v (.oN k g)=>{d:=.v (.bH k 0 g),own:=ty i}
  |_=>e)::qL ty (i+1) l
def elems(isAgg:Bool)(size:Nat):Nat→List (Nat×D)→Option (List V)
 |_,[]=>some []
 |i,(j,.v x)::b6=>bif Nat.beq i j&&Nat.beq x.cells.length size&&(x.isAgg == isAgg) then(elems isAgg size (i+1) b6).map (x :: ·)else none
 |_,_=>none
def r'(tt:dI)(t:TypeId)(i:Nat):TypeId:=
 match look tt t with
 |some {k:=.ca cx,..}=>match cx[i]? with
  |some f=>f.2.1
  |none=>0
 |some {k:=.arr _ e,..}=>e
 |some {k:=.bH e,..}=>e
 |_=>0
def xM(tt:dI)(aS:eM)(id i:Nat)(d:D):a7:=
 match d with
 |.v .eA=>{d:=Bx aS.jG id i .eA}
 |.v (.oN k g)=>match Vi tt aS.jG aS.k i with
  |some T=>{d:=.v (.bH k 0 g),own:=some T}
  |none=>{d}
 |d=>{d}
def qM(tt:dI)(aS:eM)(id:Nat):Nat→List D→List a7
 |_,[]=>[]
 |i,d::l=>xM tt aS id i d::qM tt aS id (i+1) l
def n5(g:dk)(o:Oper):Option (Nat×Nat):=
 match o.dst.bind (look g.ids) with
 |some id=>bif (look g.H id).isNone&&Nat.blt id g.aX then some (id,0)else none
 |none=>some (g.aX,1)
def step1(cd:gD)(tt:dI)(ops:List Oper)(g:dk)(p:Path)(o:Oper):Option n4:=
 let r:=rd g.env g.b5 p tt o.type
 let val (d:Option D):Option n4:=d.map λd=>.go {e:=some {d},rs:=g.rs}
 let By (x:Option (V×List Prop)):Option n4:=x.map fun(x,a6)=>.go {e:=some {d:=.v x},rs:=g.rs,a6}
 let F2 (raw:V) (mk:V→D) (a6:List Prop):Option n4:=match g.rs with
  |.val x::rs=>some (.go {e:=some {d:=mk x},rs,a6:=hA raw x::a6})
  |.raw::rs=>some (.go {e:=some {d:=mk raw},rs,a6:=a6})
  |_=>none
 match o.op with
 |.move x=>match r x with
  |some d=>match pE g x,x with
   |some e,.tmp t=>match g.rs with
    |.own::rs=>bif p.isEmpty then some (.go {e:=some {d,own:=some e},hJ:=[t],rs})else none
    |_=>bif p.isEmpty&&ad9 ops o.dst then some (.go {e:=some {d,own:=some e},hJ:=[t],rs:=g.rs})else some (.go {e:=some {d},rs:=g.rs})
   |_,_=>some (.go {e:=some {d},rs:=g.rs})
  |none=>none
 |.assign x=>match r x with
  |some d=>match pE g x,x with
   |some e,.tmp t=>bif p.isEmpty then some (.go {e:=some {d,own:=some e},hJ:=[t],rs:=g.rs})else some (.go {e:=some {d},rs:=g.rs})
   |_,.const (.slice none 0 0)=>match look tt o.type with
    |some {k:=.bH e,..}=>bif p.isEmpty then some (.go {e:=some {d,own:=some e},rs:=g.rs})else some (.go {e:=some {d},rs:=g.rs})
    |_=>none
   |_,_=>some (.go {e:=some {d},rs:=g.rs})
  |none=>none
 |.pick (.tmp c) a b=>match r (.tmp c),rd g.env g.b5 ((c,true)::p) tt o.type a,rd g.env g.b5 ((c,false)::p) tt o.type b with
  |some (.v (.bool tn)),some (.v (.bool Bz)),some (.v (.bool u4))=>val (some (.v (.bool (bif tn then Bz else u4))))
  |_,_,_=>none
 |.alloc t=>match n5 g o with
  |some (id,eP)=>match F1 tt t id with
   |some z=>some (.go {e:=some {d:=.ptr id 0},hs:=[(id,z)],eP,rs:=g.rs})
   |none=>none
  |none=>none
 |.box t x=>match r x,n5 g o,look tt t with
  |some d,some (id,eP),some aS=>bif r8 d || !tm (cellsD d) || !Nat.beq (cellsD d).length aS.size then none else some (.go {e:=some {d:=.ptr id 0},hs:=[(id,qM tt aS id 0 (cellsD d))],eP,rs:=g.rs})
  |_,_,_=>none
 |.build t parts=>match look tt t,mapM' (fun(i,x)=>(rd g.env g.b5 p tt (r' tt t i) x).map λd=>(i,d)) parts.toList with
  |some {k:=.ca cx,zero,..},some b6=>bif cx.all (λf=>Nat.ble 1 f.2.2)then match g.rs with
   |.own::rs=>((r9 (λi=>(cx[i]?).map λf=>(f.1,f.2.2)) (zero.map λx=>.v (MJ x)) b6).map qJ).map λd=>.go {e:=some {d},rs}
   |_=>val ((r9 (λi=>(cx[i]?).map λf=>(f.1,f.2.2)) (zero.map .v) b6).map qJ)
   else none
  |some {k:=.arr _ e,zero,..},some b6=>match look tt e with
   |some {size,..}=>val ((r9 (λi=>some (i*size,size)) (zero.map .v) b6).map qJ)
   |none=>none
  |_,_=>none
 |.buildSlice t len parts=>match look tt t,mapM' (fun(i,x)=>(rd g.env g.b5 p tt (r' tt t i) x).map λd=>(i,d)) parts.toList with
  |some {k:=.bH e,..},some b6=>match look tt e with
   |some {k,size,..}=>
    match elems k.isAgg size 0 b6,g.rs with
    |some xs,.val x::rs=>bif Nat.ble (len*size) 16777216&&Nat.ble 1 size&&Nat.beq xs.length len then some (.go {e:=some {d:=.v x,own:=some e},rs,a6:=[hA (.bH size len λi=>xs.getD i .eA) x]})else none
    |_,_=>none
   |none=>none
  |_,_=>none
 |.load t a=>match r a,look tt t with
  |some (
   .ptr q off),some aS=>match look g.H q with
   |some cs=>bif aS.k.isAgg then
    bif Nat.ble (off+aS.size) cs.length then val (some (qJ (((cs.drop off).take aS.size).map (·.d))))else none
    else match cs[off]? with
     |some e=>match e.own,g.rs with
      |some _,.own::rs=>bif p.isEmpty then some (.go {e:=some e,hs:=[(q,setAt cs off [{d:=e.d}])],rs})else none
      |_,_=>val (some e.d)
     |none=>none
   |none=>none
  |some (.e6 x),some aS=>bif x.isAgg == aS.k.isAgg&&Nat.beq x.cells.length aS.size then val (some (.v x))else none
  |_,_=>none
 |.store t a x=>match r a,rd g.env g.b5 p tt t x,look tt t with
  |some (
   .ptr q off),some d,some aS=>match look g.H q with
   |some cs=>bif Nat.beq (cellsD d).length aS.size&&Nat.ble (off+aS.size) cs.length&&p.isEmpty && !r8 d&&tm (cellsD d) then
    match x,pE g x,d with
    |.tmp u,some s,.v (.bH ..)=>some (.go {e:=none,hJ:=[u],hs:=[(q,setAt cs off [{d,own:=some s}])],rs:=g.rs})
    |.const (.slice none 0 0),_,_=>match aS.k with
     |.bH s=>some (.go {e:=none,hs:=[(q,setAt cs off [{d,own:=some s}])],rs:=g.rs})
     |_=>none
    |_,_,_=>some (.go {e:=none,hs:=[(q,qL (λi=>MI tt aS.k (i-off)) 0 (setAt cs off ((cellsD d).map λd=>{d})))],rs:=g.rs})
    else none
   |none=>none
  |_,_,_=>none
 |.nilCheck x=>match r x with
  |some (.ptr q off)=>val (some (.ptr q off))
  |some (.e6 x)=>val (some (.e6 x))
  |_=>none
 |.binOp op t x y _=>match r x,r y with
  |some (.v (.agg xs)),some (.v (.agg ys))=>match look tt t with
   |some {k:=.ca cx,..}=>bif cd.eq t then match op,jf (mQ tt 4 cx) xs ys with
    |.eql,some r=>val (some (.v (.bool r)))
    |.neq,some r=>val (some (.v (.bool (!r))))
    |_,_=>none
    else none
   |_=>none
  |some a,some b=>By (Vf ((look tt t).map (·.k)) (isConst y) op a b)
  |_,_=>none
 |.unOp op _ x=>match r x with
  |some (.v a)=>val ((Vg op a).map .v)
  |_=>none
 |.convert s t x=>match look tt s,look tt t,r x with
  |some {k:=.int _,..},some {k:=.int k,..},some (.v (.int _ n))=>val (some (.v (.int k (k.wrap n))))
  |some {k:=.str,..},some {k:=.str,..},some (.v (.str s))=>val (some (.v (.str s)))
  |some {k:=.bH e,..},some {k:=.str,..},some (.v (.bH 1 n get))=>match look tt e,g.rs with
   |some {k:=.int .u8,..},.val (.str l)::rs=>some (.go {e:=some {d:=.v (.str l)},rs,a6:=[l.length=n∧∀i,i<n→get i = .int .u8 ((l.getD i 0).toNat:Int)]})
   |_,_=>none
  |_,_,_=>none
 |.makeInterface t x=>match r x,look tt t with
  |some (.v x),some {k,..}=>match k with
   |.oO=>none
   |_=>val (some (.v (.iface t x)))
  |_,_=>none
 |.makeFunc (.func f) first fc=>bif first.isEmpty then(mapM' r fc.toList).map λds=>.go {e:=some {d:=.fn f ds},rs:=g.rs}else none
 |.slice t x lo hi j_=>match j_,look tt t with
  |none,some {k:=.str,..}=>match r x,lo.map r,hi.map r with
   |some (.v (.str s)),none,none=>val (some (.v (.str s)))
   |some (.v (.str s)),some (some (.v (.int _ a))),none=>By (some (.str (s.drop a.toNat),[hh a s.length=true]))
   |some (.v (.str s)),none,some (some (.v (.int _ b)))=>By (some (.str (s.take b.toNat),[hh b s.length=true]))
   |some (.v (.str s)),some (some (.v (.int _ a))),some (some (.v (.int _ b)))=>By (some (.str ((s.take b.toNat).drop a.toNat),[lU a b s.length=true]))
   |_,_,_=>none
  |none,some {k:=.bH e,..}=>match look tt e,r x,lo.map r,hi.map r with
   |some {size,..},some (.v (.bH k n get)),some (some (.v (.int _ a))),none=>bif Nat.beq k size then F2 (.bH k (n-a.toNat) λi=>get (a.toNat+i)) .v [hh a n=true]else none
   |some {size,..},some (.v (.bH k n get)),none,some (some (.v (.int _ b)))=>bif Nat.beq k size then F2 (.bH k b.toNat get) .v [hh b n=true]else none
   |some {size,..},some (.v (.bH k n get)),some (some (.v (.int _ a))),some (some (.v (.int _ b)))=>bif Nat.beq k size then F2 (.bH k (b.toNat-a.toNat) λi=>get (a.toNat+i)) .v [lU a b n=true]else none
   |some {size,..},some (.v (.bH k n get)),none,none=>bif Nat.beq k size then val (some (.v (.bH k n get)))else none
   |_,_,_,_=>none
  |some _,some {k:=.bH e,..}=>match look tt e,r x,lo,hi.map r,j_.map r with
   |some {size,..},some (.v (.bH k n get)),none,some (some (.v (.int _ b))),some (some (.v (.int _ c)))=>bif Nat.beq k size then some (.go {e:=some {d:=.full k b.toNat get},rs:=g.rs,a6:=[b=c,hh b n=true]})else none
   |_,_,_,_,_=>none
  |_,_=>none
 |.fieldAddr s x f=>match r x,look tt s with
  |some (.ptr q off),some {k:=.ca cx,..}=>match cx[f]? with
   |some (dL,_,fV)=>bif Nat.ble 1 fV then val (some (.ptr q (off+dL)))else none
   |none=>none
  |some (
   .e6 (.agg cs)),some {k:=.ca cx,..}=>match cx[f]? with
   |some (
    dL,h6,fV)=>match look tt h6 with
    |some aS=>bif Nat.ble 1 fV&&Nat.ble (dL+fV) cs.length then
     bif aS.k.isAgg then val (some (.e6 (.agg ((cs.drop dL).take fV))))else bif Nat.beq fV 1 then match cs[dL]? with
      |some c=>bif c.isAgg then none else val (some (.e6 c))
      |none=>none
     else none
     else none
    |none=>none
   |none=>none
  |_,_=>none
 |.field s x f=>match r x,look tt s with
  |some (
   .v (.agg cs)),some {k:=.ca cx,..}=>match cx[f]? with
   |some (dL,h6,fV)=>match look tt h6 with
    |some aS=>bif Nat.ble (dL+fV) cs.length then bif aS.k.isAgg then val (some (.v (.agg ((cs.drop dL).take fV))))else match cs[dL]? with
     |some c=>val (some (.v c))
     |none=>none
     else none
    |none=>none
   |none=>none
  |some (.agg cs),some {k:=.ca cx,..}=>match cx[f]? with
   |some (dL,h6,fV)=>match look tt h6,cs[dL]? with
    |some aS,some c=>bif aS.k.isAgg || !Nat.beq fV 1||r8 c then none else val (some c)
    |_,_=>none
   |none=>none
  |_,_=>none
 |.indexAddr t x i=>match r x,r i,look tt t with
  |some (.v (.bH k n get)),some (.v (.int _ j)),some {k:=.bH e,..}=>match look tt e with
   |some {size,..}=>bif Nat.beq k size&&Nat.ble 1 size then F2 (get j.toNat) .e6 [aJ j n=true]else none
   |none=>none
  |_,_,_=>none
 |.index t x i=>match r x,r i,look tt t with
  |some (.v (.str s)),some (.v (.int _ j)),some {k:=.str,..}=>By (some (.int .u8 (s.getD j.toNat 0).toNat,[aJ j s.length=true]))
  |_,_,_=>none
 |.typeAssert x _ t ok=>match r x,look tt t with
  |some (.v (.iface bS y)),some {k,..}=>match k with
   |.oO=>none
   |_=>bif Nat.beq bS t then val (some (bif ok then .cw [.v y,.v (.bool true)]else .v y))else none
  |_,_=>none
 |.extract x i=>match r x with
  |some (.cw ds)=>val ds[i]?
  |_=>none
 |.call c=>match c.callee with
  |.value x=>match r x,lV (rd g.env g.b5 p tt) c.args.toList c.argTypes.toList with
   |some (.fn f fc),some ds=>xL cd tt g p c.args.toList c.argTypes.toList f (ds++fc)
   |_,_=>none
  |.builtin .len=>match mapM' (λy=>r y) c.args.toList,(c.argTypes.toList[0]?).bind (look tt) with
   |some [.v (.str s)],some {k:=.str,..}=>val (some (.v (.int .i64 s.length)))
   |some [.v (.bH _ n _)],some {k:=.bH _,..}=>val (some (.v (.int .i64 n)))
   |_,_=>none
  |.builtin .append=>match c.args.toList,(c.argTypes.toList[0]?).bind (look tt),(c.argTypes.toList[1]?).bind (look tt) with
   |[.tmp t,x],some {k:=.bH e,..},some t2=>match look tt e,r (.tmp t),r x,look g.env t,g.rs with
    |some cf,some (.v (.bH k n get)),some d2,some ⟨_,some bg⟩,.val y::rs=>
     bif Nat.beq e bg&&Nat.beq k cf.size&&Nat.ble 1 cf.size&&Nat.ble 1 cf.bytes&&p.isEmpty then
      match d2,t2.k with
      |.v (.bH ak m me),.bH _=>bif Nat.beq ak k then
       some (.go {e:=some {d:=.v y,own:=some e},hJ:=[t],rs,a6:=[hA (.bH k (n+m) λi=>bif Nat.blt i n then get i else me (i-n)) y,room (n+m) cf.bytes=true]})
       else none
      |.v (.str s),.str=>bif Nat.beq k 1 then
       some (.go {e:=some {d:=.v y,own:=some e},hJ:=[t],rs,a6:=[hA (.bH k (n+s.length) λi=>bif Nat.blt i n then get i else .int .u8 (s.getD (i-n) 0).toNat) y,room (n+s.length) cf.bytes=true]})
       else none
      |_,_=>none
     else none
    |some cf,some (.full k n get),some d2,_,.val y::rs=>
     bif Nat.beq k cf.size&&Nat.ble 1 cf.size&&Nat.ble 1 cf.bytes&&p.isEmpty then
      match d2,t2.k with
      |.v (.bH ak m me),.bH _=>bif Nat.beq ak k&&Nat.ble 1 m then
       some (.go {e:=some {d:=.v y,own:=some e},hJ:=[t],rs,a6:=[hA (.bH k (n+m) λi=>bif Nat.blt i n then get i else me (i-n)) y,room (n+m) cf.bytes=true]})
       else none
      |_,_=>none
     else none
    |_,_,_,_,_=>none
   |_,_,_=>none
  |.builtin .min=>match mapM' (λy=>r y) c.args.toList with
   |some [.v (.int k a),.v (.int ak b)]=>bif decide (k=ak)then val (some (.v (.int k (bif decide (b<a)then b else a))))else none
   |_=>none
  |.builtin .max=>match mapM' (λy=>r y) c.args.toList with
   |some [.v (.int k a),.v (.int ak b)]=>bif decide (k=ak)then val (some (.v (.int k (bif decide (a<b)then b else a))))else none
   |_=>none
  |_=>none
 |.panic x=>match r x with
  |some (.v (.iface t y))=>some (.bf (.iface t y) [] [])
  |_=>none
 |_=>none
def hB:List Nat→List (Nat×a7)→List (Nat×a7)
 |[],env=>env
 |t::l,env=>match look env t with
  |some e=>(t,{e with own:=none})::hB l env
  |none=>hB l env
inductive BA where
 |go (g:dk)
 |bf (x:V) (st:aK) (a6:List Prop)
def pF:List (Nat×a7)→List (Nat×a7)
 |[]=>[]
 |(t,e)::l=>(t,{d:=e.d})::pF l
def pG(ops:List Oper)(g:dk)(o:Oper):Option Path:=
 match o.guard with
 |none=>some []
 |some (j,w)=>match(ops[j]?).bind (·.dst) with
  |some t=>match look g.b5 t with
   |some (q,.v (.bool _))=>some (q++[(t,w)])
   |some _=>none
   |none=>match look g.env t with
    |some ⟨.v (.bool _),_⟩=>some [(t,w)]
    |_=>none
  |none=>none
def xN(b5:List (Nat×Path×D))(t:Nat):Bool:=b5.all λx=>Nat.beq x.1 t||x.2.1.all λy=>!Nat.beq y.1 t
def n6(
 cd:gD) (tt:dI) (N:Nat) (ops:List Oper) (g:dk) (o:Oper):Option BA:=
 match pG ops g o with
 |none=>none
 |some p=>
  match step1 cd tt ops g p o with
  |none=>none
  |some (.bf x hs a6)=>bif p.isEmpty then some (.bf x {env:=pF g.env,H:=hs++g.H,aX:=g.aX} (a6++g.a6))else none
  |some (
   .go f)=>
   let e0:dk:={g with rs:=f.rs,a6:=f.a6.map (under g p)++g.a6}
   match o.dst with
   |none=>bif p.isEmpty then some (.go {e0 with env:=hB f.hJ g.env,H:=f.hs++g.H,aX:=g.aX+f.eP})else none
   |some t=>bif Nat.blt t N&&xN g.b5 t then
    match p with
    |[]=>some (.go {e0 with
     env:=match f.e with|some e=>(t,e)::hB f.hJ g.env|none=>del (hB f.hJ g.env) t
     b5:=del g.b5 t,H:=f.hs++g.H,aX:=g.aX+f.eP})
    |_::_=>match f.e,f.hs,f.hJ with
     |some e,[],[]=>bif p.all (λy=>!Nat.beq y.1 t)&&Nat.beq f.eP 0 then some (.go {e0 with env:=del g.env t,b5:=(t,p,e.d)::del g.b5 t})else none
     |_,_,_=>none
    else none
def tp(cd:gD)(tt:dI)(N:Nat)(ops:List Oper):List Oper→dk→Option BA
 |[],g=>some (.go g)
 |o::l,g=>match n6 cd tt N ops g o with
  |some (.go e0)=>tp cd tt N ops l e0
  |x=>x
mutual
def below(n:Nat):D→Bool
 |.v _ |.e6 _ |.full _ _ _=>true
 |.ptr r _=>Nat.blt r n
 |.ct r _ _=>Nat.blt r n
 |.fn _ fc=>u5 n fc
 |.agg cs |.cw cs=>u5 n cs
def u5(n:Nat):List D→Bool
 |[]=>true
 |d::l=>below n d&&u5 n l
end
def tq(n:Nat):List a7→Bool
 |[]=>true
 |e::l=>below n e.d&&tq n l
def BB(env:List (Nat×a7)):List Nat→Option (List (Nat×a7))
 |[]=>some []
 |t::l=>match look env t,BB env l with
  |some e,some cG=>some ((t,e)::cG)
  |_,_=>none
def BC(H:List (Nat×List a7)):List Nat→Option (List (Nat×List a7))
 |[]=>some []
 |r::l=>match look H r,BC H l with
  |some e,some cG=>some ((r,e)::cG)
  |_,_=>none
def u6(live:List Nat)(boxes:List Nat)(n:Nat)(env:List (Nat×a7))(H:List (Nat×List a7))(aX:Nat):Option aK:=
 match BB env live,BC H boxes with
 |some n7,some bP=>bif Nat.ble n aX&&n7.all (λx=>below n x.2.d)&&bP.all (λx=>Nat.blt x.1 n&&tq n x.2)then some {env:=n7,H:=bP,aX:=n}else none
 |_,_=>none
inductive Fin where
 |go (st:aK) (a6:List Prop)
 |bf (x:V) (st:aK) (a6:List Prop)
def de.mono{M M':Mem}(cT:M.le M'){v:Value}{x:V}(h:de M v x):de M' v x:=by
 induction h with
 |int k n=>exact .int k n
 |bool b=>exact .bool b
 |str l=>exact .str l
 |agg vs cs hn Z _ aH=>exact .agg vs cs hn Z aH
 |md k get=>exact .md k get
 |pC a k get=>exact .pC a k get
 |bH b off k n cap get val hc hk hm Z _ aH=>exact .bH b off k n cap get val hc hk (λi j hi hj=>cT _ _ _ (hm i j hi hj)) Z aH
 |iface t v x _ aH=>exact .iface t v x aH
 |eA=>exact .eA
 |ir=>exact .ir
 |aV=>exact .aV
 |any v Z=>exact .any v Z
 |oN k get=>exact .oN k get
inductive cy(M:Mem)(β:Nat→Option Nat):Value→D→Prop where
 |v (u:Value) (x:V) (h:de M u x):cy M β u (.v x)
 |ptr (r off b:Nat) (h:β r=some b):cy M β (.pointer (some ⟨b,off,none⟩)) (.ptr r off)
 |lW (r off:Nat) (u:TypeId):cy M β (.pointer none) (.ct r off u)
 |ct (r off b:Nat) (u:TypeId) (h:β r=some b):cy M β (.pointer (some ⟨b,off,none⟩)) (.ct r off u)
 |e6 (b off:Nat) (x:V) (val:Nat→Value) (cT:∀j,j<x.cells.length→M b (off+j)=some (val j)) (Z:∀j,j<x.cells.length→(val j).oneCell'=true)
  (h:∀(j:Nat) c,x.cells[j]? = some c→de M (val j) c):cy M β (.pointer (some ⟨b,off,none⟩)) (.e6 x)
 |full (base:Option Addr) (k n:Nat) (get:Nat→V) (h:de M (.slice base n n) (.bH k n get)):cy M β (.slice base n n) (.full k n get)
 |fn (f:FuncId) (vs:List Value) (cs:List D) (hn:vs.length=cs.length)
  (h:∀(i:Nat) v c,vs[i]? = some v→cs[i]? = some c→cy M β v c):cy M β (.func (.func f) #[] ⟨vs⟩) (.fn f cs)
 |agg (vs:List Value) (cs:List D) (hn:vs.length=cs.length) (Z:∀v,v∈vs→v.oneCell'=true)
  (h:∀(i:Nat) v c,vs[i]? = some v→cs[i]? = some c→cy M β v c):cy M β (.agg ⟨vs⟩) (.agg cs)
 |cw (vs:List Value) (cs:List D) (hn:vs.length=cs.length)
  (h:∀(i:Nat) v c,vs[i]? = some v→cs[i]? = some c→cy M β v c):cy M β (.tuple ⟨vs⟩) (.cw cs)
def cy.mono{M M':Mem}{β:Nat→Option Nat}(cT:M.le M'){v:Value}{d:D}(h:cy M β v d):cy M' β v d:=by
 induction h with
 |v u x h=>exact .v u x (h.mono cT)
 |ptr r off b h=>exact .ptr r off b h
 |lW r off u=>exact .lW r off u
 |ct r off b u h=>exact .ct r off b u h
 |e6 b off x val hm Z h=>exact .e6 b off x val (λj hj=>cT _ _ _ (hm j hj)) Z (λj c hc=>(h j c hc).mono cT)
 |full b k n get h=>exact .full b k n get (h.mono cT)
 |fn f vs cs hn _ aH=>exact .fn f vs cs hn aH
 |agg vs cs hn Z _ aH=>exact .agg vs cs hn Z aH
 |cw vs cs hn _ aH=>exact .cw vs cs hn aH
def tr{n:Nat}:∀{l:List D} {i:Nat} {d:D},u5 n l=true→l[i]? = some d→below n d=true
 |[],_,_,_,h=>by simp at h
 |d::l,0,_,hb,h=>by simp [u5]at hb;simp at h;exact h ▸ hb.1
 |d::l,i+1,_,hb,h=>by simp [u5]at hb;simp at h;exact tr hb.2 h
def cy.Vj{M:Mem}{β β':Nat→Option Nat}{n:Nat}(hC:∀r,r<n→β' r=β r){v:Value}{d:D}(h:cy M β v d):Ab.below n d=true→cy M β' v d:=by
 induction h with
 |v u x h=>intro _;exact .v u x h
 |ptr r off b h=>intro hb;exact .ptr r off b (by rw [hC r (by simpa [Ab.below,Nat.blt_eq]using hb)];exact h)
 |lW r off u=>intro hb;exact .lW r off u
 |ct r off b u h=>intro hb;exact .ct r off b u (by rw [hC r (by simpa [Ab.below,Nat.blt_eq]using hb)];exact h)
 |e6 b off x val hm Z h=>intro _;exact .e6 b off x val hm Z h
 |full b k n get h=>intro _;exact .full b k n get h
 |fn f vs cs hn _ aH=>intro hb;exact .fn f vs cs hn λi v c aw hc=>aH i v c aw hc (tr (by simpa [Ab.below]using hb) hc)
 |agg vs cs hn Z _ aH=>intro hb;exact .agg vs cs hn Z λi v c aw hc=>aH i v c aw hc (tr (by simpa [Ab.below]using hb) hc)
 |cw vs cs hn _ aH=>intro hb;exact .cw vs cs hn λi v c aw hc=>aH i v c aw hc (tr (by simpa [Ab.below]using hb) hc)
def xO{f:Nat→Option Nat}:∀{l cG:List D},ln f l=some cG→l.length=cG.length∧∀(i:Nat) d,l[i]? = some d→∃dE,cG[i]? = some dE∧eB f d=some dE
 |[],cG,h=>by simp [ln]at h;subst h;simp
 |d::l,cG,h=>by
  simp only [ln]at h;split at h<;>simp at h
  rename_i dE hK hd ab;subst h;obtain⟨Z,aa⟩:=xO ab;refine⟨by simp [Z],λi x hx=>?_⟩
  cases i with
  |zero=>simp at hx;subst hx;exact⟨dE,by simp,hd⟩
  |succ i=>simp at hx;simpa using aa i x hx
def cy.eB{M:Mem}{β β':Nat→Option Nat}{f:Nat→Option Nat}(hC:∀r s b,f r=some s→β r=some b→β' s=some b){v:Value}{d:D}(h:cy M β v d):
 ∀{dE},eB f d=some dE→cy M β' v dE:=by
 induction h with
 |v u x h=>intro dE hd;simp [Ab.eB]at hd;subst hd;exact .v u x h
 |ptr r off b h=>
  intro dE hd;simp only [Ab.eB,Option.map_eq_some_iff]at hd;obtain⟨s,hs,rfl⟩:=hd;exact .ptr s off b (hC r s b hs h)
 |lW r off u=>
  intro dE hd;simp only [Ab.eB,Option.map_eq_some_iff]at hd;obtain⟨s,hs,rfl⟩:=hd;exact .lW s off u
 |ct r off b u h=>
  intro dE hd;simp only [Ab.eB,Option.map_eq_some_iff]at hd;obtain⟨s,hs,rfl⟩:=hd;exact .ct s off b u (hC r s b hs h)
 |e6 b off x val hm Z h=>intro dE hd;simp [Ab.eB]at hd;subst hd;exact .e6 b off x val hm Z h
 |full b k n get h=>intro dE hd;simp [Ab.eB]at hd;subst hd;exact .full b k n get h
 |fn f vs cs hn _ aH=>
  intro dE hd;simp only [Ab.eB,Option.map_eq_some_iff]at hd;obtain⟨cs',et,rfl⟩:=hd;obtain⟨Z,aa⟩:=xO et;refine .fn f vs cs' (by omega) λi v c aw hc=>?_
  have hi:i<cs.length:=by have:=(List.getElem?_eq_some_iff.1 hc).1;omega
  obtain⟨d1,gE,ai⟩:=aa i cs[i] (List.getElem?_eq_getElem hi);rw [hc]at gE;cases gE;exact aH i v _ aw (List.getElem?_eq_getElem hi) ai
 |agg vs cs hn Z _ aH=>
  intro dE hd;simp only [Ab.eB,Option.map_eq_some_iff]at hd;obtain⟨cs',et,rfl⟩:=hd;obtain⟨h0,aa⟩:=xO et;refine .agg vs cs' (by omega) Z λi v c aw hc=>?_
  have hi:i<cs.length:=by have:=(List.getElem?_eq_some_iff.1 hc).1;omega
  obtain⟨d1,gE,ai⟩:=aa i cs[i] (List.getElem?_eq_getElem hi);rw [hc]at gE;cases gE;exact aH i v _ aw (List.getElem?_eq_getElem hi) ai
 |cw vs cs hn _ aH=>
  intro dE hd;simp only [Ab.eB,Option.map_eq_some_iff]at hd;obtain⟨cs',et,rfl⟩:=hd;obtain⟨Z,aa⟩:=xO et;refine .cw vs cs' (by omega) λi v c aw hc=>?_
  have hi:i<cs.length:=by have:=(List.getElem?_eq_some_iff.1 hc).1;omega
  obtain⟨d1,gE,ai⟩:=aa i cs[i] (List.getElem?_eq_getElem hi);rw [hc]at gE;cases gE;exact aH i v _ aw (List.getElem?_eq_getElem hi) ai
def cy.MK{M:Mem}{β β':Nat→Option Nat}(hC:∀r b,β r=some b→β' r=some b){v:Value}{d:D}(h:cy M β v d):cy M β' v d:=by
 induction h with
 |v u x h=>exact .v u x h
 |ptr r off b h=>exact .ptr r off b (hC r b h)
 |lW r off u=>exact .lW r off u
 |ct r off b u h=>exact .ct r off b u (hC r b h)
 |e6 b off x val hm Z h=>exact .e6 b off x val hm Z h
 |full b k n get h=>exact .full b k n get h
 |fn f vs cs hn _ aH=>exact .fn f vs cs hn aH
 |agg vs cs hn Z _ aH=>exact .agg vs cs hn Z aH
 |cw vs cs hn _ aH=>exact .cw vs cs hn aH
def cy.ad'{M:Mem}{β β':Nat→Option Nat}{n:Nat}(hC:∀r,r<n→∀b,β r=some b→β' r=some b){v:Value}{d:D}(h:cy M β v d):Ab.below n d=true→cy M β' v d:=by
 induction h with
 |v u x h=>intro _;exact .v u x h
 |ptr r off b h=>intro hb;exact .ptr r off b (hC r (by simpa [Ab.below,Nat.blt_eq]using hb) b h)
 |lW r off u=>intro hb;exact .lW r off u
 |ct r off b u h=>intro hb;exact .ct r off b u (hC r (by simpa [Ab.below,Nat.blt_eq]using hb) b h)
 |e6 b off x val hm Z h=>intro _;exact .e6 b off x val hm Z h
 |full b k n get h=>intro _;exact .full b k n get h
 |fn f vs cs hn _ aH=>intro hb;exact .fn f vs cs hn λi v c aw hc=>aH i v c aw hc (tr (by simpa [Ab.below]using hb) hc)
 |agg vs cs hn Z _ aH=>intro hb;exact .agg vs cs hn Z λi v c aw hc=>aH i v c aw hc (tr (by simpa [Ab.below]using hb) hc)
 |cw vs cs hn _ aH=>intro hb;exact .cw vs cs hn λi v c aw hc=>aH i v c aw hc (tr (by simpa [Ab.below]using hb) hc)
structure Ctx where
 BD:Mem
 F:Nat→Option Obj
 lq:Nat→Option Nat
 h7:Os×Array (Nat×ByteArray)
 ds:List Deferred:=[]
inductive Loc where
 |slot (s:Nat)
 |cell (r i:Nat)
deriving DecidableEq
def aK.at(st:aK):Loc→Option a7
 |.slot s=>look st.env s
 |.cell r i=>(look st.H r).bind (·[i]?)
def cu(tmps:Array Value)(w:World)(β:Nat→Option Nat):Loc→Value
 |.slot s=>tmps.getD s undef
 |.cell r i=>match β r with
  |some b=>(w.cell? ⟨b,i,none⟩).getD undef
  |none=>undef
def h8:Value→Option Nat
 |.slice (some a) _ _=>some a.block
 |_=>none
def pH(P:Program)(F:Nat→Option Obj)(M:Mem)(w:World)(T:TypeId)(v:Value):Prop:=
 v = .slice none 0 0∨∃b n cap vs T',v = .slice (some ⟨b,0,none⟩) n cap∧n≤cap∧w.heap[b]? = some (.cells ⟨vs⟩ T' (0,0))∧cap*P.cellsOf T≤vs.length∧
  (∀o,n*P.cellsOf T≤o→M b o=none)∧F b=none∧T'=T
def ML (P : Program) : List Nat := ["strconv.ErrSyntax", "strconv.ErrRange"].filterMap P.globalNamed
def MM:Array Value:=((List.range 20).map λi=>Value.int .u64 ((10 ^ i:Nat):Int)).toArray
def r_(P:Program)(F:Nat→Option Obj):Prop:=
 (∀g,g∈ML P→∃cs t kS fM,F g=some (.cells cs t kS)∧cs[0]? = some fM∧(fM = .nilIface∨∃cf sa,fM = .iface cf sa))∧
 ∀ g, P.globalNamed "internal/strconv.uint64pow10" = some g → ∃ t kS, F g = some (.cells MM t kS)
def r_.mono{P:Program}{F Vk:Nat→Option Obj}(h:r_ P F)(dN:∀b a6,F b=some a6→Vk b=some a6):r_ P Vk:=⟨λg hg=>by
 obtain⟨cs,t,kS,fM,Z,aa,aj⟩:=h.1 g hg;exact⟨cs,t,kS,fM,dN _ _ Z,aa,aj⟩,λg hg=>by
 obtain⟨t,kS,Z⟩:=h.2 g hg;exact⟨t,kS,dN _ _ Z⟩⟩
def lr(P:Program)(T:TypeId)(n:Nat)(cs:List a7):Prop:=∀e,e∈cs→∀r off u,e.d = .ct r off u→liesAt P P.depth T (n / P.cellsOf T) off u 1=true
def ad_(P:Program)(T:TypeId)(vs:List Value)(cs:List a7):Prop:=(∀v,v∈vs→v.oneCell'=true)∧lr P T vs.length cs
def lr.sub{P:Program}{T:TypeId}{n:Nat}{cs cs':List a7}(h:lr P T n cs)(hs:∀e,e∈cs'→∃b3,b3∈cs∧b3.d=e.d):lr P T n cs':=λe he r off u hd=>by
 obtain⟨b3,Z,aa⟩:=hs e he;exact h b3 Z r off u (aa.trans hd)
structure bN(P:Program)(K:Ctx)(M:Mem)(β:Nat→Option Nat)(st:aK)(tmps:Array Value)(w:World):Prop where
 fv:∀l e,st.at l=some e→cy M β (cu tmps w β l) e.d
 own:∀l e T,st.at l=some e→e.own=some T→pH P K.F M w T (cu tmps w β l)
 uniq:∀l cG e bg T T' b,st.at l=some e→e.own=some T→st.at cG=some bg→bg.own=some T'→
  h8 (cu tmps w β l)=some b→h8 (cu tmps w β cG)=some b→l=cG
 unbox:∀l e T b r cs,st.at l=some e→e.own=some T→h8 (cu tmps w β l)=some b→look st.H r=some cs→β r≠some b
 box:∀r cs,look st.H r=some cs→∃b vs T,β r=some b∧w.heap[b]? = some (.cells ⟨vs⟩ T (0,0))∧vs.length=cs.length∧(∀o,M b o=none)∧K.F b=none∧ad_ P T vs cs
 inj:∀r dv b cs cs',look st.H r=some cs→look st.H dv=some cs'→β r=some b→β dv=some b→r=dv
 lt:∀r b,β r=some b→r<st.aX
 mem:∀b o v,M b o=some v→w.cell? ⟨b,o,none⟩=some v
 m0:K.BD.le M
 frame:∀b a6,K.F b=some a6→w.heap[b]? = some a6∧∀o,M b o=K.BD b o
 iP:∀r b,K.lq r=some b→β r=some b
 jx:r_ P K.F
 h7:(w.os,w.output)=K.h7
def aK.MN{st:aK}{r i:Nat}{cs:List a7}(h:look st.H r=some cs):st.at (.cell r i)=cs[i]? := by simp [aK.at,h]
def F3:∀{l:List D},tm l=true→∀d,d∈l→∀r off u,d ≠ .ct r off u
 |[],h,d,hd=>by cases hd
 |x::l,h,d,hd=>by
  have aa:tm l=true:=by cases x<;>first|exact h|cases h
  rcases List.mem_cons.1 hd with rfl|kt
  ·intro r off u e;subst e;cases h
  ·exact F3 aa d kt
def lr.Vl{P:Program}{T:TypeId}{n r:Nat}{st b8:aK}{cs cs':List a7}(h:lr P T n cs)(Z:look st.H r=some cs)(aa:look b8.H r=some cs')
 (he:∀l bg,b8.at l=some bg→∃e,st.at l=some e∧(e.d=bg.d∨∀q off u,bg.d ≠ .ct q off u)):lr P T n cs':=λe hm q off u hd=>by
 obtain⟨i,hi,rfl⟩:=List.getElem_of_mem hm;obtain⟨b3,g1,g2⟩:=he (.cell r i) cs'[i] (by rw [aK.MN aa];exact List.getElem?_eq_getElem hi)
 rw [aK.MN Z]at g1;rcases g2 with g2|g2
 ·exact h b3 (List.mem_of_getElem? g1) q off u (g2.trans hd)
 ·exact absurd hd (g2 q off u)
def dX{α:Type}(j:Nat)(x:α)(l:List (Nat×α))(i:Nat):look ((j,x)::l) i=if j=i then some x else look l i:=by
 by_cases h:j=i
 ·simp [look,h]
 ·have:Nat.beq j i=false:=by rw [Bool.eq_false_iff];simpa using h
  simp [look,h,this]
def qN{α:Type}(l:List (Nat×α))(t i:Nat):look (del l t) i=if t=i then none else look l i:=by
 induction l with
 |nil=>simp [del,look]
 |cons x l aH=>
  obtain⟨j,x⟩:=x;by_cases h:j=t
  ·subst h;have:Nat.beq j j=true:=by simp
   simp only [del,this,cond_true,aH,dX];by_cases aa:j=i<;>simp [aa]
  ·have cM:Nat.beq j t=false:=by rw [Bool.eq_false_iff];simpa using h
   simp only [del,cM,cond_false,dX,aH];by_cases aa:j=i
   ·subst aa;simp [Ne.symm h]
   ·simp [aa]
def cell_of_heap{w:World}{b o:Nat}{vs:List Value}{T:TypeId}{oR:Nat×Nat}(h:w.heap[b]? = some (.cells ⟨vs⟩ T oR)):w.cell? ⟨b,o,none⟩=vs[o]? := by
 simp [World.cell?,h]
def lt_of_heap{w:World}{b:Nat}{a6:Obj}(h:w.heap[b]? = some a6):b<w.heap.size:=by
 rcases Nat.lt_or_ge b w.heap.size with cM|cM
 ·exact cM
 ·simp [Array.getElem?_eq_none cM]at h
def lt_of_cell{w:World}{b o:Nat}{v:Value}(h:w.cell? ⟨b,o,none⟩=some v):b<w.heap.size:=by
 unfold World.cell? at h;split at h
 ·rename_i bm;exact lt_of_heap bm
 ·cases h
def sb{w w':World}{b o:Nat}(h:w'.heap[b]? = w.heap[b]?):w'.cell? ⟨b,o,none⟩=w.cell? ⟨b,o,none⟩:=by
 simp [World.cell?,h]
section
variable {P:Program} {K:Ctx} {M M':Mem} {β β':Nat→Option Nat} {st b8:aK} {tmps fW:Array Value} {w w':World}
def pH.lt{F:Nat→Option Obj}{T:TypeId}{v:Value}{b:Nat}(h:pH P F M w T v)(hb:h8 v=some b):b<w.heap.size:=by
 rcases h with rfl|⟨bG,n,cap,vs,T',rfl,_,bm,_⟩
 ·simp [h8]at hb
 ·simp [h8]at hb;subst hb;exact lt_of_heap bm
def pH.free{F:Nat→Option Obj}{T:TypeId}{v:Value}{b:Nat}(h:pH P F M w T v)(hb:h8 v=some b):F b=none:=by
 rcases h with rfl|⟨bG,n,cap,vs,T',rfl,_,bm,_,_,dN,_⟩
 ·simp [h8]at hb
 ·simp [h8]at hb;subst hb;exact dN
def pH.congr{F:Nat→Option Obj}{T:TypeId}{v:Value}(h:pH P F M w T v)(hw:∀b,h8 v=some b→w'.heap[b]? = w.heap[b]?)(cT:∀b o,h8 v=some b→M' b o=M b o):
 pH P F M' w' T v:=by
 rcases h with rfl|⟨bG,n,cap,vs,T',rfl,Z,bm,aa,aj,dN⟩
 ·exact .inl rfl
 ·exact .inr ⟨bG,n,cap,vs,T',rfl,Z,(hw bG rfl).trans bm,aa,λo av=>(cT bG o rfl).trans (aj o av),dN⟩
def MO(h:bN P K M β st tmps w){r i:Nat}{cs:List a7}{e:a7}(ai:look st.H r=some cs)(hi:cs[i]? = some e):
 ∃b vs T v,β r=some b∧w.heap[b]? = some (.cells ⟨vs⟩ T (0,0))∧vs[i]? = some v∧cu tmps w β (.cell r i)=v:=by
 obtain⟨b,vs,T,hb,bm,ab,_⟩:=h.box r cs ai;have MP:i<cs.length:=(List.getElem?_eq_some_iff.1 hi).1;have aw:vs[i]? = some vs[i]:=List.getElem?_eq_getElem (by omega)
 exact⟨b,vs,T,_,hb,bm,aw,by simp only [cu,hb,cell_of_heap bm,aw,Option.getD_some]⟩
def bN.BE(h:bN P K M β st tmps w){r b:Nat}{cs:List a7}(ai:look st.H r=some cs)(hb:β r=some b):b<w.heap.size:=by
 obtain⟨bG,vs,T,bY,bm,_⟩:=h.box r cs ai;rw [hb]at bY;cases bY;exact lt_of_heap bm
def bN.free(h:bN P K M β st tmps w)(b:Nat)(dN:K.F b=none)(u7:∀r cs,look st.H r=some cs→β r≠some b)
 (gk:∀l e T,st.at l=some e→e.own=some T→h8 (cu tmps w β l)≠some b)
 (hw:∀bG,bG≠b→bG<w.heap.size→w'.heap[bG]? = w.heap[bG]?) (cT:M.le M') (F4:∀bG o,bG≠b→M' bG o=M bG o)
 (F5:∀o v,M' b o=some v→w'.cell? ⟨b,o,none⟩=some v) (oS:(w'.os,w'.output)=(w.os,w.output):=by rfl):bN P K M' β st tmps w':=by
 have cj:∀l e,st.at l=some e→cu tmps w' β l=cu tmps w β l:=by
  intro l e ab;cases l with
  |slot s=>rfl
  |cell r i=>
   simp only [aK.at]at ab;cases ai:look st.H r with
   |none=>simp [ai]at ab
   |some cs=>
    obtain⟨cY,vs,T,c',bm,_⟩:=h.box r cs ai;have dh:cY≠b:=λe=>u7 r cs ai (e ▸ c')
    simp only [cu,c'];rw [sb (hw cY dh (lt_of_heap bm))]
 constructor
 ·intro l e ab;rw [cj l e ab];exact(h.fv l e ab).mono cT
 ·intro l e T ab aG;rw [cj l e ab];refine(h.own l e T ab aG).congr (λcY c'=>hw cY ?_ ((h.own l e T ab aG).lt c')) (λcY o c'=>F4 cY o ?_) <;>
  ·rintro rfl;exact gk l e T ab aG c'
 ·intro l cG e bg T T' cY ab aG dF eg hb bY;rw [cj l e ab]at hb;rw [cj cG bg dF]at bY;exact h.uniq l cG e bg T T' cY ab aG dF eg hb bY
 ·intro l e T cY r cs ab aG hb ai;rw [cj l e ab]at hb;exact h.unbox l e T cY r cs ab aG hb ai
 ·intro r cs ai;obtain⟨cY,vs,T,c',bm,Z,aa,aj⟩:=h.box r cs ai;have dh:cY≠b:=λe=>u7 r cs ai (e ▸ c')
  exact⟨cY,vs,T,c',(hw cY dh (lt_of_heap bm)).trans bm,Z,λo=>(F4 cY o dh).trans (aa o),aj⟩
 ·exact h.inj
 ·exact h.lt
 ·intro cY o v aw;by_cases dh:cY=b
  ·subst dh;exact F5 o v aw
  ·rw [F4 cY o dh]at aw;have:=h.mem cY o v aw
   rw [sb (hw cY dh (lt_of_cell this))];exact this
 ·exact Mem.le_trans h.m0 cT
 ·intro cY a6 c';have dh:cY≠b:=by rintro rfl;rw [dN]at c';cases c'
  obtain⟨Z,aa⟩:=h.frame cY a6 c';exact⟨(hw cY dh (lt_of_heap Z)).trans Z,λo=>(F4 cY o dh).trans (aa o)⟩
 ·exact h.iP
 ·exact h.jx
 ·exact oS.trans h.h7
def bN.grow(h:bN P K M β st tmps w)(hw:∀b,b<w.heap.size→w'.heap[b]? = w.heap[b]?)(oS:(w'.os,w'.output)=(w.os,w.output):=by rfl):bN P K M β st tmps w':=by
 have hn:∀b,w.heap.size≤b→K.F b=none:=by
  intro b hb;cases dN:K.F b with
  |none=>rfl
  |some a6=>have:=lt_of_heap (h.frame b a6 dN).1;omega
 refine h.free w.heap.size (hn _ (Nat.le_refl _)) ?_ ?_ (λb _ hb=>hw b hb) (Mem.le_refl _) (λ_ _ _=>rfl) ?_ oS
 ·intro r cs ai hb;have:=h.BE ai hb;omega
 ·intro l e T ab aG hb;have:=(h.own l e T ab aG).lt hb;omega
 ·intro o v aw;have:=lt_of_cell (h.mem _ _ _ aw);omega
def bN.sub(h:bN P K M β st tmps w)(hn:b8.aX=st.aX)
 (he:∀l bg,b8.at l=some bg→∃e,st.at l=some e∧e.d=bg.d∧∀T,bg.own=some T→e.own=some T)
 (fj:∀r cs',look b8.H r=some cs'→∃cs,look st.H r=some cs∧cs.length=cs'.length):bN P K M β b8 tmps w:=by
 constructor
 ·intro l bg ab;obtain⟨e,Z,aa,_⟩:=he l bg ab;rw [←aa];exact h.fv l e Z
 ·intro l bg T ab aG;obtain⟨e,Z,_,aj⟩:=he l bg ab;exact h.own l e T Z (aj T aG)
 ·intro l cG e bg T T' b ab aG dF eg;obtain⟨e1,Z,_,aj⟩:=he l e ab;obtain⟨e2,ls,_,F6⟩:=he cG bg dF;exact h.uniq l cG e1 e2 T T' b Z (aj T aG) ls (F6 T' eg)
 ·intro l e T b r cs ab aG hb ai;obtain⟨e1,Z,_,aj⟩:=he l e ab;obtain⟨u9,iu,_⟩:=fj r cs ai;exact h.unbox l e1 T b r u9 Z (aj T aG) hb iu
 ·intro r cs ai;obtain⟨u9,iu,hlen⟩:=fj r cs ai;obtain⟨b,vs,T,Z,aa,aj,aC,aT,bQ,cK⟩:=h.box r u9 iu
  exact⟨b,vs,T,Z,aa,aj.trans hlen,aC,aT,bQ,cK.Vl iu ai λl bg ab=>by
   obtain⟨e,g1,g2,_⟩:=he l bg ab;exact⟨e,g1,.inl g2⟩⟩
 ·intro r dv b cs cs' ai gc hb bY;obtain⟨c1,Z,_⟩:=fj r cs ai;obtain⟨c2,aa,_⟩:=fj dv cs' gc;exact h.inj r dv b c1 c2 Z aa hb bY
 ·intro r b hb;rw [hn];exact h.lt r b hb
 ·exact h.mem
 ·exact h.m0
 ·exact h.frame
 ·exact h.iP
 ·exact h.jx
 ·exact h.h7
def bN.aea(h:bN P K M β st tmps w)(hn:b8.aX=st.aX)
 (he:∀l bg,b8.at l=some bg→∃e,st.at l=some e∧((e.d=bg.d∧∀T,bg.own=some T→e.own=some T)∨∃k g,e.d = .v (.oN k g)∧bg.d = .v (.bH k 0 g)))
 (fj:∀r cs',look b8.H r=some cs'→∃cs,look st.H r=some cs∧cs.length=cs'.length):bN P K M β b8 tmps w:=by
 have pI:∀l e k g,st.at l=some e→e.d = .v (.oN k g)→cu tmps w β l = .slice none 0 0:=by
  intro l e k g ab hd;have:=h.fv l e ab
  rw [hd]at this;generalize cu tmps w β l=u at this ⊢
  cases this with
  |v u x hx=>cases hx;rfl
 constructor
 ·intro l bg ab;obtain⟨e,Z,⟨aa,_⟩|⟨k,g,aa,aj⟩⟩:=he l bg ab
  ·rw [←aa];exact h.fv l e Z
  ·rw [aj,pI l e k g Z aa];exact .v _ _ (.md k g)
 ·intro l bg T ab aG;obtain⟨e,Z,⟨_,aj⟩|⟨k,g,aa,aj⟩⟩:=he l bg ab
  ·exact h.own l e T Z (aj T aG)
  ·exact .inl (pI l e k g Z aa)
 ·intro l cG e bg T T' b ab aG dF eg hb bY;obtain⟨e1,Z,⟨_,aj⟩|⟨k,g,aa,aj⟩⟩:=he l e ab
  ·obtain⟨e2,ls,⟨_,F6⟩|⟨k,g,aeb,F6⟩⟩:=he cG bg dF
   ·exact h.uniq l cG e1 e2 T T' b Z (aj T aG) ls (F6 T' eg) hb bY
   ·rw [pI cG e2 k g ls aeb]at bY;cases bY
  ·rw [pI l e1 k g Z aa]at hb;cases hb
 ·intro l e T b r cs ab aG hb ai;obtain⟨u9,iu,_⟩:=fj r cs ai;obtain⟨e1,Z,⟨_,aj⟩|⟨k,g,aa,aj⟩⟩:=he l e ab
  ·exact h.unbox l e1 T b r u9 Z (aj T aG) hb iu
  ·rw [pI l e1 k g Z aa]at hb;cases hb
 ·intro r cs ai;obtain⟨u9,iu,hlen⟩:=fj r cs ai;obtain⟨b,vs,T,Z,aa,aj,aC,aT,bQ,cK⟩:=h.box r u9 iu
  exact⟨b,vs,T,Z,aa,aj.trans hlen,aC,aT,bQ,cK.Vl iu ai λl bg ab=>by
   obtain⟨e,g1,⟨g2,_⟩|⟨k,g,_,g3⟩⟩:=he l bg ab
   ·exact⟨e,g1,.inl g2⟩
   ·exact⟨e,g1,.inr λq off u ao=>by rw [g3]at ao;cases ao⟩⟩
 ·intro r dv b cs cs' ai gc hb bY;obtain⟨c1,Z,_⟩:=fj r cs ai;obtain⟨c2,aa,_⟩:=fj dv cs' gc;exact h.inj r dv b c1 c2 Z aa hb bY
 ·intro r b hb;rw [hn];exact h.lt r b hb
 ·exact h.mem
 ·exact h.m0
 ·exact h.frame
 ·exact h.iP
 ·exact h.jx
 ·exact h.h7
structure nm(P:Program)(K:Ctx)(M:Mem)(β:Nat→Option Nat)(st:aK)(tmps:Array Value)(w:World)(l0:Loc)(v:Value)(T:TypeId):Prop where
 own:pH P K.F M w T v
 apart:∀l e T' b,st.at l=some e→e.own=some T'→l≠l0→h8 v=some b→h8 (cu tmps w β l)≠some b
 unbox:∀b r cs,h8 v=some b→look st.H r=some cs→β r≠some b
def bN.put(h:bN P K M β st tmps w){t:Nat}{v:Value}{e:a7}(aF:t<tmps.size)(aw:cy M β v e.d)
 (av:∀T,e.own=some T→nm P K M β st tmps w (.slot t) v T):
 bN P K M β {st with env:=(t,e)::st.env} (tmps.setIfInBounds t v) w:=by
 have gl:∀l,({st with env:=(t,e)::st.env}:aK).at l=if l = .slot t then some e else st.at l:=by
  intro l;cases l with
  |slot s=>
   simp only [aK.at,dX,Loc.slot.injEq];by_cases hs:t=s
   ·subst hs;simp
   ·simp [hs,Ne.symm hs]
  |cell r i=>simp [aK.at]
 have cj:∀l,cu (tmps.setIfInBounds t v) w β l=if l = .slot t then v else cu tmps w β l:=by
  intro l;cases l with
  |slot s=>
   simp only [cu,Loc.slot.injEq];by_cases hs:s=t
   ·subst hs;simp [aF]
   ·simp [hs,Ne.symm hs]
  |cell r i=>simp [cu]
 constructor
 ·intro l e1 ab;rw [gl]at ab;rw [cj];by_cases h0:l = .slot t
  ·simp only [h0,if_true]at ab ⊢;cases ab;exact aw
  ·simp only [h0,if_false]at ab ⊢;exact h.fv l e1 ab
 ·intro l e1 T ab aG;rw [gl]at ab;rw [cj];by_cases h0:l = .slot t
  ·simp only [h0,if_true]at ab ⊢;cases ab;exact(av T aG).own
  ·simp only [h0,if_false]at ab ⊢;exact h.own l e1 T ab aG
 ·intro l cG e1 e2 T T' b ab aG dF eg hb bY;rw [gl]at ab dF;rw [cj]at hb bY;by_cases h0:l = .slot t<;>by_cases tu:cG = .slot t
  ·rw [h0,tu]
  ·simp only [h0,tu,if_true,if_false]at ab dF hb bY;cases ab;exact absurd bY ((av T aG).apart cG e2 T' b dF eg tu hb)
  ·simp only [h0,tu,if_true,if_false]at ab dF hb bY;cases dF;exact absurd hb ((av T' eg).apart l e1 T b ab aG h0 bY)
  ·simp only [h0,tu,if_false]at ab dF hb bY;exact h.uniq l cG e1 e2 T T' b ab aG dF eg hb bY
 ·intro l e1 T b r cs ab aG hb ai;rw [gl]at ab;rw [cj]at hb;by_cases h0:l = .slot t
  ·simp only [h0,if_true]at ab hb;cases ab;exact(av T aG).unbox b r cs hb ai
  ·simp only [h0,if_false]at ab hb;exact h.unbox l e1 T b r cs ab aG hb ai
 ·exact h.box
 ·exact h.inj
 ·exact h.lt
 ·exact h.mem
 ·exact h.m0
 ·exact h.frame
 ·exact h.iP
 ·exact h.jx
 ·exact h.h7
def bN.drop(h:bN P K M β st tmps w){t:Nat}{v:Value}:bN P K M β {st with env:=del st.env t} (tmps.setIfInBounds t v) w:=by
 have gl:∀l,({st with env:=del st.env t}:aK).at l=if l = .slot t then none else st.at l:=by
  intro l;cases l with
  |slot s=>
   simp only [aK.at,qN,Loc.slot.injEq];by_cases hs:t=s
   ·subst hs;simp
   ·simp [hs,Ne.symm hs]
  |cell r i=>simp [aK.at]
 have Z:bN P K M β {st with env:=del st.env t} tmps w:=by
  refine h.sub rfl (λl bg ab=>?_) (λr cs ai=>⟨cs,ai,rfl⟩)
  rw [gl]at ab;by_cases h0:l = .slot t
  ·simp [h0]at ab
  ·simp only [h0,if_false]at ab;exact⟨bg,ab,rfl,λ_ h=>h⟩
 have cj:∀l e,({st with env:=del st.env t}:aK).at l=some e→cu (tmps.setIfInBounds t v) w β l=cu tmps w β l:=by
  intro l e ab;cases l with
  |slot s=>
   have hs:t≠s:=by rintro rfl;simp [aK.at,qN]at ab
   simp [cu,hs]
  |cell r i=>rfl
 constructor
 ·intro l e ab;rw [cj l e ab];exact Z.fv l e ab
 ·intro l e T ab aG;rw [cj l e ab];exact Z.own l e T ab aG
 ·intro l cG e bg T T' b ab aG dF eg hb bY;rw [cj l e ab]at hb;rw [cj cG bg dF]at bY;exact Z.uniq l cG e bg T T' b ab aG dF eg hb bY
 ·intro l e T b r cs ab aG hb ai;rw [cj l e ab]at hb;exact Z.unbox l e T b r cs ab aG hb ai
 ·exact Z.box
 ·exact Z.inj
 ·exact Z.lt
 ·exact Z.mem
 ·exact Z.m0
 ·exact Z.frame
 ·exact Z.iP
 ·exact Z.jx
 ·exact Z.h7
def bN.aec(h:bN P K M β st tmps w){dG n':Nat}(mf:∀b,β dG≠some b)(aed:dG<n')(ar8:st.aX≤n'){vs:List Value}{T:TypeId}{cs:List a7}(hlen:vs.length=cs.length)(jg:∀v,v∈vs→v.oneCell'=true)(hlies:lr P T vs.length cs)
 (aw:∀(i:Nat) v e,vs[i]? = some v→cs[i]? = some e→cy M β v e.d∧∀T,e.own=some T→v = .slice none 0 0):
 bN P K M (λr=>if r=dG then some w.heap.size else β r) {st with H:=(dG,cs)::st.H,aX:=n'} tmps {w with heap:=w.heap.push (.cells ⟨vs⟩ T (0,0))}:=by
 have Vm:∀r b,β r=some b→r≠dG:=λr b hb e=>mf b (e ▸ hb)
 have c':∀r b,β r=some b→(λr=>if r=dG then some w.heap.size else β r) r=some b:=by
  intro r b hb;simp [Vm r b hb,hb]
 have gI:∀{v d},cy M β v d→cy M (λr=>if r=dG then some w.heap.size else β r) v d:=by
  intro v d hd;refine hd.MK ?_;exact c'
 have hg:=h.grow (w':={w with heap:=w.heap.push (.cells ⟨vs⟩ T (0,0))}) (λb hb=>by simp [Array.getElem?_push,Nat.ne_of_lt hb])
 have hold:∀r cs,r≠dG→look ((dG,cs)::st.H) r=look st.H r:=λr cs dh=>by simp [dX,Ne.symm dh]
 have aee:∀r cs,look st.H r=some cs→r≠dG:=λr cs ai=>by obtain⟨b,_,_,hb,_⟩:=h.box r cs ai;exact Vm r b hb
 have cj:∀l e,st.at l=some e→cu tmps {w with heap:=w.heap.push (.cells ⟨vs⟩ T (0,0))} (λr=>if r=dG then some w.heap.size else β r) l=cu tmps {w with heap:=w.heap.push (.cells ⟨vs⟩ T (0,0))} β l:=by
  intro l e ab;cases l with
  |slot s=>rfl
  |cell r i=>
   simp only [aK.at]at ab;cases ai:look st.H r with
   |none=>simp [ai]at ab
   |some c=>simp [cu,aee r c ai]
 have Vn:∀i e,cs[i]? = some e→∃v,vs[i]? = some v∧cu tmps {w with heap:=w.heap.push (.cells ⟨vs⟩ T (0,0))} (λr=>if r=dG then some w.heap.size else β r) (.cell dG i)=v:=by
  intro i e hi;have MP:i<cs.length:=(List.getElem?_eq_some_iff.1 hi).1;have e_:vs[i]? = some vs[i]:=List.getElem?_eq_getElem (by omega)
  exact⟨_,e_,by simp [cu,World.cell?,hlen ▸ MP]⟩
 have gl:∀l e,({st with H:=(dG,cs)::st.H,aX:=n'}:aK).at l=some e→(∃i,l = .cell dG i∧cs[i]? = some e)∨(st.at l=some e∧∀i,l ≠ .cell dG i):=by
  intro l e ab;cases l with
  |slot s=>exact .inr ⟨ab,by simp⟩
  |cell r i=>
   by_cases ai:r=dG
   ·subst ai;simp [aK.at,dX]at ab;exact .inl ⟨i,rfl,ab⟩
   ·refine .inr ⟨?_,by simp [ai]⟩
    simpa [aK.at,dX,Ne.symm ai]using ab
 have ku:∀l e T',({st with H:=(dG,cs)::st.H,aX:=n'}:aK).at l=some e→e.own=some T'→(∃i,l = .cell dG i)→cu tmps {w with heap:=w.heap.push (.cells ⟨vs⟩ T (0,0))} (λr=>if r=dG then some w.heap.size else β r) l = .slice none 0 0:=by
  rintro l e T' ab aG ⟨i,rfl⟩
  have hi:cs[i]? = some e:=by simpa [aK.at,dX]using ab
  obtain⟨v,Z,aa⟩:=Vn i e hi;rw [aa];exact(aw i v e Z hi).2 T' aG
 constructor
 ·intro l e ab;rcases gl l e ab with⟨i,rfl,hi⟩|⟨av,_⟩
  ·obtain⟨v,Z,aa⟩:=Vn i e hi;rw [aa];exact gI (aw i v e Z hi).1
  ·rw [cj l e av];exact gI (hg.fv l e av)
 ·intro l e T' ab aG;rcases gl l e ab with⟨i,mR,hi⟩|⟨av,_⟩
  ·rw [ku l e T' ab aG ⟨i,mR⟩];exact .inl rfl
  ·rw [cj l e av];exact hg.own l e T' av aG
 ·intro l cG e bg hD pJ b ab aG dF eg hb bY;rcases gl l e ab with⟨i,mR,hi⟩|⟨av,_⟩
  ·rw [ku l e hD ab aG ⟨i,mR⟩]at hb;simp [h8]at hb
  ·rcases gl cG bg dF with⟨i,mR,hi⟩|⟨kT,_⟩
   ·rw [ku cG bg pJ dF eg ⟨i,mR⟩]at bY;simp [h8]at bY
   ·rw [cj l e av]at hb;rw [cj cG bg kT]at bY;exact hg.uniq l cG e bg hD pJ b av aG kT eg hb bY
 ·intro l e hD b r c ab aG hb ai;rcases gl l e ab with⟨i,mR,hi⟩|⟨av,_⟩
  ·rw [ku l e hD ab aG ⟨i,mR⟩]at hb;simp [h8]at hb
  ·rw [cj l e av]at hb
   have cX:b<w.heap.size:=by
    have Z:=(h.own l e hD av aG)
    have aa:cu tmps {w with heap:=w.heap.push (.cells ⟨vs⟩ T (0,0))} β l=cu tmps w β l:=by
     cases l with
     |slot s=>rfl
     |cell r i=>
      simp only [aK.at]at av;cases ai:look st.H r with
      |none=>simp [ai]at av
      |some c=>
       obtain⟨cY,kU,pJ,fA,bm,_⟩:=h.box r c ai;simp only [cu,fA];rw [sb (w:=w) (by simp [Array.getElem?_push,Nat.ne_of_lt (lt_of_heap bm)])]
    rw [aa]at hb;exact Z.lt hb
   by_cases jI:r=dG
   ·subst jI;simp;omega
   ·simp [jI];exact hg.unbox l e hD b r c av aG hb (by simpa [dX,Ne.symm jI]using ai)
 ·intro r c ai;by_cases jI:r=dG
  ·subst jI;simp [dX]at ai;subst ai;refine⟨w.heap.size,vs,T,by simp,by simp,hlen,λo=>?_,?_,jg,hlies⟩
   ·cases hm:M w.heap.size o with
    |none=>rfl
    |some v=>have:=lt_of_cell (h.mem _ _ _ hm);omega
   ·cases dN:K.F w.heap.size with
    |none=>rfl
    |some a6=>have:=lt_of_heap (h.frame _ a6 dN).1;omega
  ·obtain⟨b,kU,hD,Z,aa,aj⟩:=hg.box r c (by simpa [dX,Ne.symm jI]using ai)
   exact⟨b,kU,hD,by simp [jI,Z],aa,aj⟩
 ·intro r dv b c mg ai gc hb bY;by_cases jI:r=dG<;>by_cases xP:dv=dG
  ·rw [jI,xP]
  ·simp [jI]at hb;simp [xP]at bY;have:=h.BE (by simpa [dX,Ne.symm xP]using gc) bY
   omega
  ·simp [xP]at bY;simp [jI]at hb;have:=h.BE (by simpa [dX,Ne.symm jI]using ai) hb
   omega
  ·simp [jI]at hb;simp [xP]at bY;exact h.inj r dv b c mg (by simpa [dX,Ne.symm jI]using ai) (by simpa [dX,Ne.symm xP]using gc) hb bY
 ·intro r b hb;by_cases jI:r=dG
  ·subst jI;exact aed
  ·simp [jI]at hb;have:=h.lt r b hb;simp;omega
 ·exact hg.mem
 ·exact hg.m0
 ·exact hg.frame
 ·intro r b hb;exact c' r b (h.iP r b hb)
 ·exact hg.jx
 ·exact hg.h7
end
section
variable {P:Program} {K:Ctx} {M M':Mem} {β β':Nat→Option Nat} {st b8:aK} {tmps fW:Array Value} {w w':World}
def bN.MQ(h:bN P K M β st tmps w){r b:Nat}{cs:List a7}(ai:look st.H r=some cs)(hb:β r=some b){vs vs':List Value}{T:TypeId}
 (bm:w.heap[b]? = some (.cells ⟨vs⟩ T (0,0))) {cs':List a7} (hlen:vs'.length=cs'.length) (jg:∀v,v∈vs'→v.oneCell'=true) (hlies:lr P T vs.length cs→lr P T vs'.length cs') (et:cs'.length=cs.length)
 (n8:w'.heap[b]? = some (.cells ⟨vs'⟩ T (0,0))) (BF:∀bG,bG≠b→w'.heap[bG]? = w.heap[bG]?) (i0:Nat)
 (aw:∀(i:Nat) v e,vs'[i]? = some v→cs'[i]? = some e→cy M β v e.d∧∀T,e.own=some T→
  (i≠i0∧(∃b3,cs[i]? = some b3∧b3.own=some T)∧vs[i]? = some v)∨(i=i0∧nm P K M β st tmps w (.cell r i0) v T)) (oS:(w'.os,w'.output)=(w.os,w.output):=by rfl):
 bN P K M β {st with H:=(r,cs')::st.H} tmps w':=by
 have F7:K.F b=none∧∀o,M b o=none:=by
  obtain⟨cY,_,_,Z,_,_,aa,aj,_⟩:=h.box r cs ai;rw [hb]at Z;cases Z;exact⟨aj,aa⟩
 have aef:lr P T vs.length cs:=by
  obtain⟨cY,kU,hD,Z,aa,_,_,_,_,aj⟩:=h.box r cs ai;rw [hb]at Z;cases Z;rw [bm]at aa;cases aa;exact aj
 have ih:∀bG,bG≠b→∀o,w'.cell? ⟨bG,o,none⟩=w.cell? ⟨bG,o,none⟩:=λbG dh o=>sb (BF bG dh)
 have dh:∀dv c bG,look st.H dv=some c→β dv=some bG→dv≠r→bG≠b:=λdv c bG gc bY dh e=>dh (h.inj dv r bG c cs gc ai bY (e ▸ hb))
 have gl:∀l e,({st with H:=(r,cs')::st.H}:aK).at l=some e→(∃i v,l = .cell r i∧cs'[i]? = some e∧vs'[i]? = some v∧cu tmps w' β l=v)∨(st.at l=some e∧cu tmps w' β l=cu tmps w β l∧∀i,l ≠ .cell r i):=by
  intro l e ab;cases l with
  |slot s=>exact .inr ⟨ab,rfl,by simp⟩
  |cell dv i=>
   by_cases lu:dv=r
   ·subst lu;simp [aK.at,dX]at ab;have hi:i<cs'.length:=(List.getElem?_eq_some_iff.1 ab).1;have e_:vs'[i]? = some vs'[i]:=List.getElem?_eq_getElem (by omega)
    exact .inl ⟨i,_,rfl,ab,e_,by simp only [cu,hb,cell_of_heap n8,e_,Option.getD_some]⟩
   ·have dF:st.at (.cell dv i)=some e:=by simpa [aK.at,dX,Ne.symm lu]using ab
    refine .inr ⟨dF,?_,by simp [lu]⟩
    simp only [aK.at]at dF;cases gc:look st.H dv with
    |none=>simp [gc]at dF
    |some c=>
     obtain⟨cY,_,_,c',_⟩:=h.box dv c gc;simp only [cu,c'];rw [ih cY (dh dv c cY gc c' lu)]
 have gk:∀l e T,({st with H:=(r,cs')::st.H}:aK).at l=some e→e.own=some T→
  (l ≠ .cell r i0∧(∃b3,st.at l=some b3∧b3.own=some T)∧cu tmps w' β l=cu tmps w β l)∨(l = .cell r i0∧nm P K M β st tmps w (.cell r i0) (cu tmps w' β l) T):=by
  intro l e hD ab aG;rcases gl l e ab with⟨i,v,rfl,hi,e_,cj⟩|⟨av,cj,iQ⟩
  ·rcases(aw i v e e_ hi).2 hD aG with⟨aeg,⟨b3,MR,kV⟩,hold⟩|⟨rfl,hn⟩
   ·refine .inl ⟨by simp [aeg],⟨b3,by simp [aK.at,ai,MR],kV⟩,?_⟩
    rw [cj];simp only [cu,hb,cell_of_heap bm,hold,Option.getD_some]
   ·exact .inr ⟨rfl,by rw [cj];exact hn⟩
  ·exact .inl ⟨iQ i0,⟨e,av,aG⟩,cj⟩
 have fj:∀dv c,look ((r,cs')::st.H) dv=some c→∃mg,look st.H dv=some mg:=by
  intro dv c hc;by_cases lu:r=dv
  ·exact⟨cs,lu ▸ ai⟩
  ·exact⟨c,by simpa [dX,lu]using hc⟩
 constructor
 ·intro l e ab;rcases gl l e ab with⟨i,v,rfl,hi,e_,cj⟩|⟨av,cj,iQ⟩
  ·rw [cj];exact(aw i v e e_ hi).1
  ·rw [cj];exact h.fv l e av
 ·intro l e hD ab aG;rcases gk l e hD ab aG with⟨_,⟨b3,h0,kV⟩,cj⟩|⟨rfl,hn⟩
  ·rw [cj];refine(h.own l b3 hD h0 kV).congr (λcY c'=>BF cY ?_) (λ_ _ _=>rfl)
   rintro rfl
   exact h.unbox l b3 hD cY r cs h0 kV c' ai hb
  ·refine hn.own.congr (λcY c'=>BF cY ?_) (λ_ _ _=>rfl)
   rintro rfl
   exact hn.unbox cY r cs c' ai hb
 ·intro l cG e bg hD pJ cY ab aG dF eg c' u';rcases gk l e hD ab aG with⟨hl0,⟨b3,h0,kV⟩,cj⟩|⟨rfl,hn⟩<;>rcases gk cG bg pJ dF eg with⟨aeh,⟨xQ,tu,BG⟩,qO⟩|⟨rfl,F8⟩
  ·rw [cj]at c';rw [qO]at u';exact h.uniq l cG b3 xQ hD pJ cY h0 kV tu BG c' u'
  ·rw [cj]at c';exact absurd c' (F8.apart l b3 hD cY h0 kV hl0 u')
  ·rw [qO]at u';exact absurd u' (hn.apart cG xQ pJ cY tu BG aeh c')
  ·rfl
 ·intro l e hD cY dv c ab aG c' gc;obtain⟨mg,ka⟩:=fj dv c gc;rcases gk l e hD ab aG with⟨_,⟨b3,h0,kV⟩,cj⟩|⟨rfl,hn⟩
  ·rw [cj]at c';exact h.unbox l b3 hD cY dv mg h0 kV c' ka
  ·exact hn.unbox cY dv mg c' ka
 ·intro dv c gc;by_cases lu:r=dv
  ·subst lu;simp [dX]at gc;subst gc;exact⟨b,vs',T,hb,n8,hlen,F7.2,F7.1,jg,hlies aef⟩
  ·have iR:look st.H dv=some c:=by simpa [dX,lu]using gc
   obtain⟨cY,kU,hD,Z,aa,aj⟩:=h.box dv c iR;exact⟨cY,kU,hD,Z,(BF cY (dh dv c cY iR Z (Ne.symm lu))).trans aa,aj⟩
 ·intro r1 r2 cY c1 c2 iu iR c' fA;obtain⟨Vo,Z⟩:=fj r1 c1 iu;obtain⟨Vp,aa⟩:=fj r2 c2 iR;exact h.inj r1 r2 cY Vo Vp Z aa c' fA
 ·exact h.lt
 ·intro cY o v hm;by_cases qP:cY=b
  ·subst qP;rw [F7.2 o]at hm;cases hm
  ·rw [ih cY qP];exact h.mem cY o v hm
 ·exact h.m0
 ·intro cY a6 dN;have qP:cY≠b:=by rintro rfl;rw [F7.1]at dN;cases dN
  obtain⟨Z,aa⟩:=h.frame cY a6 dN;exact⟨(BF cY qP).trans Z,aa⟩
 ·exact h.iP
 ·exact h.jx
 ·exact oS.trans h.h7
def n9:∀(l:List Nat) (env:List (Nat×a7)) (s:Nat),
 look (hB l env) s=if s∈l then(look env s).map (λe=>{e with own:=none})else look env s
 |[],env,s=>by simp [hB]
 |t::l,env,s=>by
  have aH:=n9 l env s;simp only [hB];cases aF:look env t with
  |none=>
   simp only [aH];by_cases hs:s=t
   ·subst hs;simp [aF]
   ·simp [hs]
  |some e=>
   simp only [dX];by_cases hs:t=s
   ·subst hs;simp [aF]
   ·simp [hs,Ne.symm hs,aH]
def bN.hJ(h:bN P K M β st tmps w)(l:List Nat):bN P K M β {st with env:=hB l st.env} tmps w:=by
 refine h.sub rfl (λhK bg ab=>?_) (λr cs ai=>⟨cs,ai,rfl⟩)
 cases hK with
 |slot s=>
  simp only [aK.at,n9]at ab ⊢;by_cases hs:s∈l
  ·simp only [hs,if_true,Option.map_eq_some_iff]at ab;obtain⟨e,he,rfl⟩:=ab;exact⟨e,he,rfl,by simp⟩
  ·simp only [hs,if_false]at ab;exact⟨bg,ab,rfl,λ_ h=>h⟩
 |cell r i=>exact⟨bg,ab,rfl,λ_ h=>h⟩
def bN.hand(h:bN P K M β st tmps w){s:Nat}{e:a7}{T:TypeId}(hs:look st.env s=some e)(aG:e.own=some T)(l0:Loc):
 nm P K M β {st with env:=hB [s] st.env} tmps w l0 (tmps.getD s undef) T:=by
 have ab:st.at (.slot s)=some e:=hs;refine⟨h.own (.slot s) e T ab aG,λl bg T' b dF eg _ hb bY=>?_,λb r cs hb ai=>h.unbox (.slot s) e T b r cs ab aG hb ai⟩
 have eQ:∃e2,st.at l=some e2∧e2.own=some T'∧l ≠ .slot s:=by
  cases l with
  |slot xR=>
   simp only [aK.at,n9]at dF ⊢;by_cases MS:xR=s
   ·subst MS;simp at dF;obtain⟨_,_,rfl⟩:=dF;simp at eg
   ·simp [MS]at dF;exact⟨bg,dF,eg,by simp [MS]⟩
  |cell r i=>exact⟨bg,dF,eg,by simp⟩
 obtain⟨e2,aa,aei,dh⟩:=eQ;exact dh (h.uniq l (.slot s) e2 e T' T b aa aei ab aG bY hb)
def bN.Vq(h:bN P K M β st tmps w){r i:Nat}{cs cs':List a7}{e:a7}{T:TypeId}(ai:look st.H r=some cs)(hi:cs[i]? = some e)(aG:e.own=some T)
 (et:cs'.length=cs.length) (mS:∀(j:Nat) bg,cs'[j]? = some bg→∃b3,cs[j]? = some b3∧b3.d=bg.d∧(∀T,bg.own=some T→b3.own=some T∧j≠i)) (l0:Loc):
 bN P K M β {st with H:=(r,cs')::st.H} tmps w∧nm P K M β {st with H:=(r,cs')::st.H} tmps w l0 (cu tmps w β (.cell r i)) T:=by
 have ab:st.at (.cell r i)=some e:=by simp [aK.at,ai,hi]
 have gl:∀l bg,({st with H:=(r,cs')::st.H}:aK).at l=some bg→∃b3,st.at l=some b3∧b3.d=bg.d∧∀T,bg.own=some T→b3.own=some T∧l ≠ .cell r i:=by
  intro l bg dF;cases l with
  |slot s=>exact⟨bg,dF,rfl,λT h=>⟨h,by simp⟩⟩
  |cell dv j=>
   by_cases lu:r=dv
   ·subst lu;simp [aK.at,dX]at dF;obtain⟨b3,Z,aa,aj⟩:=mS j bg dF;exact⟨b3,by simp [aK.at,ai,Z],aa,λT aG=>⟨(aj T aG).1,by simp [(aj T aG).2]⟩⟩
   ·refine⟨bg,by simpa [aK.at,dX,lu]using dF,rfl,λT h=>⟨h,by simp [Ne.symm lu]⟩⟩
 have fj:∀dv c,look ((r,cs')::st.H) dv=some c→∃mg,look st.H dv=some mg∧mg.length=c.length:=by
  intro dv c hc;by_cases lu:r=dv
  ·subst lu;simp [dX]at hc;subst hc;exact⟨cs,ai,et.symm⟩
  ·exact⟨c,by simpa [dX,lu]using hc,rfl⟩
 refine⟨h.sub rfl (λl bg dF=>?_) fj,h.own _ e T ab aG,λl bg T' b dF eg _ hb bY=>?_,λb dv c hb gc=>?_⟩
 ·obtain⟨b3,Z,aa,aj⟩:=gl l bg dF;exact⟨b3,Z,aa,λT aG=>(aj T aG).1⟩
 ·obtain⟨b3,Z,_,aj⟩:=gl l bg dF;exact(aj T' eg).2 (h.uniq l _ b3 e T' T b Z (aj T' eg).1 ab aG bY hb)
 ·obtain⟨mg,Z,_⟩:=fj dv c gc;exact h.unbox _ e T b dv mg ab aG hb Z
def MT(l0:Loc)(T:TypeId):nm P K M β st tmps w l0 (.slice none 0 0) T:=
 ⟨.inl rfl,λ_ _ _ _ _ _ _ hb=>by simp [h8]at hb,λ_ _ _ hb=>by simp [h8]at hb⟩
def Vr:∀{l:List Nat} {env n7:List (Nat×a7)},BB env l=some n7→∀s e,look n7 s=some e→look env s=some e
 |[],env,n7,h,s,e,he=>by simp [BB]at h;subst h;simp [look]at he
 |t::l,env,n7,h,s,e,he=>by
  simp only [BB]at h;split at h<;>simp at h
  rename_i e1 hK Z aa;subst h;rw [dX]at he;by_cases kv:t=s
  ·simp [kv]at he;subst he;rw [←kv];exact Z
  ·simp [kv]at he;exact Vr aa s e he
def MU:∀{l:List Nat} {H bP:List (Nat×List a7)},BC H l=some bP→∀s e,look bP s=some e→look H s=some e
 |[],env,n7,h,s,e,he=>by simp [BC]at h;subst h;simp [look]at he
 |t::l,env,n7,h,s,e,he=>by
  simp only [BC]at h;split at h<;>simp at h
  rename_i e1 hK Z aa;subst h;rw [dX]at he;by_cases kv:t=s
  ·simp [kv]at he;subst he;rw [←kv];exact Z
  ·simp [kv]at he;exact MU aa s e he
def sc{α:Type}:∀{l:List (Nat×α)} {i:Nat} {x:α},look l i=some x→(i,x)∈l
 |[],_,_,h=>by simp [look]at h
 |(j,y)::l,i,x,h=>by
  rw [dX]at h;by_cases hj:j=i
  ·simp [hj]at h;subst h;simp [hj]
  ·simp [hj]at h;exact List.mem_cons_of_mem _ (sc h)
def MV{n:Nat}:∀{l:List a7} {i:Nat} {e:a7},tq n l=true→l[i]? = some e→below n e.d=true
 |[],_,_,_,h=>by simp at h
 |d::l,0,_,hb,h=>by simp [tq]at hb;simp at h;exact h ▸ hb.1
 |d::l,i+1,_,hb,h=>by simp [tq]at hb;simp at h;exact MV hb.2 h
def bN.u6(h:bN P K M β st tmps w){live xS:List Nat}{n:Nat}(ai:Ab.u6 live xS n st.env st.H st.aX=some b8)(eF:∀r b,K.lq r=some b→r<n):
 ∃ β',bN P K M β' b8 tmps w:=by
 unfold Ab.u6 at ai;split at ai
 case h_2=>cases ai
 rename_i n7 bP he fj;rw [Bool.cond_eq_ite]at ai;split at ai
 case isFalse=>cases ai
 rename_i hc;cases ai;simp only [Bool.and_eq_true,List.all_eq_true,Prod.forall,Nat.blt_eq,Nat.ble_eq]at hc;obtain⟨⟨hn,aej⟩,Vs⟩:=hc
 have Z:bN P K M β {env:=n7,H:=bP,aX:=st.aX} tmps w:=by
  refine h.sub rfl (λl bg ab=>?_) (λr cs ai=>⟨cs,MU fj _ _ ai,rfl⟩)
  refine⟨bg,?_,rfl,λ_ h=>h⟩
  cases l with
  |slot s=>exact Vr he _ _ ab
  |cell r i=>
   simp only [aK.at]at ab ⊢;cases ai:look bP r with
   |none=>simp [ai]at ab
   |some c=>simp [ai]at ab;simp [MU fj _ _ ai,ab]
 have nn:∀l e,({env:=n7,H:=bP,aX:=st.aX}:aK).at l=some e→below n e.d=true∧(∀r i,l = .cell r i→r<n):=by
  intro l e ab;cases l with
  |slot s=>exact⟨aej s e (sc ab),by simp⟩
  |cell r i=>
   simp only [aK.at]at ab;cases ai:look bP r with
   |none=>simp [ai]at ab
   |some c=>
    simp [ai]at ab;have:=Vs r c (sc ai)
    exact⟨MV this.2 ab,by rintro dv mT h;cases h;exact this.1⟩
 refine⟨λr=>if r<n then β r else none,?_⟩
 have cj:∀l e,({env:=n7,H:=bP,aX:=st.aX}:aK).at l=some e→cu tmps w (λr=>if r<n then β r else none) l=cu tmps w β l:=by
  intro l e ab;cases l with
  |slot s=>rfl
  |cell r i=>simp [cu,(nn _ _ ab).2 r i rfl]
 have jI:∀r c,look bP r=some c→r<n:=λr c ai=>(Vs r c (sc ai)).1
 constructor
 ·intro l e ab;rw [cj l e ab];exact(Z.fv l e ab).Vj (λr ai=>by simp [ai]) (nn l e ab).1
 ·intro l e T ab aG;rw [cj l e ab];exact Z.own l e T ab aG
 ·intro l cG e bg T T' b ab aG dF eg hb bY;rw [cj l e ab]at hb;rw [cj cG bg dF]at bY;exact Z.uniq l cG e bg T T' b ab aG dF eg hb bY
 ·intro l e T b r cs ab aG hb ai;rw [cj l e ab]at hb;have:=Z.unbox l e T b r cs ab aG hb ai
  simpa [jI r cs ai]using this
 ·intro r cs ai;obtain⟨b,vs,T,aa,aj⟩:=Z.box r cs ai;exact⟨b,vs,T,by simpa [jI r cs ai]using aa,aj⟩
 ·intro r dv b cs cs' ai gc hb bY;exact Z.inj r dv b cs cs' ai gc (by simpa [jI r cs ai]using hb) (by simpa [jI dv cs' gc]using bY)
 ·intro r b hb;by_cases cX:r<n
  ·exact cX
  ·simp [cX]at hb
 ·exact Z.mem
 ·exact Z.m0
 ·exact Z.frame
 ·intro r b hb;simp [eF r b hb,Z.iP r b hb]
 ·exact Z.jx
 ·exact Z.h7
end
def lw(P:Program):TypeDesc→Option mc
 |.int k=>some (.int k)
 |.bool=>some .bool
 |.string=>some .str
 |.struct cx=>some (.ca (cx.toList.map λf=>(f.offset,f.type,P.cellsOf f.type)))
 |.slice e=>some (.bH e)
 |.array n e=>some (.arr n e)
 |.pointer _=>some .ptr
 |.func _ _ _=>some .a'
 |.interface _=>some .oO
 |_=>none
def u_:Value→V→Bool
 |.int k n,.int k' n'=>decide (k=k')&&decide (n=n')
 |.bool a,.bool b=>a == b
 |.string s,.str l=>decide (s.data.toList=l)
 |.slice none 0 0,.bH _ n _=>Nat.beq n 0
 |.pointer none,.eA=>true
 |.nilIface,.ir=>true
 |.nilFunc,.aV=>true
 |_,_=>false
def va:List Value→List V→Bool
 |[],[]=>true
 |v::vs,x::xs=>u_ v x&&va vs xs
 |_,_=>false
def xT(P:Program)(inner:TypeId→List Field→Bool):Nat→List Field→Bool
 |_,[]=>true
 | i, f :: l => Nat.beq f.offset i && !decide (f.name = "_") && (match P.underlying f.type with
  |some (.int _) |some .bool |some .string=>xT P inner (i+1) l
  |some (.struct gs)=>inner f.type gs.toList&&xT P inner (i+P.cellsOf f.type) l
  |_=>false)
def sd(P:Program):Nat→List Field→Nat
 | 0,cx=>cx.length
 |d+1,cx=>(cx.map λf=>match P.underlying f.type with
  |some (.struct gs)=>sd P d gs.toList
  |_=>1).sum
def vb(P:Program):Nat→Nat→List Field→Bool
 | 0=>xT P λ_ _=>false
 |d+1=>xT P λt gs=>!P.stoodInHeld t&&Nat.beq (P.cellsOf t) (sd P d gs)&&vb P d 0 gs
def MW(P:Program)(t:TypeId):Bool:=
 match P.underlying t with
 |some (.struct cx)=>!P.stoodInHeld t && !P.eqGuardType P.depth t&&vb P 4 0 cx.toList
 |_=>false
def Vt(P:Program)(t:TypeId)(aS:eM):Bool:=
 match P.info? t,P.underlying t with
 |some i,some d=>decide (lw P d=some aS.k)&&Nat.beq i.size aS.size&&Nat.beq i.bytes aS.bytes&&Nat.beq aS.zero.length aS.size &&
  aS.jG.all (λx=>liesAt P P.depth t (aS.size / P.cellsOf t) x.1 x.2 1) &&
  (match i.zero with|some z=>va z.cells.toList aS.zero&&(match z with|.agg _=>aS.k.isAgg|.tuple _=>false|_=>!aS.k.isAgg)|none=>false)
 |_,_=>false
def fB(P:Program)(tt:dI):Bool:=tt.all λx=>Vt P x.1 x.2
def MX{M:Mem}{v:Value}{x:V}(h:u_ v x=true):de M v x∧v.oneCell'=true:=by
 unfold u_ at h;split at h<;>simp at h
 ·obtain⟨rfl,rfl⟩:=h;exact⟨.int _ _,rfl⟩
 ·subst h;exact⟨.bool _,rfl⟩
 ·rename_i s l;subst h;exact⟨by exact .str s.data.toList,rfl⟩
 ·subst h;exact⟨.md _ _,rfl⟩
 ·exact⟨.eA,rfl⟩
 ·exact⟨.ir,rfl⟩
 ·exact⟨.aV,rfl⟩
def xU{M:Mem}:∀{vs:List Value} {xs:List V},va vs xs=true→vs.length=xs.length∧(∀v,v∈vs→v.oneCell'=true)∧∀(i:Nat) v x,vs[i]? = some v→xs[i]? = some x→de M v x∧u_ v x=true
 |[],[],_=>by simp
 |[],_::_,h=>by simp [va]at h
 |_::_,[],h=>by simp [va]at h
 |v::vs,x::xs,h=>by
  simp [va]at h;obtain⟨Z,aa,aj⟩:=xU (M:=M) h.2;refine⟨by simp [Z],?_,?_⟩
  ·intro u hu;rcases List.mem_cons.1 hu with rfl|hu
   ·exact(MX (M:=M) h.1).2
   ·exact aa u hu
  ·intro i u y hu ce;cases i with
   |zero=>simp at hu ce;subst hu;subst ce;exact⟨(MX h.1).1,h.1⟩
   |succ i=>simp at hu ce;exact aj i u y hu ce
structure Row(P:Program)(t:TypeId)(aS:eM) where
 info:TypeInfo
 desc:TypeDesc
 z:Value
 hi:P.info? t=some info
 hd:P.underlying t=some desc
 hk:lw P desc=some aS.k
 size:info.size=aS.size
 bytes:info.bytes=aS.bytes
 dw:info.zero=some z
 MY:aS.zero.length=aS.size
 BH:va z.cells.toList aS.zero=true
 jG:(aS.jG.all λx=>liesAt P P.depth t (aS.size / P.cellsOf t) x.1 x.2 1)=true
 ar9:match z with|.agg _=>aS.k.isAgg=true|.tuple _=>False|_=>aS.k.isAgg=false
theorem eI{P:Program}{tt:dI}(h:fB P tt=true){t:TypeId}{aS:eM}(aF:look tt t=some aS):Nonempty (Row P t aS):=by
 have hm:=sc aF;unfold fB at h;rw [List.all_eq_true]at h;have:=h _ hm
 unfold Vt at this
 dsimp only at this
 split at this
 case h_2=>cases this
 rename_i i d hi hd;simp only [Bool.and_eq_true,decide_eq_true_eq,Nat.beq_eq]at this;obtain⟨⟨⟨⟨⟨Z,aa⟩,aj⟩,aC⟩,nn⟩,aT⟩:=this;split at aT
 case h_2=>cases aT
 rename_i z dw;simp only [Bool.and_eq_true]at aT
 exact⟨⟨i,d,z,hi,hd,Z,aa,aj,dw,aC,aT.1,nn,by
  have:=aT.2
  cases z<;>simp at this<;>simp [this]⟩⟩
def Row.cellsOf{P:Program}{t:TypeId}{aS:eM}(r:Row P t aS):P.cellsOf t=aS.size:=by
 simp [Program.cellsOf,r.hi,r.size]
section runs
variable {P:Program} {t:TypeId} {aS:eM} (w:World)
def Row.run_sizeOf(r:Row P t aS):(sizeOf t).run P w = .ok aS.size w:=by
 rw [Go.run_sizeOf w r.hi,r.cellsOf]
def Row.F9(r:Row P t aS):(zeroValue t).run P w = .ok r.z w:=by
 simp [zeroValue,typeInfo,r.hi,r.dw]
def Row.run_underlying(r:Row P t aS):(underlying t).run P w = .ok r.desc w:=Go.run_underlying r.hd w
def Row.xV(r:Row P t aS):(isAgg t).run P w = .ok aS.k.isAgg w:=by
 have hk:=r.hk;simp only [isAgg,Sem.run_bind,r.run_underlying,Result.andThen_ok];cases hd:r.desc<;>simp [hd,lw]at hk<;>simp [←hk,mc.isAgg]
end runs
def fN(tmps:Array Value)(p:Path):Prop:=∀x,x∈p→tmps.getD x.1 undef = .bool x.2
structure fX(P:Program)(K:Ctx)(N:Nat)(M:Mem)(β:Nat→Option Nat)(g:dk)(tmps:Array Value)(w:World):Prop where
 bw:bN P K M β {env:=g.env,H:=g.H,aX:=g.aX} tmps w
 size:tmps.size=N
 fresh:∀s id,look g.ids s=some id→look g.H id=none→∀b,β id≠some b
 cond:∀t q d,look g.b5 t=some (q,d)→(fN tmps q→cy M β (tmps.getD t undef) d)∧(¬ fN tmps q→tmps.getD t undef=undef)
def Path.aek{q p:Path}(h:q.sub p=true){tmps:Array Value}(hp:fN tmps p):fN tmps q:=by
 intro x hx;unfold Path.sub at h;rw [List.all_eq_true]at h;have:=h x hx
 unfold Path.has at this;rw [List.any_eq_true]at this;obtain⟨y,ce,pK⟩:=this;simp at pK
 have Z:=hp y ce;rw [←pK.1,←pK.2];exact Z
def ael{M:Mem}{v:Value}{x:V}(h:MD v=some x):de M v x:=by
 unfold MD at h;split at h<;>simp at h<;>subst h
 ·exact .int _ _
 ·exact .bool _
 ·rename_i s;exact .str s.data.toList
 ·exact .eA
 ·exact .ir
 ·exact .aV
def eh{P:Program}{K:Ctx}{N:Nat}{M:Mem}{β:Nat→Option Nat}{g:dk}{tmps:Array Value}{w:World}(h:fX P K N M β g tmps w){p:Path}(hp:fN tmps p){tt:dI}{ty:TypeId}{x:Operand}{d:D}
 (hx:rd g.env g.b5 p tt ty x=some d) {ds:List Deferred}:cy M β ((⟨tmps,ds⟩:Act).eval x) d:=by
 cases x with
 |tmp t=>
  simp only [rd]at hx;split at hx
  ·rename_i q dE hc;rw [Bool.cond_eq_ite]at hx;split at hx<;>simp at hx
   subst hx;exact(h.cond t q dE hc).1 (Path.aek (by assumption) hp)
  ·simp only [Option.map_eq_some_iff]at hx;obtain⟨e,he,rfl⟩:=hx;exact h.bw.fv (.slot t) e he
 |const v=>
  simp only [rd]at hx;split at hx
  ·rename_i heq;cases heq
  ·rename_i heq;cases heq;split at hx
   ·cases hx;exact .v _ _ (.md _ _)
   ·cases hx
  ·rename_i heq;cases heq;simp only [Option.map_eq_some_iff]at hx;obtain⟨y,ce,rfl⟩:=hx;exact .v _ _ (ael ce)
  ·rename_i heq;cases heq
  ·rename_i heq;cases heq
 |global n=>simp [rd]at hx
 |func f=>
  simp [rd]at hx;subst hx;exact .fn f [] [] rfl (by simp)
def aem{v:Value}(h:v.oneCell'=true):v.cells = #[v]:=by
 cases v<;>first|rfl|(simp [Value.oneCell']at h)
def cy.cells{M:Mem}{β:Nat→Option Nat}{v:Value}{d:D}(h:cy M β v d)(aF:r8 d=false):
 v.cells.toList.length=(cellsD d).length∧(∀u,u∈v.cells.toList→u.oneCell'=true)∧∀(i:Nat) u c,v.cells.toList[i]? = some u→(cellsD d)[i]? = some c→cy M β u c:=by
 have single:∀{v:Value} {d:D},v.cells = #[v]→cellsD d=[d]→v.oneCell'=true→cy M β v d→
  v.cells.toList.length=(cellsD d).length∧(∀u,u∈v.cells.toList→u.oneCell'=true)∧∀(i:Nat) u c,v.cells.toList[i]? = some u→(cellsD d)[i]? = some c→cy M β u c:=by
  intro v d Z aa aj aC;rw [Z,aa];refine⟨rfl,by simpa using aj,λi u c hu hc=>?_⟩
  cases i with
  |zero=>simp at hu hc;subst hu;subst hc;exact aC
  |succ i=>simp at hu
 cases h with
 |v u x hx=>
  cases hx with
  |agg vs cs hn Z ai=>
   refine⟨by simp [Value.cells,cellsD,V.cells,hn],by simpa [Value.cells]using Z,λi u c hu hc=>?_⟩
   simp [Value.cells]at hu;simp [cellsD,V.cells]at hc;obtain⟨a,ha,rfl⟩:=hc;exact .v _ _ (ai i u a hu ha)
  |any v Z=>exact single (aem Z) rfl Z (.v _ _ (.any _ Z))
  |_=>exact single rfl rfl rfl (.v _ _ (by constructor<;>assumption))
 |ptr r off b hb=>exact single rfl rfl rfl (.ptr r off b hb)
 |lW r off u=>exact single rfl rfl rfl (.lW r off u)
 |ct r off b u hb=>exact single rfl rfl rfl (.ct r off b u hb)
 |e6 b off x val cT Z ai=>exact single rfl rfl rfl (.e6 b off x val cT Z ai)
 |full b k n get h=>exact single rfl rfl rfl (.full b k n get h)
 |fn f vs cs hn ai=>exact single rfl rfl rfl (.fn f vs cs hn ai)
 |agg vs cs hn Z ai=>exact⟨hn,Z,ai⟩
 |cw vs cs hn ai=>simp [r8]at aF
def aen{cs:List D}:∀{xs:List V},Bv cs=some xs→cs=xs.map .v:=by
 induction cs with
 |nil=>intro xs h;simp [Bv]at h;subst h;rfl
 |cons d l aH=>
  intro xs h;cases d<;>simp [Bv]at h
  obtain⟨ys,ce,rfl⟩:=h;simp [aH ce]
def F'{M:Mem}{β:Nat→Option Nat}{vs:List Value}{cs:List D}(hn:vs.length=cs.length)(Z:∀v,v∈vs→v.oneCell'=true)
 (h:∀(i:Nat) v c,vs[i]? = some v→cs[i]? = some c→cy M β v c):cy M β (.agg ⟨vs⟩) (qJ cs):=by
 unfold qJ;split
 ·rename_i xs hx;have:=aen hx
  subst this;refine .v _ _ (.agg vs xs (by simpa using hn) Z λi v c aw hc=>?_)
  have:=h i v (.v c) aw (by simp [hc])
  cases this;assumption
 ·exact .agg vs cs hn Z h
section
variable {P:Program} {K:Ctx} {N:Nat} {M:Mem} {β:Nat→Option Nat} {st:aK} {g:dk} {tmps:Array Value} {w:World} {v:Value}
def mh{k:IntKind}{n:Int}(h:cy M β v (.v (.int k n))):v = .int k n:=by
 cases h with|v u x h=>cases h;rfl
def n_{x:V}(h:cy M β v (.v x)):de M v x:=by
 cases h with|v u x h=>exact h
def vc{b:Bool}(h:cy M β v (.v (.bool b))):v = .bool b:=by
 cases h with|v u x h=>cases h;rfl
def mU{l:atW}(h:cy M β v (.v (.str l))):v = .string ⟨⟨l⟩⟩:=by
 cases h with|v u x h=>cases h;rfl
def se{r off:Nat}(h:cy M β v (.ptr r off)):∃b,β r=some b∧v = .pointer (some ⟨b,off,none⟩):=by
 cases h with|ptr r off b h=>exact⟨b,h,rfl⟩
def MZ{t:TypeId}{x:V}(h:cy M β v (.v (.iface t x))):∃u,v = .iface t u∧de M u x:=by
 cases h with|v u x h=>cases h with|iface t u x h=>exact⟨u,rfl,h⟩
def aeo{cs:List V}(h:cy M β v (.v (.agg cs))):∃vs:List Value,v = .agg ⟨vs⟩∧vs.length=cs.length∧(∀u,u∈vs→u.oneCell'=true)∧∀(i:Nat) u c,vs[i]? = some u→cs[i]? = some c→de M u c:=by
 cases h with|v u x h=>cases h with|agg vs cs hn Z h=>exact⟨vs,rfl,hn,Z,h⟩
def aep{cs:List D}(h:cy M β v (.cw cs)):∃vs:List Value,v = .tuple ⟨vs⟩∧vs.length=cs.length∧∀(i:Nat) u c,vs[i]? = some u→cs[i]? = some c→cy M β u c:=by
 cases h with|cw vs cs hn h=>exact⟨vs,rfl,hn,h⟩
def Vu{f:FuncId}{cs:List D}(h:cy M β v (.fn f cs)):∃vs:List Value,v = .func (.func f) #[] ⟨vs⟩∧vs.length=cs.length∧∀(i:Nat) u c,vs[i]? = some u→cs[i]? = some c→cy M β u c:=by
 cases h with|fn f vs cs hn h=>exact⟨vs,rfl,hn,h⟩
def tv{k n:Nat}{get:Nat→V}(h:cy M β v (.v (.bH k n get))):((v = .slice none 0 0∨∃a,v = .slice (some a) 0 0)∧n=0)∨
 ∃(b off cap:Nat) (val:Nat→Nat→Value),v = .slice (some ⟨b,off,none⟩) n cap∧n≤cap∧(∀i,i<n→(get i).cells.length=k)∧(∀i j,i<n→j<k→M b (off+i*k+j)=some (val i j))∧
  (∀i j,i<n→j<k→(val i j).oneCell'=true)∧(∀(i j:Nat) c,i<n→(get i).cells[j]? = some c→de M (val i j) c):=by
 cases h with
 |v u x h=>
  cases h with
  |md=>exact .inl ⟨.inl rfl,rfl⟩
  |pC a=>exact .inl ⟨.inr ⟨a,rfl⟩,rfl⟩
  |bH b off k n cap get val hc hk cT Z h=>exact .inr ⟨b,off,cap,val,rfl,hc,hk,cT,Z,h⟩
def F_{x:V}(h:cy M β v (.e6 x)):∃(b off:Nat) (val:Nat→Value),v = .pointer (some ⟨b,off,none⟩)∧(∀j,j<x.cells.length→M b (off+j)=some (val j))∧(∀j,j<x.cells.length→(val j).oneCell'=true)∧
 (∀(j:Nat) c,x.cells[j]? = some c→de M (val j) c):=by
 cases h with|e6 b off x val cT Z h=>exact⟨b,off,val,rfl,cT,Z,h⟩
def vd{k n:Nat}{get:Nat→V}(h:cy M β v (.v (.bH k n get))):∃a cap,v = .slice a n cap∧n≤cap:=by
 rcases tv h with⟨rfl|⟨a,rfl⟩,rfl⟩|⟨b,off,cap,val,rfl,hc,_⟩
 ·exact⟨_,_,rfl,Nat.le_refl _⟩
 ·exact⟨_,_,rfl,Nat.le_refl _⟩
 ·exact⟨_,_,rfl,hc⟩
def addr_add(b off n:Nat):(⟨b,off,none⟩:Addr).add n=⟨b,off+n,none⟩:=by
 unfold Addr.add;split<;>simp_all
def xW{x:V}(hx:x.isAgg=false):x.cells=[x]:=by
 cases x<;>first|rfl|simp [V.isAgg]at hx
def Vv{x:V}{val:Nat→Value}(Z:∀j,j<x.cells.length→(val j).oneCell'=true)(h:∀(j:Nat) c,x.cells[j]? = some c→de M (val j) c):
 de M (bif x.isAgg then .agg ⟨(List.range x.cells.length).map val⟩else val 0) x:=by
 cases hx:x.isAgg with
 |false=>
  have:=xW hx
  simpa using h 0 x (by simp [this])
 |true=>
  cases x<;>simp [V.isAgg]at hx
  rename_i cs;refine .agg _ cs (by simp [V.cells]) ?_ ?_
  ·intro u hu;obtain⟨j,hj,rfl⟩:=List.mem_map.1 hu;exact Z j (by simpa using hj)
  ·intro i u c hu hc;simp only [List.getElem?_map,Option.map_eq_some_iff]at hu;obtain⟨j,hj,rfl⟩:=hu
   have:j=i:=by
    rw [List.getElem?_eq_some_iff]at hj;obtain⟨_,h⟩:=hj;simpa using h.symm
   subst this;exact h j c hc
def aeq{t:TypeId}{aS:eM}(r:Row P t aS)(F5:∀b o v,M b o=some v→w.cell? ⟨b,o,none⟩=some v){x:V}(aw:cy M β v (.e6 x))(hx:x.isAgg=aS.k.isAgg)(hs:x.cells.length=aS.size):
 ∃u,(Instr.loadAt t v).run P w = .ok u w∧de M u x:=by
 obtain⟨b,off,val,rfl,cT,Z,h⟩:=F_ aw;refine⟨_,?_,Vv Z h⟩
 have ab:∀j,j<aS.size→w.cell? ((⟨b,off,none⟩:Addr).add j)=some (val j):=λj hj=>by rw [addr_add];exact F5 _ _ _ (cT j (by omega))
 cases ha:x.isAgg with
 |true=>
  rw [ha]at hx;simp [Instr.loadAt,Instr.sureAddr,loadVar,r.xV,←hx,r.run_sizeOf,run_loadCells w ⟨b,off,none⟩ aS.size val ab,hs]
 |false=>
  rw [ha]at hx;have h0:=cT 0 (by rw [xW ha];simp)
  have:=F5 _ _ _ h0
  simp [Instr.loadAt,Instr.sureAddr,loadVar,r.xV,←hx,run_load];simp at this
  rw [this]
def Vw{t:TypeId}{aS:eM}(r:Row P t aS){b off:Nat}{vs:List Value}{T:TypeId}{f:Nat×Nat}(bm:w.heap[b]? = some (.cells ⟨vs⟩ T f))(hle:off+aS.size≤vs.length)(ha:aS.k.isAgg=true):
 (Instr.loadAt t (.pointer (some ⟨b,off,none⟩))).run P w = .ok (.agg ⟨(vs.drop off).take aS.size⟩) w:=by
 have hlen:((vs.drop off).take aS.size).length=aS.size:=by simp;omega
 have:=run_loadCells_list (P:=P) w ⟨b,off,none⟩ ((vs.drop off).take aS.size) (λj u hj=>by
  rw [addr_add,cell_of_heap bm];rw [List.getElem?_take]at hj;split at hj
  ·simpa using hj
  ·cases hj)
 rw [hlen]at this;simp [Instr.loadAt,Instr.sureAddr,loadVar,r.xV,ha,r.run_sizeOf,this]
def M0{t:TypeId}{aS:eM}(r:Row P t aS){b off:Nat}{u:Value}(hc:w.cell? ⟨b,off,none⟩=some u)(ha:aS.k.isAgg=false):
 (Instr.loadAt t (.pointer (some ⟨b,off,none⟩))).run P w = .ok u w:=by
 simp [Instr.loadAt,Instr.sureAddr,loadVar,r.xV,ha,run_load,hc]
def M1{t:TypeId}{aS:eM}(r:Row P t aS){cx:List (Nat×TypeId×Nat)}(hk:aS.k = .ca cx):∃gs:Array Field,r.desc = .struct gs∧cx=gs.toList.map λf=>(f.offset,f.type,P.cellsOf f.type):=by
 have:=r.hk
 rw [hk]at this;cases hd:r.desc<;>simp [hd,lw]at this
 exact⟨_,rfl,this.symm⟩
def pL{t:TypeId}{aS:eM}(r:Row P t aS){e:TypeId}(hk:aS.k = .bH e):r.desc = .slice e:=by
 have:=r.hk
 rw [hk]at this;cases hd:r.desc<;>simp [hd,lw]at this
 rw [this]
def qQ{t:TypeId}{aS:eM}(r:Row P t aS)(hk:aS.k = .str):r.desc = .string:=by
 have:=r.hk
 rw [hk]at this;cases hd:r.desc<;>simp [hd,lw]at this;rfl
def BI{t:TypeId}{aS:eM}(r:Row P t aS){k:IntKind}(hk:aS.k = .int k):r.desc = .int k:=by
 have:=r.hk
 rw [hk]at this;cases hd:r.desc<;>simp [hd,lw]at this
 rw [this]
def aer{t:TypeId}{aS:eM}(r:Row P t aS){n:Nat}{e:TypeId}(hk:aS.k = .arr n e):r.desc = .array n e:=by
 have:=r.hk
 rw [hk]at this;cases hd:r.desc<;>simp [hd,lw]at this
 rw [this.1,this.2]
def Vx{s:TypeId}{aS:eM}(r:Row P s aS){cx:List (Nat×TypeId×Nat)}(hk:aS.k = .ca cx){f dL h6 fV:Nat}(aW:cx[f]? = some (dL,h6,fV))(eu:1≤fV)(b off:Nat):
 (Instr.fieldAt s (.pointer (some ⟨b,off,none⟩)) f).run P w = .ok (.pointer (some ⟨b,off+dL,none⟩)) w:=by
 obtain⟨gs,hd,rfl⟩:=M1 r hk;simp only [List.getElem?_map,Option.map_eq_some_iff]at aW;obtain⟨fd,kb,he⟩:=aW;simp only [Prod.mk.injEq]at he;obtain⟨rfl,rfl,rfl⟩:=he;have Ga:gs[f]? = some fd:=by simpa using kb
 have hs:(sizeOf fd.type).run P w = .ok (P.cellsOf fd.type) w:=by
  cases hi:P.info? fd.type with
  |none=>simp [Program.cellsOf,hi]at eu
  |some i=>exact Go.run_sizeOf w hi
 have dh:P.cellsOf fd.type≠0:=by omega
 simp [Instr.fieldAt,r.run_underlying,hd,Ga,Instr.sureAddr,fieldPlace,hs,dh,addr_add]
def Vy{s:TypeId}{aS:eM}(r:Row P s aS){cx:List (Nat×TypeId×Nat)}(hk:aS.k = .ca cx){f dL h6 fV:Nat}(aW:cx[f]? = some (dL,h6,fV)){xX:eM}(r2:Row P h6 xX)(vs:List Value)(hle:dL+fV≤vs.length):
 (xX.k.isAgg=true→(Instr.field s (.agg ⟨vs⟩) f).run P w = .ok (.agg ⟨(vs.drop dL).take fV⟩) w)∧
 (xX.k.isAgg=false→∀u,vs[dL]? = some u→(Instr.field s (.agg ⟨vs⟩) f).run P w = .ok u w):=by
 obtain⟨gs,hd,rfl⟩:=M1 r hk;simp only [List.getElem?_map,Option.map_eq_some_iff]at aW;obtain⟨fd,kb,he⟩:=aW;simp only [Prod.mk.injEq]at he;obtain⟨rfl,rfl,rfl⟩:=he;have Ga:gs[f]? = some fd:=by simpa using kb
 have eu:=r2.cellsOf;refine⟨λha=>?_,λha u hu=>?_⟩
 ·simp [Instr.field,r.run_underlying,hd,Ga,asAgg,part,r2.xV,ha,r2.run_sizeOf,eu,List.extract_eq_take_drop]
 ·simp [Instr.field,r.run_underlying,hd,Ga,asAgg,part,r2.xV,ha,hu]
def aes{t:TypeId}{aS:eM}(r:Row P t aS){e:TypeId}(hk:aS.k = .bH e){cf:eM}(dO:Row P e cf){k:IntKind}{j:Int}{b off n cap:Nat}(h0:0≤j)(Z:j<n):
 (Instr.indexAt t (.slice (some ⟨b,off,none⟩) n cap) (.int k j)).run P w = .ok (.pointer (some ⟨b,off+j.toNat*cf.size,none⟩)) w:=by
 simp [Instr.indexAt,asIntOf,r.run_underlying,pL r hk,h0,Z,dO.run_sizeOf,addr_add]
def aet{t:TypeId}{aS:eM}(r:Row P t aS)(hk:aS.k = .str){k:IntKind}{j:Int}{l:atW}(h0:0≤j)(Z:j<l.length):
 (Instr.index t (.string ⟨⟨l⟩⟩) (.int k j)).run P w = .ok (.int .u8 (l.getD j.toNat 0).toNat) w:=by
 have cX:j.toNat<l.length:=by omega
 have aeu:j.toNat<(ByteArray.mk ⟨l⟩).size:=cX;have hs:(ByteArray.mk ⟨l⟩)[j.toNat]? = some l[j.toNat]:=by rw [getElem?_pos (ByteArray.mk ⟨l⟩) j.toNat aeu];rfl
 simp [Instr.index,asIntOf,r.run_underlying,qQ r hk,h0,hs,List.getElem?_eq_getElem cX]
def Gb(l:atW):(⟨⟨l⟩⟩:ByteArray).toList=l:=by
 rw [ByteArray.toList_eq]
end
section
variable {P:Program} {K:Ctx} {N:Nat} {M:Mem} {β:Nat→Option Nat} {g:dk} {tmps:Array Value} {w:World} {o:Oper} {f:lm} {p:Path} {tt:dI} {cd:gD} {ops:List Oper}
def after(g:dk)(f:lm):aK:={env:=hB f.hJ g.env,H:=f.hs++g.H,aX:=g.aX+f.eP}
def iS(P:Program)(K:Ctx)(M:Mem)(β:Nat→Option Nat)(g:dk)(f:lm)(tmps:Array Value)(v:Value)(w':World):Prop:=
 ∃M' β',M.le M'∧(∀r b,β r=some b→β' r=some b)∧(∀r b,β' r=some b→β r=some b∨(look f.hs r).isSome=true)∧bN P K M' β' (after g f) tmps w'∧
  ∀e,f.e=some e→cy M' β' v e.d∧∀T l0,e.own=some T→nm P K M' β' (after g f) tmps w' l0 v T
def Yields(P:Program)(K:Ctx)(M:Mem)(β:Nat→Option Nat)(g:dk)(f:lm)(o:Oper)(tmps:Array Value)(w:World):Prop:=
 (∃v w',(execOp (Act.eval ⟨tmps,[]⟩) o).run P w = .ok (.value v) w'∧iS P K M β g f tmps v w')∨
 (f.e=none∧∃w',(execOp (Act.eval ⟨tmps,[]⟩) o).run P w = .ok .skip w'∧iS P K M β g f tmps undef w')∨
 (∃fn vs,(execOp (Act.eval ⟨tmps,[]⟩) o).run P w = .ok (.enter fn vs) w∧Calls P fn vs w λe w'=>∃v,e = .returned v∧iS P K M β g f tmps v w')
def fa(h:fX P K N M β g tmps w){v:Value}{d:D}(ai:(execOp (Act.eval ⟨tmps,[]⟩) o).run P w = .ok (.value v) w)(hd:cy M β v d){rs:List fu}{a6:List Prop}:
 Yields P K M β g {e:=some {d},rs,a6} o tmps w:=
 .inl ⟨v,w,ai,M,β,Mem.le_refl _,λ_ _ h=>h,λ_ _ h=>.inl h,h.bw,λe he=>by cases he;exact⟨hd,by simp⟩⟩
def jy(x:Sem Value){v:Value}{w':World}(h:x.run P w = .ok v w'):(do pure (.value (←x)):Sem Next).run P w = .ok (.value v) w':=by
 simp [h]
def Gc(h:fX P K N M β g tmps w)(hp:fN tmps p){x:Operand}(av:o.op = .move x∨o.op = .assign x){d:D}(hx:rd g.env g.b5 p tt o.type x=some d):
 Yields P K M β g {e:=some {d},rs:=g.rs} o tmps w:=
 fa h (v:=(⟨tmps,[]⟩:Act).eval x) (by rcases av with av|av<;>simp [execOp,av]) (eh h hp hx)
def Vz(h:fX P K N M β g tmps w)(hp:fN tmps p){t:Nat}(av:o.op = .move (.tmp t)∨o.op = .assign (.tmp t)){d:D}(hx:rd g.env g.b5 p tt o.type (.tmp t)=some d)
 {s:TypeId} (hs:pE g (.tmp t)=some s) {rs:List fu}:Yields P K M β g {e:=some {d,own:=some s},hJ:=[t],rs} o tmps w:=by
 refine .inl ⟨(⟨tmps,[]⟩:Act).eval (.tmp t),w,by rcases av with av|av<;>simp [execOp,av],M,β,Mem.le_refl _,λ_ _ h=>h,λ_ _ h=>.inl h,?_,λe he=>?_⟩
 ·have:=h.bw.hJ [t];exact this
 ·cases he;refine⟨eh h hp hx,λT l0 aG=>?_⟩
  cases aG;simp only [pE,Option.bind_eq_some_iff]at hs;obtain⟨e,he,hs⟩:=hs;exact h.bw.hand he hs l0
def aev(h:fX P K N M β g tmps w)(hp:fN tmps p)(av:o.op = .assign (.const (.slice none 0 0))){d:D}(hx:rd g.env g.b5 p tt o.type (.const (.slice none 0 0))=some d)(s:TypeId):
 Yields P K M β g {e:=some {d,own:=some s},rs:=g.rs} o tmps w:=by
 refine .inl ⟨.slice none 0 0,w,by simp [execOp,av,Act.eval],M,β,Mem.le_refl _,λ_ _ h=>h,λ_ _ h=>.inl h,h.bw,λe he=>?_⟩
 cases he;exact⟨eh (ds:=[]) h hp hx,λT l0 _=>MT l0 T⟩
def aew(h:fX P K N M β g tmps w)(hp:fN tmps p){c:Nat}{a b:Operand}(av:o.op = .pick (.tmp c) a b){tn Bz u4:Bool}(hc:rd g.env g.b5 p tt o.type (.tmp c)=some (.v (.bool tn)))
 (ha:rd g.env g.b5 ((c,true)::p) tt o.type a=some (.v (.bool Bz))) (hb:rd g.env g.b5 ((c,false)::p) tt o.type b=some (.v (.bool u4))):
 Yields P K M β g {e:=some {d:=.v (.bool (bif tn then Bz else u4))},rs:=g.rs} o tmps w:=by
 have ka:(⟨tmps,[]⟩:Act).eval (.tmp c) = .bool tn:=vc (eh h hp hc);have VA:tmps.getD c undef = .bool tn:=ka;cases tn with
 |true=>
  refine fa h (v:=(⟨tmps,[]⟩:Act).eval a) (by simp [execOp,av,ka,asBool]) ?_
  exact eh h (p:=(c,true)::p) (λx hx=>by rcases List.mem_cons.1 hx with rfl|hx;exact VA;exact hp x hx) ha
 |false=>
  refine fa h (v:=(⟨tmps,[]⟩:Act).eval b) (by simp [execOp,av,ka,asBool]) ?_
  exact eh h (p:=(c,false)::p) (λx hx=>by rcases List.mem_cons.1 hx with rfl|hx;exact VA;exact hp x hx) hb
def bN.M3{st:aK}(h:bN P K M β st tmps w)(o:Nat):M w.heap.size o=none:=by
 cases hm:M w.heap.size o with
 |none=>rfl
 |some v=>have:=lt_of_cell (h.mem _ _ _ hm);omega
def VB(h:fX P K N M β g tmps w){vs:List Value}{T:TypeId}{cs:List a7}(hlen:vs.length=cs.length)(jg:∀v,v∈vs→v.oneCell'=true)(hlies:lr P T vs.length cs)
 (aw:∀(i:Nat) v e,vs[i]? = some v→cs[i]? = some e→cy M β v e.d∧∀T,e.own=some T→v = .slice none 0 0)
 (ai:(execOp (Act.eval ⟨tmps,[]⟩) o).run P w = .ok (.value (.pointer (some ⟨w.heap.size,0,none⟩))) {w with heap:=w.heap.push (.cells ⟨vs⟩ T (0,0))}) {id eP:Nat} (hid:n5 g o=some (id,eP)):
 Yields P K M β g {e:=some {d:=.ptr id 0},hs:=[(id,cs)],eP,rs:=g.rs} o tmps w:=by
 have aW:(∀b,β id≠some b)∧id<g.aX+eP:=by
  unfold n5 at hid;split at hid
  ·rename_i ar' ab;rw [Bool.cond_eq_ite]at hid;split at hid<;>cases hid
   rename_i hc;simp only [Bool.and_eq_true,Option.isNone_iff_eq_none,Nat.blt_eq]at hc;rw [Option.bind_eq_some_iff]at ab;obtain⟨s,_,ab⟩:=ab;exact⟨h.fresh s _ ab hc.1,by omega⟩
  ·cases hid;exact⟨λb hb=>by have:=h.bw.lt _ b hb;simp at this,by omega⟩
 refine .inl ⟨_,_,ai,M,_,Mem.le_refl _,?_,?_,h.bw.aec (n':=g.aX+eP) aW.1 aW.2 (by simp) (T:=T) hlen jg hlies aw,λe he=>?_⟩
 ·intro r b hb;have dh:r≠id:=λe=>aW.1 b (e ▸ hb)
  simp [dh,hb]
 ·intro r b hb;by_cases dh:r=id
  ·exact .inr (by simp [dX,dh])
  ·simp [dh]at hb;exact .inl hb
 ·cases he;exact⟨.ptr _ _ _ (by simp),by simp⟩
def VC{α:Type}:∀(l:List α) (n i:Nat),(cQ n l)[i]? = (l[i]?).map (n+i,·)
 |[],n,i=>by simp [cQ]
 |x::l,n,0=>by simp [cQ]
 |x::l,n,i+1=>by simp [cQ,VC l (n+1) i];congr 1;funext;congr 1;omega
def VD{α:Type}:∀(l:List α) (n:Nat),(cQ n l).length=l.length
 |[],n=>rfl
 |x::l,n=>by simp [cQ,VD l (n+1)]
def VE{x:V}{t:Option TypeId}{T:TypeId}(h:F0 x t=some T):∃k n get,x = .bH k n get:=by
 cases x<;>simp [F0]at h;exact⟨_,_,_,rfl⟩
def VF(jG:List (Nat×TypeId))(id i:Nat)(x:V):Bx jG id i x = .v x∨(x = .eA∧∃u,Bx jG id i x = .ct id i u∧(i,u)∈jG):=by
 unfold Bx;split
 ·split
  ·rename_i y ce;right
   have Z:=List.find?_some ce;have aa:=List.mem_of_find?_eq_some ce;obtain⟨j,u⟩:=y;obtain rfl:j=i:=by simpa using Z
   exact⟨rfl,u,rfl,aa⟩
  ·exact .inl rfl
 ·exact .inl rfl
def aex{t:TypeId}{id:Nat}{z:List a7}(h:F1 tt t id=some z):∃aS,look tt t=some aS∧z.length=aS.zero.length∧
 ∀(i:Nat) e,z[i]? = some e→∃x,aS.zero[i]? = some x∧(e.d = .v x∨(x = .eA∧∃u,e.d = .ct id i u∧(i,u)∈aS.jG))∧∀T,e.own=some T→∃k n get,x = .bH k n get:=by
 unfold F1 at h;split at h<;>simp at h
 ·rename_i e fV kw zero kW ab;subst h;refine⟨_,ab,by simp,λi bg he=>?_⟩
  simp only [List.getElem?_map,Option.map_eq_some_iff]at he;obtain⟨x,hx,rfl⟩:=he;exact⟨x,hx,.inl rfl,λT aG=>VE aG⟩
 ·rename_i cx fV kw zero kW ab;subst h;refine⟨_,ab,by simp [VD],λi bg he=>?_⟩
  simp only [List.getElem?_map,Option.map_eq_some_iff,VC]at he;obtain⟨_,⟨x,hx,rfl⟩,rfl⟩:=he;simp only [Nat.zero_add];exact⟨x,hx,VF kW id i x,λT aG=>VE aG⟩
 ·rename_i k fV kw zero kW _ _ ab;subst h;refine⟨_,ab,by simp,λi bg he=>?_⟩
  simp only [List.getElem?_map,Option.map_eq_some_iff]at he;obtain⟨x,hx,rfl⟩:=he;exact⟨x,hx,.inl rfl,by simp⟩
def aey(h:fX P K N M β g tmps w)(cz:fB P tt=true){t:TypeId}(av:o.op = .alloc t){z:List a7}{id eP:Nat}(dw:F1 tt t id=some z)(hid:n5 g o=some (id,eP)):
 Yields P K M β g {e:=some {d:=.ptr id 0},hs:=[(id,z)],eP,rs:=g.rs} o tmps w:=by
 obtain⟨aS,ab,hlen,VG⟩:=aex dw;obtain⟨r⟩:=eI cz ab;obtain⟨Z,aa,aj⟩:=xU (M:=M) r.BH;refine VB h (vs:=r.z.cells.toList) (T:=t) (by omega) aa (λe he q off u hd=>?_) (λi v e aw he=>?_) ?_ hid
 ·obtain⟨i,hi,rfl⟩:=List.getElem_of_mem he;obtain⟨x,hx,jh,_⟩:=VG i z[i] (List.getElem?_eq_getElem hi);rcases jh with jh|⟨_,ar_,jh,hm⟩
  ·rw [jh]at hd;cases hd
  ·rw [jh]at hd;cases hd;have:=List.all_eq_true.1 r.jG _ hm
   have eu:=r.MY;rw [show r.z.cells.toList.length=aS.size by omega]
   exact this
 ·obtain⟨x,hx,hd,gk⟩:=VG i e he;obtain⟨aC,aT⟩:=aj i v x aw hx
  refine⟨by
   rcases hd with hd|⟨rfl,u,hd,_⟩
   ·rw [hd];exact .v _ _ aC
   ·rw [hd];cases aC;exact .lW _ _ _,λT aG=>?_⟩
  obtain⟨k,n,get,rfl⟩:=gk T aG;unfold u_ at aT;split at aT<;>simp_all
 ·simp [execOp,av,Instr.alloc,r.F9,newVar,newRow]
def M4(tt:dI)(aS:eM)(id:Nat):∀(l:List D) (i j:Nat),(qM tt aS id i l)[j]? = (l[j]?).map (xM tt aS id (i+j))
 |[],i,j=>by simp [qM]
 |d::l,i,0=>by simp [qM]
 |d::l,i,j+1=>by
  simp only [qM,List.getElem?_cons_succ];rw [M4 tt aS id l (i+1) j,show i+1+j=i+(j+1)by omega]
def M5(tt:dI)(aS:eM)(id:Nat):∀(l:List D) (i:Nat),(qM tt aS id i l).length=l.length
 |[],i=>rfl
 |d::l,i=>by simp only [qM,List.length_cons,M5 tt aS id l (i+1)]
def VH{M:Mem}{β:Nat→Option Nat}(tt:dI)(aS:eM)(id i:Nat)(d:D)(tw:∀r o u,d ≠ .ct r o u){v:Value}(h:cy M β v d):
 cy M β v (xM tt aS id i d).d∧(∀T,(xM tt aS id i d).own=some T→v = .slice none 0 0)∧∀r o u,(xM tt aS id i d).d = .ct r o u→(o,u)∈aS.jG:=by
 unfold xM;split
 ·rcases VF aS.jG id i .eA with Z|⟨_,u,Z,aa⟩
  ·simp only [Z];exact⟨h,(λT aG=>by cases aG),(λr o u e=>by cases e)⟩
  ·simp only [Z]
   cases h with|v u x hx=>cases hx with
    |eA=>exact⟨.lW _ _ _,(λT aG=>by cases aG),(λr o u e=>by cases e;exact aa)⟩
 ·split
  ·cases h with|v u x hx=>cases hx with
    |oN=>exact⟨.v _ _ (.md _ _),λ_ _=>rfl,λr o u e=>by cases e⟩
  ·exact⟨h,(λT aG=>by cases aG),(λr o u e=>by cases e)⟩
 ·exact⟨h,(λT aG=>by cases aG),λr o u e=>absurd e (tw r o u)⟩
def aez(h:fX P K N M β g tmps w)(hp:fN tmps p){t:TypeId}{x:Operand}(av:o.op = .box t x){d:D}(hx:rd g.env g.b5 p tt o.type x=some d)(aF:r8 d=false)(tw:tm (cellsD d)=true)(cz:fB P tt=true){aS:eM}(ab:look tt t=some aS)(eu:(cellsD d).length=aS.size){id eP:Nat}(hid:n5 g o=some (id,eP)):
 Yields P K M β g {e:=some {d:=.ptr id 0},hs:=[(id,qM tt aS id 0 (cellsD d))],eP,rs:=g.rs} o tmps w:=by
 obtain⟨r⟩:=eI cz ab;obtain⟨Z,aa,aj⟩:=(eh (ds:=[]) h hp hx).cells aF;refine VB h (vs:=((⟨tmps,[]⟩:Act).eval x).cells.toList) (T:=t) (by rw [M5];simpa using Z) aa (λe he q off u hd=>?_) (λi v e aw he=>?_) ?_ hid
 ·obtain⟨i,hi,rfl⟩:=List.getElem_of_mem he;have hg:(qM tt aS id 0 (cellsD d))[i]? = some _:=List.getElem?_eq_getElem hi;rw [M4,Option.map_eq_some_iff]at hg;obtain⟨c,hc,M6⟩:=hg;rw [←M6]at hd;have M7:i<((⟨tmps,[]⟩:Act).eval x).cells.toList.length:=by rw [M5]at hi;omega
  have:=(VH tt aS id (0+i) c (F3 tw c (List.mem_of_getElem? hc)) (aj i _ c (List.getElem?_eq_getElem M7) hc)).2.2 q off u hd
  have hb:=List.all_eq_true.1 r.jG _ this;rw [Z,eu];exact hb
 ·rw [M4,Option.map_eq_some_iff]at he;obtain⟨c,hc,rfl⟩:=he;obtain⟨g1,g2,_⟩:=VH tt aS id (0+i) c (F3 tw c (List.mem_of_getElem? hc)) (aj i v c aw hc);exact⟨g1,g2⟩
 ·simp [execOp,av,Instr.box,newVar,newRow]
end
def sf{α:Type}:∀(cs:List α) (off:Nat) (xs:List α),off+xs.length≤cs.length→(setAt cs off xs).length=cs.length∧∀(i:Nat),(setAt cs off xs)[i]? = if off≤i∧i<off+xs.length then xs[i-off]? else cs[i]?
 |[],0,[],_=>by simp [setAt]
 |[],0,x::xs,h=>by simp at h
 |[],n+1,xs,h=>by simp at h
 |c::cs,0,[],_=>by
  refine⟨by simp [setAt],λi=>?_⟩
  simp only [setAt,List.length_nil];rw [if_neg (by omega)]
 |c::cs,0,x::xs,h=>by
  obtain⟨Z,aa⟩:=sf cs 0 xs (by simp at h ⊢;omega)
  refine⟨by simp [setAt,Z],λi=>?_⟩
  cases i with
  |zero=>simp [setAt]
  |succ i=>
   simp only [setAt,List.getElem?_cons_succ,aa i,Nat.zero_add,List.length_cons];by_cases hi:i<xs.length<;>simp [hi]
 |c::cs,n+1,xs,h=>by
  obtain⟨Z,aa⟩:=sf cs n xs (by simp at h ⊢;omega)
  refine⟨by simp [setAt,Z],λi=>?_⟩
  cases i with
  |zero=>simp [setAt]
  |succ i=>
   simp only [setAt,List.getElem?_cons_succ,aa i];by_cases hi:n≤i∧i<n+xs.length
   ·rw [if_pos hi,if_pos (by omega)];congr 1;omega
   ·rw [if_neg hi,if_neg (by omega)]
def M8(off:Nat):∀(l:List Value) (k:Nat) (cs:Array Value),off+k+l.length≤cs.size→
 ((l.zipIdx k).foldl (λcs (x:Value×Nat)=>cs.setIfInBounds (off+x.2) x.1) cs).size=cs.size∧
 ∀(i:Nat),((l.zipIdx k).foldl (λcs (x:Value×Nat)=>cs.setIfInBounds (off+x.2) x.1) cs)[i]? = if off+k≤i∧i<off+k+l.length then l[i-(off+k)]? else cs[i]?
 |[],k,cs,h=>by
  refine⟨rfl,λi=>?_⟩
  simp only [List.zipIdx_nil,List.foldl_nil,List.length_nil];rw [if_neg (by omega)]
 |x::l,k,cs,h=>by
  obtain⟨Z,aa⟩:=M8 off l (k+1) (cs.setIfInBounds (off+k) x) (by simp at h ⊢;omega)
  simp only [List.zipIdx_cons,List.foldl_cons];refine⟨by simpa using Z,λi=>?_⟩
  rw [aa i];simp only [List.length_cons]at h ⊢;by_cases aj:off+(k+1)≤i∧i<off+(k+1)+l.length
  ·rw [if_pos aj,if_pos (by omega)]
   obtain⟨j,rfl⟩:∃j,i=off+k+1+j:=⟨i-(off+k+1),by omega⟩
   rw [show off+k+1+j-(off+(k+1))=j by omega,show off+k+1+j-(off+k)=j+1 by omega]
   simp
  ·rw [if_neg aj];by_cases aC:i=off+k
   ·subst aC;rw [if_pos (by omega)]
    have:off+k<cs.size:=by omega
    simp [this]
   ·rw [if_neg (by omega)]
    rw [Array.getElem?_setIfInBounds_ne (Ne.symm aC)]
section
variable {P:Program} {K:Ctx} {N:Nat} {M:Mem} {β:Nat→Option Nat} {g:dk} {tmps:Array Value} {w:World} {o:Oper} {f:lm} {p:Path} {tt:dI} {cd:gD} {ops:List Oper}
structure Cells(M:Mem)(β:Nat→Option Nat)(vs:List Value)(cs:List D):Prop where
 len:vs.length=cs.length
 one:∀v,v∈vs→v.oneCell'=true
 rep:∀(i:Nat) v c,vs[i]? = some v→cs[i]? = some c→cy M β v c
def Gd{vs:List Value}(h:∀v,v∈vs→v.oneCell'=true){i:Nat}{v:Value}(hi:vs[i]? = some v):v.oneCell'=true:=h v (List.mem_of_getElem? hi)
def VI{vs:List Value}(h:∀(i:Nat) v,vs[i]? = some v→v.oneCell'=true):∀v,v∈vs→v.oneCell'=true:=λv aw=>by
 obtain⟨i,hi⟩:=List.getElem?_of_mem aw;exact h i v hi
def Cells.set{vs:List Value}{cs:List D}(h:Cells M β vs cs){ws:List Value}{ds:List D}(cM:Cells M β ws ds){off:Nat}(hle:off+ds.length≤cs.length){vs':List Value}(hlen:vs'.length=vs.length)
 (iT:∀(i:Nat),vs'[i]? = if off≤i∧i<off+ws.length then ws[i-off]? else vs[i]?):Cells M β vs' (setAt cs off ds):=by
 obtain⟨Z,aa⟩:=sf cs off ds hle;refine⟨by rw [hlen,Z,h.len],VI λi v aw=>?_,λi v c aw hc=>?_⟩
 ·rw [iT i]at aw;split at aw
  ·exact Gd cM.one aw
  ·exact Gd h.one aw
 ·rw [iT i]at aw;rw [aa i]at hc;by_cases hi:off≤i∧i<off+ds.length
  ·rw [if_pos hi]at hc;rw [if_pos (by rw [cM.len];exact hi)]at aw
   exact cM.rep _ v c aw hc
  ·rw [if_neg hi]at hc;rw [if_neg (by rw [cM.len];exact hi)]at aw
   exact h.rep _ v c aw hc
def M9{place:Nat→Option (Nat×Nat)}:∀{b6:List (Nat×D)} {vs:List (Nat×Value)} {cs cs':List D} {cells:Array Value},vs.length=b6.length→
 (∀(i:Nat) a b,b6[i]? = some a→vs[i]? = some b→a.1=b.1∧cy M β b.2 a.2)→Cells M β cells.toList cs→r9 place cs b6=some cs'→
 ∃jJ,Instr.fill place cells vs=some jJ∧Cells M β jJ.toList cs'
 |[],[],cs,cs',cells,_,_,hc,h=>by simp [r9]at h;subst h;exact⟨cells,rfl,hc⟩
 |[],_::_,_,_,_,h,_,_,_=>by simp at h
 |_::_,[],_,_,_,h,_,_,_=>by simp at h
 |(i,d)::b6,(j,v)::vs,cs,cs',cells,hn,ai,hc,h=>by
  obtain⟨VJ,hd⟩:=ai 0 (i,d) (j,v) (by simp) (by simp)
  simp only at VJ hd
  subst VJ;simp only [r9]at h;split at h
  ·cases h
  ·rename_i off size oa;rw [Bool.cond_eq_ite]at h;split at h
   case isFalse=>cases h
   rename_i hb;simp only [Bool.and_eq_true,Nat.beq_eq,Nat.ble_eq,Bool.not_eq_true']at hb;obtain⟨⟨c',fA⟩,M_⟩:=hb;obtain⟨Z,aa,aj⟩:=hd.cells M_;have eu:cells.size=cs.length:=by simpa using hc.len
   have et:v.cells.size=size:=by simpa [c']using Z
   have aW:=M8 off v.cells.toList 0 cells (by simp [et];omega)
   have Na:v.cells.zipIdx.foldl (λcs (x:Value×Nat)=>cs.setIfInBounds (off+x.2) x.1) cells=(v.cells.toList.zipIdx 0).foldl (λcs (x:Value×Nat)=>cs.setIfInBounds (off+x.2) x.1) cells:=by
    rw [←Array.foldl_toList,Array.toList_zipIdx]
   have ka:Cells M β (v.cells.zipIdx.foldl (λcs (x:Value×Nat)=>cs.setIfInBounds (off+x.2) x.1) cells).toList (setAt cs off (cellsD d)):=by
    rw [Na];refine hc.set ⟨Z,aa,aj⟩ (by omega) (by simpa using aW.1) (λk=>?_)
    have:=aW.2 k
    simp only [Nat.add_zero]at this;rw [Array.getElem?_toList,this];simp only [Array.getElem?_toList]
   obtain⟨jJ,BJ,pM⟩:=M9 (place:=place) (by simpa using hn) (λk a b ha hb=>ai (k+1) a b (by simpa using ha) (by simpa using hb)) ka h
   refine⟨jJ,?_,pM⟩
   simp only [Instr.fill,oa];rw [if_neg (by simp;omega)]
   exact BJ
def tx{α dH:Type}{f:α→Option dH}:∀{l:List α} {cG:List dH},mapM' f l=some cG→cG.length=l.length∧∀(i:Nat) a b,l[i]? = some a→cG[i]? = some b→f a=some b
 |[],cG,h=>by simp [mapM']at h;subst h;simp
 |x::l,cG,h=>by
  simp only [mapM']at h;split at h<;>simp at h
  rename_i y ys ce aeA;subst h;obtain⟨Z,aa⟩:=tx aeA;refine⟨by simp [Z],λi a b ha hb=>?_⟩
  cases i with
  |zero=>simp at ha hb;subst ha;subst hb;exact ce
  |succ i=>simp at ha hb;exact aa i a b ha hb
def Row.VK{t:TypeId}{aS:eM}(r:Row P t aS):Cells M β r.z.cells.toList (aS.zero.map .v):=by
 obtain⟨Z,aa,aj⟩:=xU (M:=M) r.BH;refine⟨by simpa using Z,aa,λi v c aw hc=>?_⟩
 simp only [List.getElem?_map,Option.map_eq_some_iff]at hc;obtain⟨x,hx,rfl⟩:=hc;exact .v _ _ (aj i v x aw hx).1
def aeB{M:Mem}{v:Value}{x:V}(h:u_ v x=true):de M v (MJ x):=by
 have h0:=(MX (M:=M) h).1;unfold u_ at h;split at h<;>first|exact h0|skip
 ·rename_i k n g;have:n=0:=by simpa using h
  subst this;exact .oN _ _
 ·cases h
def Row.aeC{t:TypeId}{aS:eM}(r:Row P t aS):Cells M β r.z.cells.toList (aS.zero.map λx=>.v (MJ x)):=by
 obtain⟨Z,aa,aj⟩:=xU (M:=M) r.BH;refine⟨by simpa using Z,aa,λi v c aw hc=>?_⟩
 simp only [List.getElem?_map,Option.map_eq_some_iff]at hc;obtain⟨x,hx,rfl⟩:=hc;exact .v _ _ (aeB (aj i v x aw hx).2)
def Nb(h:fX P K N M β g tmps w)(hp:fN tmps p){ty:Nat→TypeId}{parts:Array (Nat×Operand)}{b6:List (Nat×D)}(mi:mapM' (fun(x:Nat×Operand)=>(rd g.env g.b5 p tt (ty x.1) x.2).map λd=>(x.1,d)) parts.toList=some b6):
 ((parts.map fun(x:Nat×Operand)=>(x.1,(⟨tmps,[]⟩:Act).eval x.2)).toList).length=b6.length∧
 ∀(i:Nat) a b,b6[i]? = some a→(parts.map fun(x:Nat×Operand)=>(x.1,(⟨tmps,[]⟩:Act).eval x.2)).toList[i]? = some b→a.1=b.1∧cy M β b.2 a.2:=by
 obtain⟨Z,aa⟩:=tx mi;refine⟨by simpa using Z.symm,λi a b ha hb=>?_⟩
 simp only [Array.toList_map,List.getElem?_map,Option.map_eq_some_iff]at hb;obtain⟨x,hx,rfl⟩:=hb;have:=aa i x a hx ha
 simp only [Option.map_eq_some_iff]at this;obtain⟨d,hd,rfl⟩:=this;exact⟨rfl,eh h hp hd⟩
def run_places{cx:Array Field}{l:List (Nat×TypeId×Nat)}(ab:l=cx.toList.map λf=>(f.offset,f.type,P.cellsOf f.type))(hs:∀f,f∈cx.toList→1≤P.cellsOf f.type):
 (cx.mapM λf=>(do pure (f.offset,←sizeOf f.type):Sem (Nat×Nat))).run P w = .ok (cx.map λf=>(f.offset,P.cellsOf f.type)) w:=by
 obtain⟨tz⟩:=cx;rw [List.mapM_toArray]
 have key:∀(l:List Field),(∀f,f∈l→1≤P.cellsOf f.type)→(l.mapM λf=>(do pure (f.offset,←sizeOf f.type):Sem (Nat×Nat))).run P w = .ok (l.map λf=>(f.offset,P.cellsOf f.type)) w:=by
  intro l;induction l with
  |nil=>intro _;rfl
  |cons f l aH=>
   intro aW;have h0:=aW f (by simp)
   have Z:(sizeOf f.type).run P w = .ok (P.cellsOf f.type) w:=by
    cases hi:P.info? f.type with
    |none=>simp [Program.cellsOf,hi]at h0
    |some i=>exact Go.run_sizeOf w hi
   simp only [List.mapM_cons,Sem.run_bind,Z,Result.andThen_ok,Sem.run_pure,aH (λf h=>aW f (by simp [h])),List.map_cons]
 simp only [Sem.run_map,key tz (by simpa using hs),Result.andThen_ok]
 simp
def VL(h:fX P K N M β g tmps w)(hp:fN tmps p)(cz:fB P tt=true){t:TypeId}{aS:eM}(ab:look tt t=some aS){cx:List (Nat×TypeId×Nat)}(hk:aS.k = .ca cx)(mj:cx.all (λf=>Nat.ble 1 f.2.2)=true)
 {parts:Array (Nat×Operand)} (av:o.op = .build t parts) {b6:List (Nat×D)} (mi:mapM' (fun(x:Nat×Operand)=>(rd g.env g.b5 p tt (r' tt t x.1) x.2).map λd=>(x.1,d)) parts.toList=some b6)
 {zs:List D} (ve:∀(r:Row P t aS),Cells M β r.z.cells.toList zs) {cs:List D} (aW:r9 (fun(i:Nat)=>(cx[i]?).map fun(f:Nat×TypeId×Nat)=>(f.1,f.2.2)) zs b6=some cs) {rs:List fu}:
 Yields P K M β g {e:=some {d:=qJ cs},rs} o tmps w:=by
 obtain⟨r⟩:=eI cz ab;obtain⟨gs,hd,Nc⟩:=M1 r hk;obtain⟨Z,aa⟩:=Nb h hp mi;obtain⟨cells,BJ,hc⟩:=M9 Z aa (ve r) aW
 have Ge:∀f,f∈gs.toList→1≤P.cellsOf f.type:=by
  intro fd kb;rw [List.all_eq_true]at mj;have:=mj (fd.offset,fd.type,P.cellsOf fd.type) (by rw [Nc];exact List.mem_map.2 ⟨fd,kb,rfl⟩)
  simpa using this
 have oa:(fun(i:Nat)=>(gs.map λf=>(f.offset,P.cellsOf f.type))[i]?)=fun(i:Nat)=>(cx[i]?).map fun(f:Nat×TypeId×Nat)=>(f.1,f.2.2):=by
  funext i
  rw [Nc];cases hi:gs[i]? <;> simp [hi]
 refine fa h (v:=.agg cells) ?_ ?_
 ·simp only [execOp,av];refine jy _ ?_;have aeD:=run_places (P:=P) (w:=w) Nc Ge;simp only [Instr.build,Sem.run_bind,r.F9,Result.andThen_ok,r.run_underlying,hd,aeD,oa];have:Instr.fill (fun(i:Nat)=>(cx[i]?).map fun(f:Nat×TypeId×Nat)=>(f.1,f.2.2)) r.z.cells (parts.map fun(x:Nat×Operand)=>(x.1,(⟨tmps,[]⟩:Act).eval x.2)).toList=some cells:=BJ
  rw [this];rfl
 ·have:=F' hc.len hc.one hc.rep
  simpa using this
def aeE(h:fX P K N M β g tmps w)(hp:fN tmps p)(cz:fB P tt=true){t:TypeId}{aS:eM}(ab:look tt t=some aS){n:Nat}{e:TypeId}(hk:aS.k = .arr n e){cf:eM}(eQ:look tt e=some cf)
 {parts:Array (Nat×Operand)} (av:o.op = .build t parts) {b6:List (Nat×D)} (mi:mapM' (fun(x:Nat×Operand)=>(rd g.env g.b5 p tt (r' tt t x.1) x.2).map λd=>(x.1,d)) parts.toList=some b6)
 {cs:List D} (aW:r9 (λi=>some (i*cf.size,cf.size)) (aS.zero.map .v) b6=some cs):
 Yields P K M β g {e:=some {d:=qJ cs},rs:=g.rs} o tmps w:=by
 obtain⟨r⟩:=eI cz ab;obtain⟨r2⟩:=eI cz eQ;obtain⟨Z,aa⟩:=Nb h hp mi;obtain⟨cells,BJ,hc⟩:=M9 Z aa (r.VK (β:=β)) aW;refine fa h (v:=.agg cells) ?_ ?_
 ·simp only [execOp,av];refine jy _ ?_;simp only [Instr.build,Sem.run_bind,r.F9,Result.andThen_ok,r.run_underlying,aer r hk,r2.run_sizeOf];have:Instr.fill (λi=>some (i*cf.size,cf.size)) r.z.cells (parts.map fun(x:Nat×Operand)=>(x.1,(⟨tmps,[]⟩:Act).eval x.2)).toList=some cells:=BJ
  rw [this];rfl
 ·have:=F' hc.len hc.one hc.rep
  simpa using this
end
section
variable {P:Program} {K:Ctx} {N:Nat} {M:Mem} {β:Nat→Option Nat} {g:dk} {tmps:Array Value} {w:World} {o:Oper} {f:lm} {p:Path} {tt:dI} {cd:gD} {ops:List Oper}
def ji(M:Mem)(b:Nat)(lo:Nat)(vs:List Value):Mem:=λbG o=>if bG=b∧lo≤o∧o<lo+vs.length then vs[o-lo]? else M bG o
def Nd{b lo:Nat}{vs:List Value}(h:∀o,lo≤o→M b o=none):M.le (ji M b lo vs):=by
 intro bG o v aw;unfold ji;split
 ·rename_i hc;obtain⟨rfl,Z,aa⟩:=hc;rw [h o Z]at aw;cases aw
 ·exact aw
def Gf{b lo:Nat}{vs:List Value}{i:Nat}{v:Value}(h:vs[i]? = some v):ji M b lo vs b (lo+i)=some v:=by
 have hi:i<vs.length:=(List.getElem?_eq_some_iff.1 h).1;unfold ji;rw [if_pos ⟨rfl,by omega,by omega⟩,show lo+i-lo=i by omega,h]
def aeF{k:Nat}{n:Nat}{cells:List Value}(ab:cells.length=n*k){i j:Nat}(hi:i<n)(hj:j<k):cells[i*k+j]? = some (cells.getD (i*k+j) undef):=by
 have:i*k+j<cells.length:=by
  have Z:(i+1)*k≤n*k:=Nat.mul_le_mul_right k hi;rw [Nat.add_mul]at Z;omega
 simp [List.getD,List.getElem?_eq_getElem this]
def bN.newRow{st:aK}(h:bN P K M β st tmps w){vs:List Value}{T:TypeId}{n:Nat}{w':World}(hw:w'.heap=w.heap.push (.cells ⟨vs⟩ T (0,0)))(oS:(w'.os,w'.output)=(w.os,w.output):=by rfl):
 bN P K (ji M w.heap.size 0 (vs.take n)) β st tmps w'∧M.le (ji M w.heap.size 0 (vs.take n)):=by
 have cT:M.le (ji M w.heap.size 0 (vs.take n)):=Nd λo _=>h.M3 o
 refine⟨h.free w.heap.size ?_ ?_ ?_ ?_ cT ?_ ?_ oS,cT⟩
 ·cases dN:K.F w.heap.size with
  |none=>rfl
  |some a6=>have:=lt_of_heap (h.frame _ a6 dN).1;omega
 ·intro r cs ai hb;have:=h.BE ai hb;omega
 ·intro l e T ab aG hb;have:=(h.own l e T ab aG).lt hb;omega
 ·intro bG _ bY;rw [hw];simp [Array.getElem?_push,Nat.ne_of_lt bY]
 ·intro bG o bY;simp [ji,bY]
 ·intro o v aw;unfold ji at aw;split at aw
  ·rename_i hc;simp only [Nat.sub_zero]at aw;rw [List.getElem?_take]at aw;split at aw
   ·have:w'.heap[w.heap.size]? = some (.cells ⟨vs⟩ T (0,0)):=by rw [hw];simp
    rw [cell_of_heap this,aw]
   ·cases aw
  ·rw [h.M3 o]at aw;cases aw
def Nf{st:aK}(h:bN P K M β st tmps w){l0:Loc}{T:TypeId}{vs:List Value}{T':TypeId}(sg:T'=T){n cap:Nat}{w':World}(hw:w'.heap=w.heap.push (.cells ⟨vs⟩ T' (0,0)))(hn:n≤cap)
 (hcap:cap*P.cellsOf T≤vs.length):nm P K (ji M w.heap.size 0 (vs.take (n*P.cellsOf T))) β st tmps w' l0 (.slice (some ⟨w.heap.size,0,none⟩) n cap) T:=by
 have vf:w'.heap[w.heap.size]? = some (.cells ⟨vs⟩ T' (0,0)):=by rw [hw];simp
 refine⟨.inr ⟨w.heap.size,n,cap,vs,T',rfl,hn,vf,hcap,λo av=>?_,?_,sg⟩,?_,?_⟩
 ·have hle:n*P.cellsOf T≤vs.length:=Nat.le_trans (Nat.mul_le_mul_right _ hn) hcap;unfold ji;rw [if_neg,h.M3 o]
  rintro ⟨_,_,aj⟩
  simp only [List.length_take]at aj;omega
 ·cases dN:K.F w.heap.size with
  |none=>rfl
  |some a6=>have:=lt_of_heap (h.frame _ a6 dN).1;omega
 ·intro l e pJ b ab aG _ hb bY;simp [h8]at hb;subst hb
  have hold:cu tmps w' β l=cu tmps w β l:=by
   cases l with
   |slot s=>rfl
   |cell r i=>
    simp only [aK.at]at ab;cases ai:look st.H r with
    |none=>simp [ai]at ab
    |some cs=>
     obtain⟨cY,kU,hD,c',bm,_⟩:=h.box r cs ai;simp only [cu,c'];rw [sb (w:=w) (by rw [hw];simp [Array.getElem?_push,Nat.ne_of_lt (lt_of_heap bm)])]
  rw [hold]at bY;have:=(h.own l e pJ ab aG).lt bY
  omega
 ·intro b r cs hb ai bY;simp [h8]at hb;subst hb;have:=h.BE ai bY
  omega
def VM{size:Nat}:∀(l:List (Nat×Value)) (m:Nat) (cells:Array Value),(∀(i:Nat) x,l[i]? = some x→x.1=m+i∧x.2.cells.size=size)→(m+l.length)*size≤cells.size→
 ∃jJ,Instr.fill (λi=>some (i*size,size)) cells l=some jJ∧jJ.size=cells.size∧(∀i,i<m*size→jJ[i]? = cells[i]?)∧
  ∀(i:Nat) x (j:Nat) u,l[i]? = some x→x.2.cells[j]? = some u→jJ[(m+i)*size+j]? = some u
 |[],m,cells,_,_=>⟨cells,rfl,rfl,λ_ _=>rfl,by simp⟩
 |(a,v)::l,m,cells,ab,hle=>by
  obtain⟨ha,eu⟩:=ab 0 (a,v) (by simp)
  simp only [Nat.add_zero]at ha;simp only at eu
  subst ha
  have asa:a*size+size≤cells.size:=by
   have Z:(a+1)*size≤(a+((a,v)::l).length)*size:=Nat.mul_le_mul_right _ (by simp)
   rw [Nat.add_mul,Nat.one_mul]at Z;omega
  have aW:=M8 (a*size) v.cells.toList 0 cells (by simp [eu];omega)
  have Na:v.cells.zipIdx.foldl (λcs (x:Value×Nat)=>cs.setIfInBounds (a*size+x.2) x.1) cells=(v.cells.toList.zipIdx 0).foldl (λcs (x:Value×Nat)=>cs.setIfInBounds (a*size+x.2) x.1) cells:=by
   rw [←Array.foldl_toList,Array.toList_zipIdx]
  rw [←Na]at aW;generalize kX:v.cells.zipIdx.foldl (λcs (x:Value×Nat)=>cs.setIfInBounds (a*size+x.2) x.1) cells=c1 at aW
  obtain⟨jJ,Z,aa,aj,aC⟩:=VM l (a+1) c1 (λi x hx=>by
   obtain⟨Z,aa⟩:=ab (i+1) x (by simpa using hx)
   exact⟨by omega,aa⟩) (by rw [aW.1];simpa [Nat.add_assoc,Nat.add_comm 1]using hle)
  refine⟨jJ,?_,by rw [aa,aW.1],λi hi=>?_,λi x j u hx hu=>?_⟩
  ·simp only [Instr.fill];rw [if_neg (by simp [eu];omega)]
   have:v.cells.zipIdx.foldl (λcs (c,j)=>cs.setIfInBounds (a*size+j) c) cells=c1:=kX
   rw [this];exact Z
  ·rw [aj i (by rw [Nat.add_mul];omega),aW.2 i,if_neg (by omega)]
  ·cases i with
   |zero=>
    simp at hx;subst hx
    simp only at hu
    have hj:j<size:=by rw [←eu];exact(Array.getElem?_eq_some_iff.1 hu).1
    rw [Nat.add_zero,aj _ (by rw [Nat.add_mul,Nat.one_mul];omega),aW.2,if_pos (by simp [eu];omega)]
    simpa using hu
   |succ i=>
    have:=aC i x j u (by simpa using hx) hu
    rw [show a+(i+1)=a+1+i by omega];exact this
def VN{VO:Bool}{size:Nat}:∀{b6:List (Nat×D)} {n:Nat} {xs:List V},elems VO size n b6=some xs→xs.length=b6.length∧
 ∀(i:Nat) y x,b6[i]? = some y→xs[i]? = some x→y=(n+i,.v x)∧x.cells.length=size∧x.isAgg=VO
 |[],n,xs,h=>by simp [elems]at h;subst h;simp
 |(j,d)::b6,n,xs,h=>by
  cases d<;>simp only [elems]at h<;>try cases h
  rename_i fG;rw [Bool.cond_eq_ite]at h;split at h
  case isFalse=>cases h
  rename_i hb;simp only [Bool.and_eq_true,Nat.beq_eq,beq_iff_eq]at hb;obtain⟨⟨c',fA⟩,M_⟩:=hb;simp only [Option.map_eq_some_iff]at h;obtain⟨ys,ce,rfl⟩:=h;obtain⟨Z,aa⟩:=VN ce;refine⟨by simp [Z],λi y x hi hx=>?_⟩
  cases i with
  |zero=>simp at hi hx;subst hi;subst hx;exact⟨by simp [c'],fA,M_⟩
  |succ i=>
   simp at hi hx
   obtain⟨aj,aC⟩:=aa i y x hi hx;exact⟨by rw [aj];simp;omega,aC⟩
def aeG(h:fX P K N M β g tmps w)(hp:fN tmps p)(cz:fB P tt=true){t e:TypeId}{aS cf:eM}(ab:look tt t=some aS)(hk:aS.k = .bH e)(eQ:look tt e=some cf){len:Nat}
 {parts:Array (Nat×Operand)} (av:o.op = .buildSlice t len parts) {b6:List (Nat×D)} (mi:mapM' (fun(x:Nat×Operand)=>(rd g.env g.b5 p tt (r' tt t x.1) x.2).map λd=>(x.1,d)) parts.toList=some b6)
 {xs:List V} (hx:elems cf.k.isAgg cf.size 0 b6=some xs) (hlen:xs.length=len) (_hs:1≤cf.size) (hb:len*cf.size≤16777216) {x:V} (aw:hA (.bH cf.size len λi=>xs.getD i .eA) x) {rs:List fu} {a6:List Prop}:
 Yields P K M β g {e:=some {d:=.v x,own:=some e},rs,a6} o tmps w:=by
 obtain⟨r⟩:=eI cz ab;obtain⟨dO⟩:=eI cz eQ;obtain⟨Z,aa⟩:=Nb h hp mi;obtain⟨BK,qR⟩:=VN hx;generalize sh:(parts.map fun(x:Nat×Operand)=>(x.1,(⟨tmps,[]⟩:Act).eval x.2))=pa at Z aa
 generalize np:pa.toList=vs at Z aa
 have oa:vs.length=len:=by omega
 have ih:∀(i:Nat) b,vs[i]? = some b→∃x,xs[i]? = some x∧b.1=i∧de M b.2 x∧x.cells.length=cf.size:=by
  intro i b hi;have MP:i<vs.length:=(List.getElem?_eq_some_iff.1 hi).1;have ha:b6[i]? = some b6[i]:=List.getElem?_eq_getElem (by omega)
  have mV:xs[i]? = some xs[i]:=List.getElem?_eq_getElem (by omega)
  obtain⟨aj,aC,_⟩:=qR i _ _ ha mV;obtain⟨aT,bQ⟩:=aa i _ b ha hi;rw [aj]at aT bQ;exact⟨_,mV,by simpa using aT.symm,n_ bQ,aC⟩
 have pM:∀(i:Nat) b,vs[i]? = some b→∃x,xs[i]? = some x∧b.1=i∧b.2.cells.size=cf.size∧(∀u,u∈b.2.cells.toList→u.oneCell'=true)∧∀(j:Nat) u c,b.2.cells.toList[j]? = some u→x.cells[j]? = some c→de M u c:=by
  intro i b hi;obtain⟨x,aj,aC,aT,bQ⟩:=ih i b hi;obtain⟨cK,di,el⟩:=(cy.v (β:=β) _ _ aT).cells rfl;refine⟨x,aj,aC,by simp [cellsD]at cK;omega,di,λj u c hu hc=>?_⟩
  exact n_ (el j u (.v c) hu (by simp [cellsD,hc]))
 obtain⟨jJ,xY,tA,asb,aeH⟩:=VM (size:=cf.size) vs 0 ((Array.range (len*cf.size)).map λi=>dO.z.cells[i % dO.z.cells.size]!) (λi x hi=>by
  obtain⟨y,aj,aC,aT,_⟩:=pM i x hi;exact⟨by omega,aT⟩) (by simp [oa])
 have eu:jJ.size=len*cf.size:=by rw [tA];simp
 have iT:∀i j,i<len→j<cf.size→∃b u,vs[i]? = some b∧b.2.cells.toList[j]? = some u∧jJ.toList[i*cf.size+j]? = some u:=by
  intro i j hi hj;have e_:vs[i]? = some vs[i]:=List.getElem?_eq_getElem (by omega)
  obtain⟨y,aj,aC,aT,_⟩:=pM i _ e_;have hu:vs[i].2.cells[j]? = some vs[i].2.cells[j]:=Array.getElem?_eq_getElem (by omega)
  refine⟨vs[i],vs[i].2.cells[j],e_,(Array.getElem?_toList ..).trans hu,?_⟩
  have:=aeH i _ j _ e_ hu
  simpa using this
 have fe:(execOp (Act.eval ⟨tmps,[]⟩) o).run P w = .ok (.value (.slice (some ⟨w.heap.size,0,none⟩) len len)) {w with heap:=w.heap.push (.cells ⟨jJ.toList⟩ e (0,0))}:=by
  simp only [execOp,av];refine jy _ ?_;have bY:¬ (16777216<len*cf.size):=by omega
  have aeI:(parts.map fun(x:Nat×Operand)=>match x with|(i,x)=>(i,(⟨tmps,[]⟩:Act).eval x))=pa:=sh
  rw [aeI];simp only [Instr.buildSlice,Sem.run_bind,r.run_underlying,pL r hk,Result.andThen_ok,dO.run_sizeOf];by_cases h0:len*cf.size=0
  ·have b3:∀f:Nat→Value,(Array.range (len*cf.size)).map f = #[]:=by intro f;rw [h0];simp
   rw [b3]at xY;have e1:∀f:Nat→Value,(Array.range 0).map f = #[]:=by intro f;simp
   simp [h0,np,e1,xY,newRow]
  ·simp [h0,bY,dO.F9,np,xY,newRow]
 obtain⟨cN,hle⟩:=h.bw.newRow (w':={w with heap:=w.heap.push (.cells ⟨jJ.toList⟩ e (0,0))}) (T:=e) (vs:=jJ.toList) (n:=len*cf.size) rfl;have BL:jJ.toList.take (len*cf.size)=jJ.toList:=List.take_of_length_le (by simp [eu])
 refine .inl ⟨_,_,fe,_,β,hle,λ_ _ h=>h,λ_ _ h=>.inl h,cN,λe1 he=>?_⟩
 cases he;refine⟨.v _ _ (aw _ _ (.bH _ 0 cf.size len len _ (λi j=>jJ.toList.getD (i*cf.size+j) undef) (Nat.le_refl _) ?_ ?_ ?_ ?_)),λT l0 aG=>?_⟩
 ·intro i hi;have mV:xs[i]? = some xs[i]:=List.getElem?_eq_getElem (by omega)
  have ha:b6[i]? = some b6[i]:=List.getElem?_eq_getElem (by omega)
  simp only [List.getD,mV,Option.getD_some];exact(qR i _ _ ha mV).2.1
 ·intro i j hi hj;obtain⟨b,u,_,_,hu⟩:=iT i j hi hj;rw [BL,Nat.zero_add];have:=Gf (M:=M) (b:=w.heap.size) (lo:=0) hu
  simpa [List.getD,hu]using this
 ·intro i j hi hj;obtain⟨b,u,c',Ng,hu⟩:=iT i j hi hj;obtain⟨y,_,_,_,bQ,_⟩:=pM i b c';simp only [List.getD,hu,Option.getD_some];exact Gd bQ Ng
 ·intro i j c hi hc;have mV:xs[i]? = some xs[i]:=List.getElem?_eq_getElem (by omega)
  simp only [List.getD,mV,Option.getD_some]at hc
  have hj:j<cf.size:=by
   have ha:b6[i]? = some b6[i]:=List.getElem?_eq_getElem (by omega)
   rw [←(qR i _ _ ha mV).2.1];exact(List.getElem?_eq_some_iff.1 hc).1
  obtain⟨b,u,c',Ng,hu⟩:=iT i j hi hj;obtain⟨y,ce,_,_,_,cK⟩:=pM i b c';rw [mV]at ce;cases ce;simp only [List.getD,hu,Option.getD_some];exact(cK j u c Ng hc).mono hle
 ·cases aG;have:=Nf (l0:=l0) (T:=e) h.bw (vs:=jJ.toList) (T':=e) (n:=len) (cap:=len) (w':={w with heap:=w.heap.push (.cells ⟨jJ.toList⟩ e (0,0))}) rfl rfl (Nat.le_refl _) (by rw [dO.cellsOf];simp [eu])
  rw [dO.cellsOf]at this;exact this
end
section
variable {P:Program} {K:Ctx} {N:Nat} {M:Mem} {β:Nat→Option Nat} {g:dk} {tmps:Array Value} {w:World} {o:Oper} {f:lm} {p:Path} {tt:dI} {cd:gD} {ops:List Oper}
def aeJ(h:fX P K N M β g tmps w)(hp:fN tmps p)(cz:fB P tt=true){t:TypeId}{aS:eM}(ab:look tt t=some aS){a:Operand}(av:o.op = .load t a){q off:Nat}(ha:rd g.env g.b5 p tt o.type a=some (.ptr q off))
 {cs:List a7} (ao:look g.H q=some cs) (jK:aS.k.isAgg=true) (hle:off+aS.size≤cs.length):
 Yields P K M β g {e:=some {d:=qJ (((cs.drop off).take aS.size).map (·.d))},rs:=g.rs} o tmps w:=by
 obtain⟨r⟩:=eI cz ab;obtain⟨b,hb,aw⟩:=se (eh (ds:=[]) h hp ha);obtain⟨bG,vs,T,bY,bm,hlen,_,_,jg,mR⟩:=h.bw.box q cs ao;rw [hb]at bY;cases bY;have fe:=Vw (P:=P) (w:=w) r (off:=off) bm (by omega) jK
 refine fa h (v:=.agg ⟨(vs.drop off).take aS.size⟩) ?_ ?_
 ·simp only [execOp,av];rw [aw];exact jy _ fe
 ·refine F' (by simp;omega) (λv aw=>jg v (List.mem_of_mem_drop (List.mem_of_mem_take aw))) (λi v c aw hc=>?_)
  rw [List.getElem?_map,Option.map_eq_some_iff]at hc;obtain⟨e,he,rfl⟩:=hc;rw [List.getElem?_take]at aw he;split at aw
  ·rename_i hi;rw [if_pos hi,List.getElem?_drop]at he;rw [List.getElem?_drop]at aw;have:=h.bw.fv (.cell q (off+i)) e (by simp [aK.at,ao,he])
   simpa [cu,hb,cell_of_heap bm,aw]using this
  ·cases aw
def aeK(h:fX P K N M β g tmps w)(hp:fN tmps p)(cz:fB P tt=true){t:TypeId}{aS:eM}(ab:look tt t=some aS){a:Operand}(av:o.op = .load t a){q off:Nat}(ha:rd g.env g.b5 p tt o.type a=some (.ptr q off))
 {cs:List a7} (ao:look g.H q=some cs) (jK:aS.k.isAgg=false) {e:a7} (he:cs[off]? = some e):
 Yields P K M β g {e:=some {d:=e.d},rs:=g.rs} o tmps w:=by
 obtain⟨r⟩:=eI cz ab;obtain⟨b,hb,aw⟩:=se (eh (ds:=[]) h hp ha);obtain⟨bG,vs,T,v,bY,bm,e_,cj⟩:=MO h.bw ao he;rw [hb]at bY;cases bY;have hc:w.cell? ⟨b,off,none⟩=some v:=by rw [cell_of_heap bm,e_]
 refine fa h (v:=v) ?_ ?_
 ·simp only [execOp,av];rw [aw];exact jy _ (M0 (P:=P) r hc jK)
 ·have:=h.bw.fv (.cell q off) e (by simp [aK.at,ao,he])
  rwa [cj]at this
def VP{cs:List a7}{off:Nat}{e:a7}(cX:off<cs.length)(i:Nat):(setAt cs off [e])[i]? = if i=off then some e else cs[i]? := by
 rw [(sf cs off [e] (by simp;omega)).2 i]
 by_cases hi:i=off
 ·subst hi;simp
 ·rw [if_neg (by simp;omega),if_neg hi]
def aeL(h:fX P K N M β g tmps w)(hp:fN tmps p)(cz:fB P tt=true){t:TypeId}{aS:eM}(ab:look tt t=some aS){a:Operand}(av:o.op = .load t a){q off:Nat}(ha:rd g.env g.b5 p tt o.type a=some (.ptr q off))
 {cs:List a7} (ao:look g.H q=some cs) (jK:aS.k.isAgg=false) {e:a7} (he:cs[off]? = some e) {s:TypeId} (hs:e.own=some s) {rs:List fu}:
 Yields P K M β g {e:=some e,hs:=[(q,setAt cs off [{d:=e.d}])],rs} o tmps w:=by
 obtain⟨r⟩:=eI cz ab;obtain⟨b,hb,aw⟩:=se (eh (ds:=[]) h hp ha);obtain⟨bG,vs,T,v,bY,bm,e_,cj⟩:=MO h.bw ao he;rw [hb]at bY;cases bY;have hc:w.cell? ⟨b,off,none⟩=some v:=by rw [cell_of_heap bm,e_]
 have cX:off<cs.length:=(List.getElem?_eq_some_iff.1 he).1
 have mS:=λl0=>h.bw.Vq ao he hs (cs':=setAt cs off [{d:=e.d}]) (sf cs off _ (by simp;omega)).1 (λj bg hj=>by
  rw [VP cX]at hj;by_cases Nh:j=off
  ·subst Nh;simp at hj;subst hj;exact⟨e,he,rfl,by simp⟩
  ·rw [if_neg Nh]at hj;exact⟨bg,hj,rfl,λT aG=>⟨aG,Nh⟩⟩) l0
 refine .inl ⟨v,w,?_,M,β,Mem.le_refl _,λ_ _ h=>h,λ_ _ h=>.inl h,(mS (.slot 0)).1,λe1 si=>?_⟩
 ·simp only [execOp,av];rw [aw];exact jy _ (M0 (P:=P) r hc jK)
 ·cases si;refine⟨?_,λT l0 aG=>?_⟩
  ·have:=h.bw.fv (.cell q off) e (by simp [aK.at,ao,he])
   rwa [cj]at this
  ·rw [hs]at aG;cases aG;have:=(mS l0).2
   rwa [cj]at this
def aeM(h:fX P K N M β g tmps w)(hp:fN tmps p)(cz:fB P tt=true){t:TypeId}{aS:eM}(ab:look tt t=some aS){a:Operand}(av:o.op = .load t a){x:V}(ha:rd g.env g.b5 p tt o.type a=some (.e6 x))
 (jK:x.isAgg=aS.k.isAgg) (hs:x.cells.length=aS.size):Yields P K M β g {e:=some {d:=.v x},rs:=g.rs} o tmps w:=by
 obtain⟨r⟩:=eI cz ab;obtain⟨u,Z,aa⟩:=aeq (w:=w) r h.bw.mem (eh (ds:=[]) h hp ha) jK hs;exact fa h (v:=u) (by simp only [execOp,av];exact jy _ Z) (.v _ _ aa)
def VQ{t:TypeId}{aS:eM}(r:Row P t aS){b off:Nat}{vs:List Value}{T:TypeId}(bm:w.heap[b]? = some (.cells ⟨vs⟩ T (0,0))){v:Value}(hs:v.cells.size=aS.size)(jg:∀u,u∈v.cells.toList→u.oneCell'=true)
 (hle:off+aS.size≤vs.length):(Instr.storeAt t (.pointer (some ⟨b,off,none⟩)) v).run P w = .ok () (w.setRow b (vs.take off++v.cells.toList++vs.drop (off+aS.size)).toArray):=by
 have:=run_storeCells_at P b off T v.cells.toList 0 ⟨vs⟩ w bm (by simpa [hs]using hle) jg
 simp only [Nat.add_zero,Array.length_toList,hs]at this;simp [Instr.storeAt,Instr.sureAddr,storeVar,r.run_sizeOf,hs,this]
def Ni{vs us:List Value}{off:Nat}(hle:off+us.length≤vs.length)(i:Nat):(vs.take off++us++vs.drop (off+us.length))[i]? = if off≤i∧i<off+us.length then us[i-off]? else vs[i]? := by
 have aF:(vs.take off).length=off:=by simp;omega
 by_cases Z:i<off
 ·rw [if_neg (by omega),List.append_assoc,List.getElem?_append_left (by omega),List.getElem?_take,if_pos Z]
 ·by_cases aa:i<off+us.length
  ·rw [if_pos (by omega),List.append_assoc,List.getElem?_append_right (by omega),aF,List.getElem?_append_left (by omega)]
  ·rw [if_neg (by omega),List.getElem?_append_right (by simp;omega),List.getElem?_drop]
   congr 1
   simp;omega
def BM{vs us:List Value}{off:Nat}(hle:off+us.length≤vs.length):(vs.take off++us++vs.drop (off+us.length)).length=vs.length:=by
 simp;omega
def VR{vs us:List Value}{off:Nat}(Z:∀v,v∈vs→v.oneCell'=true)(aa:∀v,v∈us→v.oneCell'=true):∀v,v∈vs.take off++us++vs.drop (off+us.length)→v.oneCell'=true:=by
 intro v aw;rcases List.mem_append.1 aw with aw|aw
 ·rcases List.mem_append.1 aw with aw|aw
  ·exact Z v (List.mem_of_mem_take aw)
  ·exact aa v aw
 ·exact Z v (List.mem_of_mem_drop aw)
def VS{v:Value}{t:TypeId}{a x:Operand}(av:o.op = .store t a x)(hx:(⟨tmps,[]⟩:Act).eval x=v){hU:Value}(ha:(⟨tmps,[]⟩:Act).eval a=hU){w':World}(h:(Instr.storeAt t hU v).run P w = .ok () w'):
 (execOp (Act.eval ⟨tmps,[]⟩) o).run P w = .ok .skip w':=by
 simp only [execOp,av,hx,ha];simp [h]
def lr.set{T:TypeId}{n:Nat}{cs ds:List a7}{off:Nat}(h:lr P T n cs)(hn:∀e,e∈ds→∀r o u,e.d ≠ .ct r o u)(hle:off+ds.length≤cs.length):lr P T n (setAt cs off ds):=λe he r o u hd=>by
 obtain⟨i,hi,rfl⟩:=List.getElem_of_mem he;have hg:(setAt cs off ds)[i]? = some (setAt cs off ds)[i]:=List.getElem?_eq_getElem hi;rw [(sf cs off ds hle).2 i]at hg;split at hg
 ·exact absurd hd (hn _ (List.mem_of_getElem? hg) r o u)
 ·exact h _ (List.mem_of_getElem? hg) r o u hd
def aeN(h:fX P K N M β g tmps w)(hp:fN tmps p)(cz:fB P tt=true){t:TypeId}{aS:eM}(ab:look tt t=some aS){a x:Operand}(av:o.op = .store t a x){q off:Nat}(ha:rd g.env g.b5 p tt o.type a=some (.ptr q off))
 {cs:List a7} (ao:look g.H q=some cs) {d:D} (hx:rd g.env g.b5 p tt t x=some d) (aF:r8 d=false) (tw:tm (cellsD d)=true) (hs:(cellsD d).length=aS.size) (hle:off+aS.size≤cs.length):
 Yields P K M β g {e:=none,hs:=[(q,setAt cs off ((cellsD d).map λd=>{d}))],rs:=g.rs} o tmps w:=by
 obtain⟨r⟩:=eI cz ab;obtain⟨b,hb,aw⟩:=se (eh (ds:=[]) h hp ha);obtain⟨bG,vs,T,bY,bm,hlen,_,_,jg,mR⟩:=h.bw.box q cs ao;rw [hb]at bY;cases bY;obtain⟨Z,aa,aj⟩:=(eh (ds:=[]) h hp hx).cells aF;generalize hu:(⟨tmps,[]⟩:Act).eval x=u at Z aa aj
 have VT:u.cells.size=aS.size:=by simp at Z;omega
 have vg:u.cells.toList.length=aS.size:=by simpa using VT
 have fe:=VQ (P:=P) r (off:=off) bm VT aa (by omega)
 rw [←vg]at fe;refine .inr (.inl ⟨rfl,_,VS av hu aw fe,M,β,Mem.le_refl _,λ_ _ h=>h,λ_ _ h=>.inl h,?_,λe he=>by cases he⟩)
 have xZ:=sf cs off ((cellsD d).map λd=>({d}:a7)) (by simp;omega)
 refine h.bw.MQ ao hb bm (vs':=vs.take off++u.cells.toList++vs.drop (off+u.cells.toList.length)) (by rw [BM (by omega),xZ.1,hlen]) (VR jg aa) (λ_=>by
  rw [BM (by omega)]
  refine mR.set (λe he=>?_) (by simp;omega)
  obtain⟨c,hc,rfl⟩:=List.mem_map.1 he;exact F3 tw c hc) xZ.1
  (setRow_heap w b _ _ T (0,0) bm) (λbG dh=>setRow_other w b bG _ dh) cs.length (λi v e e_ mW=>?_)
 rw [Ni (by omega)]at e_
 rw [xZ.2]at mW;simp only [List.length_map]at mW;by_cases hi:off≤i∧i<off+aS.size
 ·rw [if_pos (by omega)]at e_
  rw [if_pos (by omega),List.getElem?_map,Option.map_eq_some_iff]at mW
  obtain⟨c,hc,rfl⟩:=mW;exact⟨aj _ v c e_ hc,by simp⟩
 ·rw [if_neg (by omega)]at e_
  rw [if_neg (by omega)]at mW
  have tB:i<cs.length:=(List.getElem?_eq_some_iff.1 mW).1;refine⟨?_,λT aG=>.inl ⟨by omega,⟨e,mW,aG⟩,e_⟩⟩
  have:=h.bw.fv (.cell q i) e (by simp [aK.at,ao,mW])
  simpa [cu,hb,cell_of_heap bm,e_]using this
def VU(ty:Nat→Option TypeId):∀(l:List a7) (n:Nat),(qL ty n l).length=l.length∧∀(i:Nat) bg,(qL ty n l)[i]? = some bg→∃e,l[i]? = some e∧((e.d=bg.d∧∀T,bg.own=some T→e.own=some T)∨∃k g,e.d = .v (.oN k g)∧bg.d = .v (.bH k 0 g))
 |[],n=>by simp [qL]
 |e::l,n=>by
  obtain⟨Z,aa⟩:=VU ty l (n+1);refine⟨by simp [qL,Z],λi bg he=>?_⟩
  cases i with
  |zero=>
   simp only [qL,List.getElem?_cons_zero,Option.some.injEq]at he;refine⟨e,rfl,?_⟩
   split at he
   ·rename_i k g hd;subst he;exact .inr ⟨k,g,hd,rfl⟩
   ·subst he;exact .inl ⟨rfl,λ_ h=>h⟩
  |succ i=>simp only [qL,List.getElem?_cons_succ]at he ⊢;exact aa i bg he
def aeO(h:fX P K N M β g tmps w)(hp:fN tmps p)(cz:fB P tt=true){t:TypeId}{aS:eM}(ab:look tt t=some aS){a x:Operand}(av:o.op = .store t a x){q off:Nat}(ha:rd g.env g.b5 p tt o.type a=some (.ptr q off))
 {cs:List a7} (ao:look g.H q=some cs) {d:D} (hx:rd g.env g.b5 p tt t x=some d) (aF:r8 d=false) (tw:tm (cellsD d)=true) (hs:(cellsD d).length=aS.size) (hle:off+aS.size≤cs.length) (ty:Nat→Option TypeId):
 Yields P K M β g {e:=none,hs:=[(q,qL ty 0 (setAt cs off ((cellsD d).map λd=>{d})))],rs:=g.rs} o tmps w:=by
 have up:∀{M':Mem} {β':Nat→Option Nat} {v:Value} {w':World},iS P K M β g {e:=none,hs:=[(q,setAt cs off ((cellsD d).map λd=>{d}))],rs:=g.rs} tmps v w'→
  iS P K M β g {e:=none,hs:=[(q,qL ty 0 (setAt cs off ((cellsD d).map λd=>{d})))],rs:=g.rs} tmps v w':=by
  rintro M' β' v w' ⟨BN,BO,Z,aa,aj,aC,_⟩
  refine⟨BN,BO,Z,aa,λr b hb=>?_,?_,λe he=>by cases he⟩
  ·rcases aj r b hb with aT|aT
   ·exact .inl aT
   ·right
    simp only [dX]at aT ⊢;split at aT
    ·rename_i vh;simp [vh]
    ·cases aT
  ·obtain⟨g1,g2⟩:=VU ty (setAt cs off ((cellsD d).map λd=>({d}:a7))) 0
   refine aC.aea rfl (λl bg dF=>?_) (λr cs' ai=>?_)
   ·cases l with
    |slot s=>exact⟨bg,dF,.inl ⟨rfl,λ_ h=>h⟩⟩
    |cell r i=>
     simp only [aK.at,after,List.cons_append,List.nil_append,dX]at dF ⊢;by_cases vh:q=r
     ·simp only [vh,if_true,Option.bind_some]at dF ⊢;exact g2 i bg dF
     ·simp only [vh,if_false]at dF ⊢;exact⟨bg,dF,.inl ⟨rfl,λ_ h=>h⟩⟩
   ·simp only [after,List.cons_append,List.nil_append,dX]at ai ⊢;by_cases vh:q=r
    ·simp only [vh,if_true,Option.some.injEq]at ai ⊢;subst ai;exact⟨_,rfl,g1.symm⟩
    ·simp only [vh,if_false]at ai ⊢;exact⟨cs',ai,rfl⟩
 rcases aeN h hp cz ab av ha ao hx aF tw hs hle with⟨v,w',Z,aa⟩|⟨h0,w',Z,aa⟩|⟨fn,vs,Z,aa⟩
 ·exact .inl ⟨v,w',Z,up (M':=M) (β':=β) aa⟩
 ·exact .inr (.inl ⟨h0,w',Z,up (M':=M) (β':=β) aa⟩)
 ·exact .inr (.inr ⟨fn,vs,Z,aa.mono λe w' ⟨v,aj,aC⟩=>⟨v,aj,up (M':=M) (β':=β) aC⟩⟩)
def VV(h:fX P K N M β g tmps w)(hp:fN tmps p)(cz:fB P tt=true){t:TypeId}{aS:eM}(ab:look tt t=some aS){a x:Operand}(av:o.op = .store t a x){q off:Nat}(ha:rd g.env g.b5 p tt o.type a=some (.ptr q off))
 {cs:List a7} (ao:look g.H q=some cs) {k n:Nat} {get:Nat→V} (hx:rd g.env g.b5 p tt t x=some (.v (.bH k n get))) (hs:aS.size=1) (hle:off+aS.size≤cs.length) {s:TypeId} {l:List Nat}
 (gk:nm P K M β {env:=hB l g.env,H:=g.H,aX:=g.aX} tmps w (.cell q off) ((⟨tmps,[]⟩:Act).eval x) s):
 Yields P K M β g {e:=none,hJ:=l,hs:=[(q,setAt cs off [{d:=.v (.bH k n get),own:=some s}])],rs:=g.rs} o tmps w:=by
 obtain⟨r⟩:=eI cz ab;obtain⟨b,hb,aw⟩:=se (eh (ds:=[]) h hp ha);have oT:=h.bw.hJ l;obtain⟨bG,vs,T,bY,bm,hlen,_,_,jg,mR⟩:=h.bw.box q cs ao;rw [hb]at bY;cases bY;have lx:=eh (ds:=[]) h hp hx;generalize hu:(⟨tmps,[]⟩:Act).eval x=u at lx gk
 have BP:u.cells = #[u]∧u.oneCell'=true:=by
  obtain⟨a,cap,rfl,_⟩:=vd lx;exact⟨rfl,rfl⟩
 have fe:=VQ (P:=P) r (off:=off) bm (v:=u) (by rw [BP.1,hs];rfl) (by rw [BP.1];simpa using BP.2) (by omega)
 rw [BP.1,hs]at fe;have cX:off<cs.length:=by omega
 refine .inr (.inl ⟨rfl,_,VS av hu aw fe,M,β,Mem.le_refl _,λ_ _ h=>h,λ_ _ h=>.inl h,?_,λe he=>by cases he⟩)
 refine oT.MQ (st:={env:=hB l g.env,H:=g.H,aX:=g.aX}) ao hb bm (vs':=vs.take off++[u]++vs.drop (off+1)) (by rw [show off+1=off+[u].length by rfl,BM (by simp;omega),(sf cs off _ (by simp;omega)).1,hlen])
  (VR (us:=[u]) jg (by simpa using BP.2)) (λ_=>by
   rw [show off+1=off+[u].length by rfl,BM (by simp;omega)]
   refine mR.set (λe he=>?_) (by simp;omega)
   obtain rfl:=List.mem_singleton.1 he;exact λ_ _ _ e=>by cases e) (sf cs off _ (by simp;omega)).1 (setRow_heap w b _ _ T (0,0) bm) (λbG dh=>setRow_other w b bG _ dh) off (λi v e e_ mW=>?_)
 rw [show off+1=off+[u].length by rfl,Ni (by simp;omega)]at e_
 rw [VP cX]at mW;by_cases hi:i=off
 ·subst hi;simp at e_ mW
  subst e_;subst mW;refine⟨lx,λT aG=>.inr ⟨rfl,?_⟩⟩
  cases aG;exact gk
 ·rw [if_neg hi]at mW;rw [if_neg (by simp;omega)]at e_
  refine⟨?_,λT aG=>.inl ⟨hi,⟨e,mW,aG⟩,e_⟩⟩
  have:=h.bw.fv (.cell q i) e (by simp [aK.at,ao,mW])
  simpa [cu,hb,cell_of_heap bm,e_]using this
end
section
variable {P:Program} {K:Ctx} {N:Nat} {M:Mem} {β:Nat→Option Nat} {g:dk} {tmps:Array Value} {w:World} {o:Oper} {f:lm} {p:Path} {tt:dI} {cd:gD} {ops:List Oper}
structure ly(M:Mem)(k m:Nat)(get:Nat→V)(news:List Value):Prop where
 len:news.length=m*k
 hk:∀i,i<m→(get i).cells.length=k
 one:∀u,u∈news→u.oneCell'=true
 rep:∀(i j:Nat) c u,i<m→(get i).cells[j]? = some c→news[i*k+j]? = some u→de M u c
def flat(k m:Nat)(val:Nat→Nat→Value):List Value:=(List.range (m*k)).map λq=>val (q / k) (q % k)
def qS(k m:Nat)(val:Nat→Nat→Value):(flat k m val).length=m*k:=by simp [flat]
def aeP{k m:Nat}{val:Nat→Nat→Value}{i j:Nat}(hi:i<m)(hj:j<k):(flat k m val)[i*k+j]? = some (val i j):=by
 have cX:i*k+j<m*k:=by
  have Z:(i+1)*k≤m*k:=Nat.mul_le_mul_right k hi;rw [Nat.add_mul]at Z;omega
 have Z:(i*k+j) / k=i:=by rw [Nat.mul_comm,Nat.mul_add_div (by omega),Nat.div_eq_of_lt hj];omega
 have aa:(i*k+j) % k=j:=by rw [Nat.mul_comm,Nat.mul_add_mod,Nat.mod_eq_of_lt hj]
 simp [flat,cX,Z,aa]
def VW{k m:Nat}{val:Nat→Nat→Value}{q:Nat}{u:Value}(h:(flat k m val)[q]? = some u):q / k<m∧q % k<k∧q=q / k*k+q % k∧u=val (q / k) (q % k):=by
 have ao:q<m*k:=by have:=(List.getElem?_eq_some_iff.1 h).1;rwa [qS]at this
 have hk:0<k:=by
  rcases Nat.eq_zero_or_pos k with rfl|h;· simp at ao
  ·exact h
 refine⟨(Nat.div_lt_iff_lt_mul hk).2 ao,Nat.mod_lt _ hk,(Nat.div_add_mod' q k).symm,?_⟩
 simp [flat,ao]at h;exact h.symm
def Nj{v:Value}{k n:Nat}{get:Nat→V}(h:cy M β v (.v (.bH k n get))):((v = .slice none 0 0∨∃a,v = .slice (some a) 0 0)∧n=0)∨
 ∃(b off cap:Nat) (eJ:List Value),v = .slice (some ⟨b,off,none⟩) n cap∧n≤cap∧ly M k n get eJ∧∀(q:Nat) u,eJ[q]? = some u→M b (off+q)=some u:=by
 rcases tv h with h|⟨b,off,cap,val,rfl,hc,hk,cT,Z,ai⟩
 ·exact .inl h
 ·refine .inr ⟨b,off,cap,flat k n val,rfl,hc,⟨qS k n val,hk,?_,?_⟩,?_⟩
  ·refine VI λq u hu=>?_
   obtain⟨aa,aj,_,rfl⟩:=VW hu;exact Z _ _ aa aj
  ·intro i j c u hi hc hu;have hj:j<k:=by rw [←hk i hi];exact(List.getElem?_eq_some_iff.1 hc).1
   rw [aeP hi hj]at hu;cases hu;exact ai i j c hi hc
  ·intro q u hu;obtain⟨aa,aj,aC,rfl⟩:=VW hu;have:=cT _ _ aa aj
   rwa [Nat.add_assoc,←aC]at this
def x0(k:Nat)(get:Nat→V):ly M k 0 get []:=⟨by simp,by simp,by simp,by simp⟩
def ly.app{k n m:Nat}{get me:Nat→V}{eJ news:List Value}(h:ly M k n get eJ)(aa:ly M k m me news):ly M k (n+m) (λi=>bif Nat.blt i n then get i else me (i-n)) (eJ++news):=by
 have hb:∀i,(bif Nat.blt i n then get i else me (i-n))=if i<n then get i else me (i-n):=by
  intro i;by_cases hi:i<n
  ·have:Nat.blt i n=true:=by simpa using hi
   simp [this,hi]
  ·have:Nat.blt i n=false:=by rw [Bool.eq_false_iff];simpa using hi
   simp [this,hi]
 refine⟨by simp [h.len,aa.len,Nat.add_mul],λi hi=>?_,λu hu=>?_,λi j c u hi hc hu=>?_⟩
 ·rw [hb];split
  ·exact h.hk i (by assumption)
  ·exact aa.hk _ (by omega)
 ·rcases List.mem_append.1 hu with hu|hu
  ·exact h.one u hu
  ·exact aa.one u hu
 ·rw [hb]at hc;by_cases hin:i<n
  ·rw [if_pos hin]at hc;have hj:j<k:=by rw [←h.hk i hin];exact(List.getElem?_eq_some_iff.1 hc).1
   have cX:i*k+j<eJ.length:=by
    rw [h.len];have Z:(i+1)*k≤n*k:=Nat.mul_le_mul_right k hin;rw [Nat.add_mul]at Z;omega
   rw [List.getElem?_append_left cX]at hu;exact h.rep i j c u hin hc hu
  ·rw [if_neg hin]at hc;have VX:n*k≤i*k:=Nat.mul_le_mul_right k (by omega)
   rw [List.getElem?_append_right (by rw [h.len];omega),h.len]at hu
   have:i*k+j-n*k=(i-n)*k+j:=by rw [Nat.sub_mul];omega
   rw [this]at hu;exact aa.rep (i-n) j c u (by omega) hc hu
def ly.mono{M':Mem}(cT:M.le M'){k n:Nat}{get:Nat→V}{eJ:List Value}(h:ly M k n get eJ):ly M' k n get eJ:=
 ⟨h.len,h.hk,h.one,λi j c u hi hc hu=>(h.rep i j c u hi hc hu).mono cT⟩
def ly.bH{k n cap b off:Nat}{get:Nat→V}{eJ:List Value}(h:ly M k n get eJ)(hc:n≤cap)(cT:∀(q:Nat) u,eJ[q]? = some u→M b (off+q)=some u):
 de M (.slice (some ⟨b,off,none⟩) n cap) (.bH k n get):=by
 have hin:∀i j,i<n→j<k→eJ[i*k+j]? = some (eJ.getD (i*k+j) undef):=λi j hi hj=>aeF h.len hi hj
 refine .bH b off k n cap get (λi j=>eJ.getD (i*k+j) undef) hc h.hk (λi j hi hj=>?_) (λi j hi hj=>Gd h.one (hin i j hi hj)) (λi j c hi lX=>?_)
 ·rw [Nat.add_assoc];exact cT _ _ (hin i j hi hj)
 ·have hj:j<k:=by rw [←h.hk i hi];exact(List.getElem?_eq_some_iff.1 lX).1
  exact h.rep i j c _ hi lX (hin i j hi hj)
def aeQ(t hL ty e:TypeId)(i:TypeInfo)(aF:P.underlying t=some (.slice e))(hi:P.info? e=some i)(b vi lY:Nat)(x:Value)(n:Nat)(news:List Value)(hs:Src P i.size hL x n news w)
 (gm:vi+n≤lY) {vs:List Value} {T:TypeId} (bm:w.heap[b]? = some (.cells ⟨vs⟩ T (0,0))) (hle:vi*i.size+news.length≤vs.length):
 (Builtin.append_ #[t,hL] ty #[.slice (some ⟨b,0,none⟩) vi lY,x]).run P w = .ok (.slice (some ⟨b,0,none⟩) (vi+n) lY) (w.setRow b (vs.take (vi*i.size)++news++vs.drop (vi*i.size+news.length)).toArray):=by
 have dx:=run_storeCells_at P b (vi*i.size) T news 0 ⟨vs⟩ w bm (by simpa using hle) hs.one
 simp only [Nat.add_zero]at dx;rcases hs.kind with⟨bg,hk⟩|hk<;>simp [Builtin.append_,run_underlying aF,run_underlying hk,sizeOf,typeInfo,hi,hs.len,gm,hs.cells,addr_add,dx]
def aeR(t hL ty e:TypeId)(i:TypeInfo)(aF:P.underlying t=some (.slice e))(hi:P.info? e=some i)(x:Value)(news:List Value)(hs:Src P i.size hL x 0 news w):
 (Builtin.append_ #[t,hL] ty #[.slice none 0 0,x]).run P w = .ok (.slice none 0 0) w:=by
 rcases hs.kind with⟨bg,hk⟩|hk<;>simp [Builtin.append_,run_underlying aF,run_underlying hk,sizeOf,typeInfo,hi,hs.len,hs.cells]
def Gg{t hL:TypeId}{a x:Operand}{c:Call}(av:o.op = .call c)(hc:c.callee = .builtin .append)(e7:c.args.toList=[a,x])(gV:c.argTypes.toList[0]? = some t)(oU:c.argTypes.toList[1]? = some hL)
 {hU Nk:Value} (ha:(⟨tmps,[]⟩:Act).eval a=hU) (hx:(⟨tmps,[]⟩:Act).eval x=Nk) {v:Value} {w':World}
 (h:∀ty,(Builtin.append_ #[t,hL] ty #[hU,Nk]).run P w = .ok v w'):
 (execOp (Act.eval ⟨tmps,[]⟩) o).run P w = .ok (.value v) w':=by
 have vj:c.args = #[a,x]:=by apply Array.ext';simpa using e7
 have Nl:∀ty,(Builtin.append_ c.argTypes ty #[hU,Nk]).run P w = .ok v w':=by
  intro ty;have h0:c.argTypes[0]? = some t:=by simpa using gV
  have Z:c.argTypes[1]? = some hL:=by simpa using oU
  have:=h ty
  simp only [Builtin.append_,h0,Z]at this ⊢;exact this
 simp only [execOp,av,resolve,hc,vj,Sem.run_bind,Sem.run_pure,Result.andThen_ok,invoke,builtin,List.map_toArray,List.map_cons,List.map_nil,ha,hx];simp [Nl]
def aeS(h:fX P K N M β g tmps w)(hp:fN tmps p)(cz:fB P tt=true){t hL e:TypeId}{aS cf:eM}(ab:look tt t=some aS)(hk:aS.k = .bH e)(eQ:look tt e=some cf){s:Nat}{x:Operand}{c:Call}
 (av:o.op = .call c) (hc:c.callee = .builtin .append) (e7:c.args.toList=[.tmp s,x]) (gV:c.argTypes.toList[0]? = some t) (oU:c.argTypes.toList[1]? = some hL)
 {n m:Nat} {get me:Nat→V} (hs:rd g.env g.b5 p tt o.type (.tmp s)=some (.full cf.size n get)) (BQ:1≤cf.bytes) (hm:1≤m)
 {news:List Value} (iU:Src P cf.size hL ((⟨tmps,[]⟩:Act).eval x) m news w) (lz:ly M cf.size m me news) (gm:(n+m)*cf.bytes≤140737488355328)
 {y:V} (ce:hA (.bH cf.size (n+m) λi=>bif Nat.blt i n then get i else me (i-n)) y) {rs:List fu} {a6:List Prop}:
 Yields P K M β g {e:=some {d:=.v y,own:=some e},hJ:=[s],rs,a6} o tmps w:=by
 obtain⟨r⟩:=eI cz ab;obtain⟨dO⟩:=eI cz eQ;have oT:=h.bw.hJ [s];have eX:=eh (ds:=[]) h hp hs;have BR:P.underlying t=some (.slice e):=by rw [r.hd,pL r hk]
 have vk:(⟨tmps,[]⟩:Act).eval (.tmp s)=tmps.getD s undef:=rfl;rw [vk]at eX
 have sj:∃base,tmps.getD s undef = .slice base n n∧de M (.slice base n n) (.bH cf.size n get):=by
  generalize tmps.getD s undef=hU at eX
  cases eX with
  |full base k n get h=>exact⟨base,rfl,h⟩
 obtain⟨base,aw,gI⟩:=sj;have cX:n<n+m:=by omega
 have vl:∃eJ:List Value,ly M cf.size n get eJ∧∀w':World,w'.heap=w.heap→(Builtin.firstCells cf.size n (.slice base n n)).run P w' = .ok eJ.toArray w':=by
  rcases Nj (cy.v _ _ gI:cy M β _ _) with⟨tC|⟨a,tC⟩,kc⟩|⟨b,off,cap,eJ,tC,hcap,holds,hold⟩
  ·simp only [Value.slice.injEq]at tC;obtain⟨rfl,rfl,_⟩:=tC;exact⟨[],x0 _ _,λw' _=>run_firstCells_none w' cf.size 0 0 0⟩
  ·simp only [Value.slice.injEq]at tC;obtain⟨rfl,rfl,_⟩:=tC;refine⟨[],x0 _ _,λw' n8=>?_⟩
   exact run_firstCells_some (P:=P) w' cf.size 0 a 0 0 [] (by simp) (λj u hj=>by simp at hj)
  ·simp only [Value.slice.injEq]at tC;obtain⟨rfl,_,rfl⟩:=tC;refine⟨eJ,holds,λw' n8=>?_⟩
   refine run_firstCells_some (P:=P) w' cf.size n ⟨b,off,none⟩ n n eJ (by rw [holds.len]) (λj u hj=>?_)
   rw [addr_add,sb (w:=w) (by rw [n8])]
   exact h.bw.mem _ _ _ (hold j u hj)
 obtain⟨eJ,holds,vl⟩:=vl
 have Nn:((n+m:Nat):Int)≤9223372036854775807:=by
  have:n+m≤(n+m)*cf.bytes:=Nat.le_mul_of_pos_right _ BQ
  omega
 have No:=growslice_fits (need:=n+m) (old:=n) (bytes:=cf.bytes) cX gm;have hcap:=grownCap_ge w (n+m) n e;have sk:=holds.app lz
 have vm:dO.z.cells.size=cf.size:=by
  obtain⟨ls,_⟩:=xU (M:=M) dO.BH;have:=dO.MY
  simp at ls;omega
 generalize ve:(Builtin.zeroCells dO.z.cells (grownCap w (n+m) n e-(n+m))).toList=zs
 have Np:Builtin.zeroCells dO.z.cells (grownCap w (n+m) n e-(n+m))=zs.toArray:=by rw [←ve]
 have Nq:zs.length=(grownCap w (n+m) n e-(n+m))*cf.size:=by
  rw [←ve];simp [Builtin.zeroCells,vm]
 have fe:∀ty,(Builtin.append_ #[t,hL] ty #[tmps.getD s undef,(⟨tmps,[]⟩:Act).eval x]).run P w =
  .ok (.slice (some ⟨w.heap.size,0,none⟩) (n+m) (grownCap w (n+m) n e)) (w.drew.alloc (.cells ⟨eJ++news++zs⟩ e (0,0))):=by
  intro ty;have:=run_append_grow_src (P:=P) w t hL ty e dO.info dO.z BR dO.hi dO.dw base n n eJ (by rw [dO.size];exact vl w.drew rfl) _ m news (by rw [dO.size];exact iU) cX Nn (by rw [dO.bytes];exact No)
  rw [aw,this,Np];simp
 have n8:(w.drew.alloc (.cells ⟨eJ++news++zs⟩ e (0,0))).heap=w.heap.push (.cells ⟨eJ++news++zs⟩ e (0,0)):=rfl
 have Nr:(eJ++news++zs).length=grownCap w (n+m) n e*cf.size:=by
  rw [List.length_append,sk.len,Nq,←Nat.add_mul];congr 1;omega
 obtain⟨cN,hle⟩:=oT.newRow (vs:=eJ++news++zs) (T:=e) (n:=(n+m)*cf.size) n8
 have BL:(eJ++news++zs).take ((n+m)*cf.size)=eJ++news:=by
  rw [List.take_append_of_le_length (by rw [sk.len];exact Nat.le_refl _),List.take_of_length_le (by rw [sk.len];exact Nat.le_refl _)]
 refine .inl ⟨_,_,Gg av hc e7 gV oU vk rfl fe,_,β,hle,λ_ _ h=>h,λ_ _ h=>.inl h,cN,λe1 he=>?_⟩
 cases he;refine⟨.v _ _ (ce _ _ ((sk.mono hle).bH hcap λq u hu=>?_)),λT l0 aG=>?_⟩
 ·rw [BL];exact Gf hu
 ·cases aG;have:=Nf (l0:=l0) (T:=e) oT (vs:=eJ++news++zs) (T':=e) (n:=n+m) (cap:=grownCap w (n+m) n e) rfl n8 hcap (by rw [dO.cellsOf,Nr];exact Nat.le_refl _)
  rw [dO.cellsOf]at this;exact this
def VY(h:fX P K N M β g tmps w)(hp:fN tmps p)(cz:fB P tt=true){t hL e:TypeId}{aS cf:eM}(ab:look tt t=some aS)(hk:aS.k = .bH e)(eQ:look tt e=some cf){s:Nat}{x:Operand}{c:Call}
 (av:o.op = .call c) (hc:c.callee = .builtin .append) (e7:c.args.toList=[.tmp s,x]) (gV:c.argTypes.toList[0]? = some t) (oU:c.argTypes.toList[1]? = some hL)
 {n m:Nat} {get me:Nat→V} (hs:rd g.env g.b5 p tt o.type (.tmp s)=some (.v (.bH cf.size n get))) {Ns:a7} (BS:look g.env s=some Ns) (gk:Ns.own=some e) (BQ:1≤cf.bytes)
 {news:List Value} (iU:Src P cf.size hL ((⟨tmps,[]⟩:Act).eval x) m news w) (lz:ly M cf.size m me news) (gm:(n+m)*cf.bytes≤140737488355328)
 {y:V} (ce:hA (.bH cf.size (n+m) λi=>bif Nat.blt i n then get i else me (i-n)) y) {rs:List fu} {a6:List Prop}:
 Yields P K M β g {e:=some {d:=.v y,own:=some e},hJ:=[s],rs,a6} o tmps w:=by
 obtain⟨r⟩:=eI cz ab;obtain⟨dO⟩:=eI cz eQ;have oT:=h.bw.hJ [s];have eX:=eh (ds:=[]) h hp hs;have BR:P.underlying t=some (.slice e):=by rw [r.hd,pL r hk]
 have vk:(⟨tmps,[]⟩:Act).eval (.tmp s)=tmps.getD s undef:=rfl;rw [vk]at eX;have Nt:=h.bw.own (.slot s) Ns e BS gk;simp only [cu]at Nt;have BT:=h.bw.hand BS gk
 -- ml row aeT is grown
 have VZ:∀(base:Option Addr) (lY:Nat) (eJ:List Value),tmps.getD s undef = .slice base n lY→ly M cf.size n get eJ→
  (∀w':World,w'.heap=w.heap→(Builtin.firstCells cf.size n (.slice base n lY)).run P w' = .ok eJ.toArray w')→lY<n+m→
  Yields P K M β g {e:=some {d:=.v y,own:=some e},hJ:=[s],rs,a6} o tmps w:=by
  intro base lY eJ aw holds vl cX
  have Nn:((n+m:Nat):Int)≤9223372036854775807:=by
   have:n+m≤(n+m)*cf.bytes:=Nat.le_mul_of_pos_right _ BQ
   omega
  have No:=growslice_fits (need:=n+m) (old:=lY) (bytes:=cf.bytes) cX gm;have hcap:=grownCap_ge w (n+m) lY e;have sk:=holds.app lz
  have vm:dO.z.cells.size=cf.size:=by
   obtain⟨ls,_⟩:=xU (M:=M) dO.BH;have:=dO.MY
   simp at ls;omega
  generalize ve:(Builtin.zeroCells dO.z.cells (grownCap w (n+m) lY e-(n+m))).toList=zs
  have Np:Builtin.zeroCells dO.z.cells (grownCap w (n+m) lY e-(n+m))=zs.toArray:=by rw [←ve]
  have Nq:zs.length=(grownCap w (n+m) lY e-(n+m))*cf.size:=by
   rw [←ve];simp [Builtin.zeroCells,vm]
  have fe:∀ty,(Builtin.append_ #[t,hL] ty #[tmps.getD s undef,(⟨tmps,[]⟩:Act).eval x]).run P w =
   .ok (.slice (some ⟨w.heap.size,0,none⟩) (n+m) (grownCap w (n+m) lY e)) (w.drew.alloc (.cells ⟨eJ++news++zs⟩ e (0,0))):=by
   intro ty;have:=run_append_grow_src (P:=P) w t hL ty e dO.info dO.z BR dO.hi dO.dw base n lY eJ (by rw [dO.size];exact vl w.drew rfl) _ m news (by rw [dO.size];exact iU) cX Nn (by rw [dO.bytes];exact No)
   rw [aw,this,Np];simp
  have n8:(w.drew.alloc (.cells ⟨eJ++news++zs⟩ e (0,0))).heap=w.heap.push (.cells ⟨eJ++news++zs⟩ e (0,0)):=rfl
  have Nr:(eJ++news++zs).length=grownCap w (n+m) lY e*cf.size:=by
   rw [List.length_append,sk.len,Nq,←Nat.add_mul];congr 1;omega
  obtain⟨cN,hle⟩:=oT.newRow (vs:=eJ++news++zs) (T:=e) (n:=(n+m)*cf.size) n8
  have BL:(eJ++news++zs).take ((n+m)*cf.size)=eJ++news:=by
   rw [List.take_append_of_le_length (by rw [sk.len];exact Nat.le_refl _),List.take_of_length_le (by rw [sk.len];exact Nat.le_refl _)]
  refine .inl ⟨_,_,Gg av hc e7 gV oU vk rfl fe,_,β,hle,λ_ _ h=>h,λ_ _ h=>.inl h,cN,λe1 he=>?_⟩
  cases he;refine⟨.v _ _ (ce _ _ ((sk.mono hle).bH hcap λq u hu=>?_)),λT l0 aG=>?_⟩
  ·rw [BL];exact Gf hu
  ·cases aG;have:=Nf (l0:=l0) (T:=e) oT (vs:=eJ++news++zs) (T':=e) (n:=n+m) (cap:=grownCap w (n+m) lY e) rfl n8 hcap (by rw [dO.cellsOf,Nr];exact Nat.le_refl _)
   rw [dO.cellsOf]at this;exact this
 have b1:(tmps.getD s undef = .slice none 0 0∧n=0)∨∃(b off cap:Nat) (eJ:List Value),tmps.getD s undef = .slice (some ⟨b,off,none⟩) n cap∧n≤cap∧ly M cf.size n get eJ∧∀(q:Nat) u,eJ[q]? = some u→M b (off+q)=some u:=by
  rcases Nj eX with⟨aw|⟨a,aw⟩,kc⟩|hx
  ·exact .inl ⟨aw,kc⟩
  ·subst kc;rcases Nt with h0|⟨bG,n',V0,vs,T',Z,_⟩
   ·exact .inl ⟨h0,rfl⟩
   ·rw [aw]at Z;simp only [Value.slice.injEq,Option.some.injEq]at Z;obtain⟨rfl,rfl,rfl⟩:=Z;exact .inr ⟨bG,0,0,[],aw,Nat.le_refl _,x0 _ _,λq u hu=>by simp at hu⟩
  ·exact .inr hx
 rcases b1 with⟨aw,kc⟩|⟨b,off,cap,eJ,aw,hcap,holds,hold⟩
 ·subst kc;by_cases hm:m=0
  ·subst hm;refine .inl ⟨_,_,Gg av hc e7 gV oU (vk.trans aw) rfl (λty=>aeR (w:=w) t hL ty e dO.info BR dO.hi _ news (by rw [dO.size];exact iU)),M,β,Mem.le_refl _,λ_ _ h=>h,λ_ _ h=>.inl h,oT,λe1 he=>?_⟩
   cases he;exact⟨.v _ _ (ce _ _ (.md _ _)),λT l0 _=>MT l0 T⟩
  ·refine VZ none 0 [] aw (x0 _ _) (λw' _=>run_firstCells_none w' cf.size 0 0 0) (by omega)
 ·by_cases cX:cap<n+m
  ·refine VZ (some ⟨b,off,none⟩) cap eJ aw holds (λw' n8=>?_) cX
   refine run_firstCells_some (P:=P) w' cf.size n ⟨b,off,none⟩ n cap eJ (by rw [holds.len]) (λj u hj=>?_)
   rw [addr_add,sb (w:=w) (by rw [n8])]
   exact h.bw.mem _ _ _ (hold j u hj)
  · -- there is room
   rcases Nt with h0|⟨bG,n',V0,vs,T',Z,asc,bm,np,kx,dN,sg⟩
   ·rw [aw]at h0;simp at h0
   ·rw [aw]at Z;simp only [Value.slice.injEq,Option.some.injEq,Addr.mk.injEq,and_true]at Z;obtain⟨⟨rfl,rfl⟩,rfl,rfl⟩:=Z;rw [dO.cellsOf]at np kx
    have hlen:n*cf.size+news.length≤vs.length:=by
     rw [lz.len,←Nat.add_mul];exact Nat.le_trans (Nat.mul_le_mul_right _ (by omega)) np
    have fe:∀ty,(Builtin.append_ #[t,hL] ty #[tmps.getD s undef,(⟨tmps,[]⟩:Act).eval x]).run P w =
     .ok (.slice (some ⟨b,0,none⟩) (n+m) cap) (w.setRow b (vs.take (n*cf.size)++news++vs.drop (n*cf.size+news.length)).toArray):=by
     intro ty;have:=aeQ (P:=P) (w:=w) t hL ty e dO.info BR dO.hi b n cap _ m news (by rw [dO.size];exact iU) (by omega) bm (by rw [dO.size];exact hlen)
     rw [dO.size]at this;rw [aw,this]
    generalize V1:vs.take (n*cf.size)++news++vs.drop (n*cf.size+news.length)=vs' at fe
    have aeU:vs'.length=vs.length:=by rw [←V1,BM hlen]
    have vf:(w.setRow b vs'.toArray).heap[b]? = some (.cells ⟨vs'⟩ T' (0,0)):=setRow_heap w b _ _ T' (0,0) bm;have hle:M.le (ji M b (n*cf.size) news):=Nd kx;have ku:h8 (tmps.getD s undef)=some b:=by rw [aw];rfl
    have cN:bN P K (ji M b (n*cf.size) news) β {env:=hB [s] g.env,H:=g.H,aX:=g.aX} tmps (w.setRow b vs'.toArray):=by
     refine oT.free b dN (λr cs ai hb=>(BT (.slot s)).unbox b r cs ku ai hb) (λl e1 hD fk tD=>?_) (λbG dh _=>setRow_other w b bG _ dh) hle (λbG o' dh=>?_) (λo' mX oV=>?_)
     ·by_cases Gh:l = .slot s
      ·subst Gh;simp only [aK.at,n9,List.mem_singleton,if_true,Option.map_eq_some_iff]at fk;obtain⟨_,_,rfl⟩:=fk;simp at tD
      ·exact(BT (.slot s)).apart l e1 hD b fk tD Gh ku
     ·simp [ji,dh]
     ·rw [cell_of_heap vf,←V1,Ni hlen];unfold ji at oV;split at oV
      ·rename_i ka;rw [if_pos ⟨ka.2.1,ka.2.2⟩];exact oV
      ·rename_i ka;rw [if_neg (λBU=>ka ⟨rfl,BU.1,BU.2⟩)]
       have:=h.bw.mem _ _ _ oV
       rwa [cell_of_heap bm]at this
    refine .inl ⟨_,_,Gg av hc e7 gV oU vk rfl fe,_,β,hle,λ_ _ h=>h,λ_ _ h=>.inl h,cN,λe1 he=>?_⟩
    cases he;refine⟨.v _ _ (ce _ _ (((holds.app lz).mono hle).bH (by omega) λq u hu=>?_)),λT l0 aG=>?_⟩
    ·by_cases ao:q<eJ.length
     ·rw [List.getElem?_append_left ao]at hu;exact hle _ _ _ (hold q u hu)
     ·rw [List.getElem?_append_right (by omega)]at hu
      have:=Gf (M:=M) (b:=b) (lo:=n*cf.size) hu
      rw [holds.len]at this;rw [Nat.zero_add];have pN:n*cf.size+(q-n*cf.size)=q:=by rw [holds.len]at ao;omega
      rwa [pN]at this
    ·cases aG;refine⟨.inr ⟨b,n+m,cap,vs',T',rfl,by omega,vf,by rw [dO.cellsOf,aeU];exact np,λo' kT=>?_,dN,sg⟩,λl e1 hD cY fk tD _ c'=>?_,λcY r cs c' ai=>?_⟩
     ·rw [dO.cellsOf,Nat.add_mul]at kT;unfold ji;rw [if_neg (λBU=>by rw [lz.len]at BU;omega)]
      exact kx o' (by omega)
     ·simp [h8]at c';subst c'
      have Gh:l ≠ .slot s:=by
       rintro rfl
       simp only [after,aK.at,n9,List.mem_singleton,if_true,Option.map_eq_some_iff]at fk;obtain⟨_,_,rfl⟩:=fk;simp at tD
      have aeV:cu tmps (w.setRow b vs'.toArray) β l=cu tmps w β l:=by
       cases l with
       |slot xR=>rfl
       |cell r i=>
        have eQ:=fk;simp only [after,aK.at]at eQ;cases ai:look g.H r with
        |none=>simp [ai]at eQ
        |some cs=>
         obtain⟨jj,aeW,pJ,fA,Gi,_⟩:=h.bw.box r cs ai;have dh:jj≠b:=by rintro rfl;exact(BT (.slot s)).unbox jj r cs ku ai fA
         simp only [cu,fA];rw [sb (w:=w) (setRow_other w b jj _ dh)]
      rw [aeV];exact(BT (.slot s)).apart l e1 hD b fk tD Gh ku
     ·simp [h8]at c';subst c';exact(BT (.slot s)).unbox b r cs ku ai
def V2(h:bN P K M β {env:=g.env,H:=g.H,aX:=g.aX} tmps w)(cz:fB P tt=true){hL e2:TypeId}{aS:eM}(ab:look tt hL=some aS)(hk:aS.k = .bH e2){v:Value}{k m:Nat}{get:Nat→V}
 (aw:cy M β v (.v (.bH k m get))):∃news,Src P k hL v m news w∧ly M k m get news:=by
 obtain⟨r⟩:=eI cz ab;have hu:P.underlying hL=some (.slice e2):=by rw [r.hd,pL r hk]
 rcases Nj aw with⟨rfl|⟨a,rfl⟩,rfl⟩|⟨b,off,cap,eJ,rfl,_,lz,hold⟩
 ·exact⟨[],Src.ofNil w hu 0,x0 _ _⟩
 ·exact⟨[],Src.ofSlice w hu a 0 0 [] (by simp) (λj u hj=>by simp at hj) (by simp),x0 _ _⟩
 ·have hc:∀(j:Nat) u,eJ[j]? = some u→w.cell? ((⟨b,off,none⟩:Addr).add j)=some u:=λj u hj=>by rw [addr_add];exact h.mem _ _ _ (hold j u hj)
  exact⟨eJ,Src.ofSlice w hu _ m cap eJ lz.len hc lz.one,lz⟩
def aeX(cz:fB P tt=true){hL:TypeId}{aS:eM}(ab:look tt hL=some aS)(hk:aS.k = .str)(l:atW)(M:Mem):
 ∃news,Src P 1 hL (.string ⟨⟨l⟩⟩) l.length news w∧ly M 1 l.length (λi=>.int .u8 (l.getD i 0).toNat) news:=by
 obtain⟨r⟩:=eI cz ab;have hu:P.underlying hL=some .string:=by rw [r.hd,qQ r hk]
 refine⟨byteCells ⟨⟨l⟩⟩,Src.ofString w hu ⟨⟨l⟩⟩,⟨by simp [byteCells],λi _=>rfl,λu hu=>?_,λi j c u hi hc hu=>?_⟩⟩
 ·obtain⟨_,_,rfl⟩:=List.mem_map.1 hu;rfl
 ·cases j with
  |succ j=>simp [V.cells]at hc
  |zero=>
   simp [V.cells]at hc;subst hc;simp only [byteCells,Nat.mul_one,Nat.add_zero,List.getElem?_map,Option.map_eq_some_iff]at hu;obtain⟨a,ha,rfl⟩:=hu;have:l[i]? = some a:=ha
   simp [this];exact .int _ _
end
end Go.Ab

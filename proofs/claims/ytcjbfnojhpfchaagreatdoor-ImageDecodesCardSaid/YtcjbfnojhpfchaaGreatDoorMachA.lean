/- The abstract machine: a step of code over plain data, proved against the model. -/
import Derived.Orders
import Derived.KernelRfl
import Derived.Laws.Sem
import Derived.Laws.Entries
import Derived.ChangeKeysEq
import Derived.Laws.Cells
import Derived.Laws.CopyRow
import Derived.Laws.Slices
import Derived.Laws.Strings2
import Derived.Deep.AppendSrc
set_option linter.all false
namespace Go.Ab
abbrev arY:=List UInt8
inductive V where
 |int (k:IntKind) (n:Int)
 |bool (b:Bool)
 |str (s:arY)
 |agg (cs:List V)
 |bS (k n:Nat) (get:Nat→V)
 |iface (t:TypeId) (x:V)
 |eC |iF |aX
 |any
 |oW (k:Nat) (get:Nat→V)
def V.cells:V→List V
 |.agg cs=>cs
 |x=>[x]
inductive D where
 |v (x:V)
 |ptr (r off:Nat)
 |cA (r off:Nat) (u:TypeId)
 |e' (x:V)
 |full (k n:Nat) (get:Nat→V)
 |fn (f:FuncId) (fh:List D)
 |agg (cs:List D)
 |bW (cs:List D)
structure a' where
 d:D
 own:Option TypeId:=none
structure aO where
 env:List (Nat×a')
 H:List (Nat×List a')
 aZ:Nat
inductive mq where
 |int (k:IntKind) |bool |str
 |ch (cD:List (Nat×TypeId×Nat))
 |bS (e:TypeId) |arr (n:Nat) (e:TypeId) |ptr |bf |oX
deriving DecidableEq
structure eS where
 k:mq
 size:Nat
 bytes:Nat
 zero:List V
 jT:List (Nat×TypeId):=[]
abbrev dT:=List (TypeId×eS)
def look{α:Type}:List (Nat×α)→Nat→Option α
 |[],_=>none
 |(j,x)::l,i=>bif Nat.beq j i then some x else look l i
def del{α:Type}:List (Nat×α)→Nat→List (Nat×α)
 |[],_=>[]
 |(j,x)::l,i=>bif Nat.beq j i then del l i else(j,x)::del l i
def mq.isAgg:mq→Bool
 |.ch _ |.arr _ _=>true
 |_=>false
abbrev Path:=List (Nat×Bool)
def Path.has(p:Path)(x:Nat×Bool):Bool:=p.any λy=>Nat.beq y.1 x.1&&(y.2 == x.2)
def Path.sub(q p:Path):Bool:=q.all p.has
inductive Out where
 |ret (d:D) (own:Option TypeId)
 |aK (x:V)
inductive fB where
 |val (x:V)
 |raw
 |own
 |call (o:Out) (H:Option (List (List a'))) (os:List Nat)
def aM(i:Int)(n:Nat):Bool:=decide (0≤i)&&decide (i<n)
def hv(i:Int)(n:Nat):Bool:=decide (0≤i)&&decide (i≤n)
def lG(a b:Int)(n:Nat):Bool:=decide (0≤a)&&(decide (a≤b)&&decide (b≤n))
def pN(a:Int):Bool:=!decide (a=0)
def room(n b:Nat):Bool:=decide (n*b≤140737488355328)
def b'(n:Nat):Bool:=decide (n≤9223372036854775807)
structure dz where
 env:List (Nat×a')
 ca:List (Nat×Path×D)
 H:List (Nat×List a')
 aZ:Nat
 rs:List fB
 a7:List Prop
 ids:List (Nat×Nat):=[]
def M4:Value→Option V
 |.int k n=>some (.int k n)
 |.bool b=>some (.bool b)
 |.string s=>some (.str s.data.toList)
 |.pointer none=>some .eC
 |.nilIface=>some .iF
 |.nilFunc=>some .aX
 |_=>none
def rd(env:List (Nat×a'))(ca:List (Nat×Path×D))(p:Path)(tt:dT)(ty:TypeId):Operand→Option D
 |.tmp t=>match look ca t with
  |some (q,d)=>bif q.sub p then some d else none
  |none=>(look env t).map (·.d)
 |.const (.slice none 0 0)=>match look tt ty with
  |some {k:=.bS _,zero:=[.bS k 0 get],..}=>some (.v (.bS k 0 get))
  |_=>none
 |.const v=>(M4 v).map .v
 |.func f=>some (.fn f [])
 |.global _=>none
def l5(f:TypeId→Operand→Option D):List Operand→List TypeId→Option (List D)
 |[],_=>some []
 |x::xs,t::ts=>match f t x,l5 f xs ts with
  |some d,some ds=>some (d::ds)
  |_,_=>none
 |_::_,[]=>none
def BC:List D→Option (List V)
 |[]=>some []
 |.v x::l=>(BC l).map (x :: ·)
 |_::_=>none
def qK(cs:List D):D:=match BC cs with|some vs=>.v (.agg vs)|none=>.agg cs
def cellsD:D→List D
 |.v x=>x.cells.map .v
 |.agg cs=>cs
 |d=>[d]
def tw:List D→Bool
 |[]=>true
 |.cA _ _ _::_=>false
 |_::l=>tw l
def rR:D→Bool
 |.bW _=>true
 |_=>false
def setAt{α:Type}:List α→Nat→List α→List α
 |cs,0,[]=>cs
 |_::cs,0,x::xs=>x::setAt cs 0 xs
 |c::cs,n+1,xs=>c::setAt cs n xs
 |[],_,_=>[]
def rS(place:Nat→Option (Nat×Nat))(cells:List D):List (Nat×D)→Option (List D)
 |[]=>some cells
 |(i,d)::rest=>match place i with
  |none=>none
  |some (off,size)=>
   bif Nat.beq (cellsD d).length size&&Nat.ble (off+size) cells.length && !rR d then rS place (setAt cells off (cellsD d)) rest else none
abbrev Mem:=Nat→Nat→Option Value
def Mem.le(M M':Mem):Prop:=∀b o v,M b o=some v→M' b o=some v
def Mem.le_refl(M:Mem):M.le M:=λ_ _ _ h=>h
def Mem.le_trans{A B C:Mem}(h:A.le B)(cN:B.le C):A.le C:=λb o v e=>cN b o v (h b o v e)
inductive di(M:Mem):Value→V→Prop where
 |int (k:IntKind) (n:Int):di M (.int k n) (.int k n)
 |bool (b:Bool):di M (.bool b) (.bool b)
 |str (l:arY):di M (.string ⟨⟨l⟩⟩) (.str l)
 |agg (vs:List Value) (cs:List V) (hn:vs.length=cs.length) (Z:∀v,v∈vs→v.oneCell'=true)
  (h:∀(i:Nat) v c,vs[i]? = some v→cs[i]? = some c→di M v c):di M (.agg ⟨vs⟩) (.agg cs)
 |mP (k:Nat) (get:Nat→V):di M (.slice none 0 0) (.bS k 0 get)
 |qL (a:Addr) (k:Nat) (get:Nat→V):di M (.slice (some a) 0 0) (.bS k 0 get)
 |bS (b off k n cap:Nat) (get:Nat→V) (val:Nat→Nat→Value) (hc:n≤cap)
  (hk:∀i,i<n→(get i).cells.length=k)
  (c8:∀i j,i<n→j<k→M b (off+i*k+j)=some (val i j)) (Z:∀i j,i<n→j<k→(val i j).oneCell'=true)
  (h:∀(i j:Nat) c,i<n→(get i).cells[j]? = some c→di M (val i j) c):di M (.slice (some ⟨b,off,none⟩) n cap) (.bS k n get)
 |iface (t:TypeId) (v:Value) (x:V) (h:di M v x):di M (.iface t v) (.iface t x)
 |eC:di M (.pointer none) .eC
 |iF:di M .nilIface .iF
 |aX:di M .nilFunc .aX
 |any (v:Value) (Z:v.oneCell'=true):di M v .any
 |oW (k:Nat) (get:Nat→V):di M (.slice none 0 0) (.oW k get)
def hC(raw x:V):Prop:=∀(M:Mem) (v:Value),di M v raw→di M v x
def pO(k:IntKind)(a b:Int):Int:=k.wrap (BitVec.ofInt k.bits a &&& BitVec.ofInt k.bits b).toNat
def rT(k:IntKind)(a b:Int):Int:=k.wrap (BitVec.ofInt k.bits a |||BitVec.ofInt k.bits b).toNat
def oY(k:IntKind)(a b:Int):Int:=k.wrap (BitVec.ofInt k.bits a ^^^ BitVec.ofInt k.bits b).toNat
def M5(k:IntKind)(a b:Int):Int:=k.wrap (BitVec.ofInt k.bits a &&& ~~~BitVec.ofInt k.bits b).toNat
def rU(k:IntKind)(x y:Int):Int:=k.wrap (x*2 ^ min y.toNat k.bits)
def rV(k:IntKind)(x y:Int):Int:=x.fdiv (2 ^ min y.toNat k.bits)
def n6(y:Int):Bool:=decide (0≤y)
def M6(op:BinOp)(k:IntKind)(x y:Int):Option (V×List Prop):=
 match op with
 |.shl=>some (.int k (rU k x y),[n6 y=true])
 |.shr=>some (.int k (rV k x y),[n6 y=true])
 |_=>none
def M7(op:BinOp)(k:IntKind)(a b:Int):Option (V×List Prop):=
 match op with
 |.add=>some (.int k (k.wrap (a+b)),[])
 |.sub=>some (.int k (k.wrap (a-b)),[])
 |.mul=>some (.int k (k.wrap (a*b)),[])
 |.quo=>some (.int k (k.wrap (a.tdiv b)),[pN b=true])
 |.rem=>some (.int k (a.tmod b),[pN b=true])
 |.eql=>some (.bool (decide (a=b)),[])
 |.neq=>some (.bool (!decide (a=b)),[])
 |.lss=>some (.bool (decide (a<b)),[])
 |.leq=>some (.bool (decide (a≤b)),[])
 |.gtr=>some (.bool (decide (b<a)),[])
 |.geq=>some (.bool (decide (b≤a)),[])
 |.and=>some (.int k (pO k a b),[])
 |.or=>some (.int k (rT k a b),[])
 |.xor=>some (.int k (oY k a b),[])
 |.andNot=>some (.int k (M5 k a b),[])
 |_=>none
def M8(op:BinOp)(a b:arY):Option (V×List Prop):=
 match op with
 |.add=>some (.str (a++b),[b' (a.length+b.length)=true])
 |.eql=>some (.bool (decide (a=b)),[])
 |.neq=>some (.bool (!decide (a=b)),[])
 |.lss=>some (.bool (Op.bytesLess a b),[])
 |.leq=>some (.bool (Op.bytesLess a b||decide (a=b)),[])
 |.gtr=>some (.bool (!(Op.bytesLess a b||decide (a=b))),[])
 |.geq=>some (.bool (!Op.bytesLess a b),[])
 |_=>none
def isNil:mq→D→Option Bool
 |.ptr,.v .eC=>some true
 |.ptr,.ptr _ _=>some false
 |.ptr,.e' _=>some false
 |.oX,.v .iF=>some true
 |.oX,.v (.iface _ _)=>some false
 |.bf,.v .aX=>some true
 |.bf,.fn _ _=>some false
 |_,_=>none
def GB:mq→D→Bool
 |.ptr,.v .eC=>true
 |.oX,.v .iF=>true
 |.bf,.v .aX=>true
 |_,_=>false
def jo:List (Option mq)→List V→List V→Option Bool
 |[],[],[]=>some true
 |some (.int _)::ks,.int k a::l,.int k' b::m=>bif decide (k=k') then(jo ks l m).map λr=>decide (a=b)&&r else none
 |some .str::ks,.str a::l,.str b::m=>(jo ks l m).map λr=>decide (a=b)&&r
 |some .bool::ks,.bool a::l,.bool b::m=>(jo ks l m).map λr=>(a == b)&&r
 |_,_,_=>none
def mQ(tt:dT):Nat→List (Nat×TypeId×Nat)→List (Option mq)
 | 0,cD=>cD.map λf=>(look tt f.2.1).map (·.k)
 |d+1,cD=>cD.flatMap λf=>match look tt f.2.1 with
  |some {k:=.ch gs,..}=>mQ tt d gs
  |o=>[o.map (·.k)]
def Vt(k:Option mq)(adR:Bool)(op:BinOp)(a b:D):Option (V×List Prop):=
 match a,b with
 |.v (.int k x),.v (.int k' y)=>match M6 op k x y with
  |some z=>some z
  |none=>bif decide (k=k')then M7 op k x y else none
 |.v (.str x),.v (.str y)=>M8 op x y
 |.v (.bool x),.v (.bool y)=>match k,op with
  |some .bool,.eql=>some (.bool (x == y),[])
  |some .bool,.neq=>some (.bool (!(x == y)),[])
  |_,_=>none
 |a,b=>match k with
  |some k=>bif GB k b&&adR then match isNil k a,op with
   |some t,.eql=>some (.bool t,[])
   |some t,.neq=>some (.bool (!t),[])
   |_,_=>none
   else none
  |none=>none
def isConst:Operand→Bool
 |.const _=>true
 |_=>false
def Vu(op:UnOp)(a:V):Option V:=
 match op,a with
 |.not,.bool b=>some (.bool (!b))
 |.neg,.int k n=>some (.int k (k.wrap (0-n)))
 |_,_=>none
def BD(env:List (Nat×a'))(ca:List (Nat×Path×D))(t:Nat):Option Bool:=
 match look ca t with
 |some (_,.v (.bool b))=>some b
 |some _=>none
 |none=>match look env t with
  |some ⟨.v (.bool b),_⟩=>some b
  |_=>none
def under(g:dz):Path→Prop→Prop
 |[],q=>q
 |(t,w)::p,q=>match BD g.env g.ca t with
  |some b=>b=w→under g p q
  |none=>under g p q
structure lH where
 e:Option a'
 hP:List Nat:=[]
 hs:List (Nat×List a'):=[]
 nx:Nat:=0
 rs:List fB
 a7:List Prop:=[]
def pP(g:dz):Operand→Option TypeId
 |.tmp t=>(look g.env t).bind (·.own)
 |_=>none
def adS(t:Nat)(o:Oper):Bool:=
 match o.op with
 |.assign (.tmp u)=>Nat.beq u t
 |.store _ _ (.tmp u)=>Nat.beq u t
 |.call {callee:=.builtin .append,args,..}=>match args.toList with
  |.tmp u::_=>Nat.beq u t
  |_=>false
 |_=>false
def adT(ops:List Oper)(dst:Option Nat):Bool:=
 match dst with
 |some t=>ops.any (adS t)
 |none=>false
def refs:D→List Nat
 |.ptr r _=>[r]
 |.cA r _ _=>[r]
 |.fn _ fh=>fh.flatMap fun |.ptr r _=>[r] |_=>[]
 |.agg cs=>cs.flatMap fun |.ptr r _=>[r] |.cA r _ _=>[r] |.fn _ fh=>(fh.flatMap fun |.ptr r _=>[r] |_=>[]) |_=>[]
 |_=>[]
def idx(l:List Nat)(r:Nat):Option Nat:=
 match l with
 |[]=>none
 |x::l=>bif Nat.beq x r then some 0 else(idx l r).map (· + 1)
def dedup:List Nat→List Nat
 |[]=>[]
 |x::l=>bif (dedup l).any (Nat.beq x)then dedup l else x::dedup l
mutual
def eD(f:Nat→Option Nat):D→Option D
 |.v x=>some (.v x)
 |.ptr r off=>(f r).map (.ptr · off)
 |.cA r off u=>(f r).map (.cA · off u)
 |.e' x=>some (.e' x)
 |.full k n get=>some (.full k n get)
 |.fn g fh=>(lI f fh).map (.fn g)
 |.agg cs=>(lI f cs).map .agg
 |.bW cs=>(lI f cs).map .bW
def lI(f:Nat→Option Nat):List D→Option (List D)
 |[]=>some []
 |d::l=>match eD f d,lI f l with
  |some dX,some cQ=>some (dX::cQ)
  |_,_=>none
end
def GC(f:Nat→Option Nat)(e:a'):Option a':=(eD f e.d).map λd=>{d,own:=e.own}
def ng(f:Nat→Option Nat):List a'→Option (List a')
 |[]=>some []
 |e::l=>match GC f e,ng f l with
  |some bp,some cQ=>some (bp::cQ)
  |_,_=>none
def kr(f:Nat→Option Nat):List (List a')→Option (List (List a'))
 |[]=>some []
 |b::l=>match ng f b,kr f l with
  |some bR,some cQ=>some (bR::cQ)
  |_,_=>none
def boxes(H:List (Nat×List a')):List Nat→Option (List (List a'))
 |[]=>some []
 |r::l=>match look H r,boxes H l with
  |some b,some bs=>some (b::bs)
  |_,_=>none
def cZ{α:Type}:Nat→List α→List (Nat×α)
 |_,[]=>[]
 |n,x::l=>(n,x)::cZ (n+1) l
def lJ:List Nat→List (List a')→List (Nat×List a')
 |r::l,b::bs=>(r,b)::lJ l bs
 |_,_=>[]
def mapM'{α β:Type}(f:α→Option β):List α→Option (List β)
 |[]=>some []
 |x::l=>match f x,mapM' f l with
  |some y,some ys=>some (y::ys)
  |_,_=>none
structure gL where
 call:FuncId→List D→List (Nat×TypeId)→List (List a')→Out→List (List a')→Prop
 eq:TypeId→Bool
inductive n7 where
 |go (e:lH)
 |aK (x:V) (hs:List (Nat×List a')) (a7:List Prop)
def oZ(H:List (Nat×List a')):Nat→List Nat→List Nat
 | 0,l=>l
 |n+1,l=>oZ H n (dedup (l++l.flatMap λr=>((look H r).getD []).flatMap λe=>refs e.d))
def nh:List Nat→Bool
 |[]=>true
 |x::l=>!l.any (Nat.beq x)&&nh l
def handed(tt:dT)(g:dz)(xs:List Operand)(ts:List TypeId):List Nat→Option (List (Nat×Option Nat×TypeId))
 |[]=>some []
 |i::os=>match xs[i]?,handed tt g xs ts os with
  |some (.tmp t),some l=>match look g.env t with
   |some ⟨_,some e⟩=>bif (look g.ca t).isNone&&l.all (λx=>!(match x.2.1 with |some u=>Nat.beq u t |none=>false) && !Nat.beq x.1 i)then some ((i,some t,e)::l)else none
   |_=>none
  |some (.const (.slice none 0 0)),some l=>match(ts[i]?).bind (look tt) with
   |some {k:=.bS e,..}=>bif l.all (λx=>!Nat.beq x.1 i)then some ((i,none,e)::l)else none
   |_=>none
  |_,_=>none
def ye(co:gL)(tt:dT)(g:dz)(p:Path)(xs:List Operand)(ts:List TypeId)(f:FuncId)(args:List D):Option n7:=
 let ρ:=oZ g.H 2 (dedup (args.flatMap refs))
 match g.rs with
 |.call out cS os::rs=>
  match lI (idx ρ) args,(boxes g.H ρ).bind (kr (idx ρ)),handed tt g xs ts os with
  |some jU,some H1,some hd=>bif !nh ρ || !(p.isEmpty||os.isEmpty)then none else
   let et:=hd.map λx=>(x.1,x.2.2)
   let hP:=hd.filterMap λx=>x.2.1
   match out,cS with
   |.ret d own,none=>(eD (λj=>ρ[j]?) d).map λdX=>.go {e:=some {d:=dX,own},hP,rs,a7:=[co.call f jU et H1 out H1]}
   |.ret d own,some cS=>match eD (λj=>ρ[j]?) d,kr (λj=>ρ[j]?) cS with
    |some dX,some ja=>bif Nat.beq cS.length ρ.length then some (.go {e:=some {d:=dX,own},hP,hs:=lJ ρ ja,rs,a7:=[co.call f jU et H1 out cS]})else none
    |_,_=>none
   |.aK x,none=>some (.aK x [] [co.call f jU et H1 out H1])
   |.aK x,some cS=>match kr (λj=>ρ[j]?) cS with
    |some ja=>bif Nat.beq cS.length ρ.length then some (.aK x (lJ ρ ja) [co.call f jU et H1 out cS])else none
    |none=>none
  |_,_,_=>none
 |_=>none
def GD:V→Option TypeId→Option TypeId
 |.bS _ _ _,t=>t
 |_,_=>none
def Vv(tt:dT):Nat→List (Nat×TypeId×Nat)→Nat→Option TypeId
 | 0,_,_=>none
 |d+1,cD,j=>match cD.find? λf=>Nat.ble f.1 j&&Nat.blt j (f.1+f.2.2) with
  |some f=>match look tt f.2.1 with
   |some {k:=.bS e,..}=>some e
   |some {k:=.ch gs,..}=>Vv tt d gs (j-f.1)
   |_=>none
  |none=>none
def M9(tt:dT):mq→Nat→Option TypeId
 |.ch cD,j=>Vv tt 5 cD j
 |.bS e,0=>some e
 |_,_=>none
def Vw(tt:dT)(jT:List (Nat×TypeId))(k:mq)(i:Nat):Option TypeId:=
 match M9 tt k i with
 |some e=>some e
 |none=>(jT.find? λy=>Nat.beq (y.1+1) i).bind λy=>match look tt y.2 with |some {k,..}=>M9 tt k 1 |none=>none
def BE(jT:List (Nat×TypeId))(id i:Nat)(x:V):D:=
 match x with
 |.eC=>match jT.find? λy=>Nat.beq y.1 i with
  |some y=>.cA id i y.2
  |none=>.v x
 |_=>.v x
def GE(tt:dT)(t:TypeId)(id:Nat):Option (List a'):=
 match look tt t with
 |some {k:=.bS e,zero,..}=>some (zero.map λx=>{d:=.v x,own:=GD x (some e)})
 |some {k:=.ch cD,zero,jT,..}=>some ((cZ 0 zero).map fun(i,x)=>
  {d:=BE jT id i x,own:=GD x (Vw tt jT (.ch cD) i)})
 |some {zero,..}=>some (zero.map λx=>{d:=.v x})
 |none=>none
def V.isAgg:V→Bool
 |.agg _=>true
 |_=>false
def M_:V→V
 |.bS k 0 g=>.oW k g
 |x=>x
def qM(ty:Nat→Option TypeId):Nat→List a'→List a'
 |_,[]=>[]
 |i,e::l=>(match e.d with
  |.v (.oW k g)=>{d:=.v (.bS k 0 g),own:=ty i}
  |_=>e)::qM ty (i+1) l
def elems(isAgg:Bool)(size:Nat):Nat→List (Nat×D)→Option (List V)
 |_,[]=>some []
 |i,(j,.v x)::bI=>bif Nat.beq i j&&Nat.beq x.cells.length size&&(x.isAgg == isAgg) then(elems isAgg size (i+1) bI).map (x :: ·)else none
 |_,_=>none
def rW(tt:dT)(t:TypeId)(i:Nat):TypeId:=
 match look tt t with
 |some {k:=.ch cD,..}=>match cD[i]? with
  |some f=>f.2.1
  |none=>0
 |some {k:=.arr _ e,..}=>e
 |some {k:=.bS e,..}=>e
 |_=>0
def yf(tt:dT)(aU:eS)(id i:Nat)(d:D):a':=
 match d with
 |.v .eC=>{d:=BE aU.jT id i .eC}
 |.v (.oW k g)=>match Vw tt aU.jT aU.k i with
  |some T=>{d:=.v (.bS k 0 g),own:=some T}
  |none=>{d}
 |d=>{d}
def qN(tt:dT)(aU:eS)(id:Nat):Nat→List D→List a'
 |_,[]=>[]
 |i,d::l=>yf tt aU id i d::qN tt aU id (i+1) l
def n8(g:dz)(o:Oper):Option (Nat×Nat):=
 match o.dst.bind (look g.ids) with
 |some id=>bif (look g.H id).isNone&&Nat.blt id g.aZ then some (id,0)else none
 |none=>some (g.aZ,1)
def step1(co:gL)(tt:dT)(ops:List Oper)(g:dz)(p:Path)(o:Oper):Option n7:=
 let r:=rd g.env g.ca p tt o.type
 let val (d:Option D):Option n7:=d.map λd=>.go {e:=some {d},rs:=g.rs}
 let BF (x:Option (V×List Prop)):Option n7:=x.map fun(x,a7)=>.go {e:=some {d:=.v x},rs:=g.rs,a7}
 let GF (raw:V) (mk:V→D) (a7:List Prop):Option n7:=match g.rs with
  |.val x::rs=>some (.go {e:=some {d:=mk x},rs,a7:=hC raw x::a7})
  |.raw::rs=>some (.go {e:=some {d:=mk raw},rs,a7:=a7})
  |_=>none
 match o.op with
 |.move x=>match r x with
  |some d=>match pP g x,x with
   |some e,.tmp t=>match g.rs with
    |.own::rs=>bif p.isEmpty then some (.go {e:=some {d,own:=some e},hP:=[t],rs})else none
    |_=>bif p.isEmpty&&adT ops o.dst then some (.go {e:=some {d,own:=some e},hP:=[t],rs:=g.rs})else some (.go {e:=some {d},rs:=g.rs})
   |_,_=>some (.go {e:=some {d},rs:=g.rs})
  |none=>none
 |.assign x=>match r x with
  |some d=>match pP g x,x with
   |some e,.tmp t=>bif p.isEmpty then some (.go {e:=some {d,own:=some e},hP:=[t],rs:=g.rs})else some (.go {e:=some {d},rs:=g.rs})
   |_,.const (.slice none 0 0)=>match look tt o.type with
    |some {k:=.bS e,..}=>bif p.isEmpty then some (.go {e:=some {d,own:=some e},rs:=g.rs})else some (.go {e:=some {d},rs:=g.rs})
    |_=>none
   |_,_=>some (.go {e:=some {d},rs:=g.rs})
  |none=>none
 |.pick (.tmp c) a b=>match r (.tmp c),rd g.env g.ca ((c,true)::p) tt o.type a,rd g.env g.ca ((c,false)::p) tt o.type b with
  |some (.v (.bool tx)),some (.v (.bool BG)),some (.v (.bool qO))=>val (some (.v (.bool (bif tx then BG else qO))))
  |_,_,_=>none
 |.alloc t=>match n8 g o with
  |some (id,nx)=>match GE tt t id with
   |some z=>some (.go {e:=some {d:=.ptr id 0},hs:=[(id,z)],nx,rs:=g.rs})
   |none=>none
  |none=>none
 |.box t x=>match r x,n8 g o,look tt t with
  |some d,some (id,nx),some aU=>bif rR d || !tw (cellsD d) || !Nat.beq (cellsD d).length aU.size then none else some (.go {e:=some {d:=.ptr id 0},hs:=[(id,qN tt aU id 0 (cellsD d))],nx,rs:=g.rs})
  |_,_,_=>none
 |.build t parts=>match look tt t,mapM' (fun(i,x)=>(rd g.env g.ca p tt (rW tt t i) x).map λd=>(i,d)) parts.toList with
  |some {k:=.ch cD,zero,..},some bI=>bif cD.all (λf=>Nat.ble 1 f.2.2)then match g.rs with
   |.own::rs=>((rS (λi=>(cD[i]?).map λf=>(f.1,f.2.2)) (zero.map λx=>.v (M_ x)) bI).map qK).map λd=>.go {e:=some {d},rs}
   |_=>val ((rS (λi=>(cD[i]?).map λf=>(f.1,f.2.2)) (zero.map .v) bI).map qK)
   else none
  |some {k:=.arr _ e,zero,..},some bI=>match look tt e with
   |some {size,..}=>val ((rS (λi=>some (i*size,size)) (zero.map .v) bI).map qK)
   |none=>none
  |_,_=>none
 |.buildSlice t len parts=>match look tt t,mapM' (fun(i,x)=>(rd g.env g.ca p tt (rW tt t i) x).map λd=>(i,d)) parts.toList with
  |some {k:=.bS e,..},some bI=>match look tt e with
   |some {k,size,..}=>
    match elems k.isAgg size 0 bI,g.rs with
    |some xs,.val x::rs=>bif Nat.ble (len*size) 16777216&&Nat.ble 1 size&&Nat.beq xs.length len then some (.go {e:=some {d:=.v x,own:=some e},rs,a7:=[hC (.bS size len λi=>xs.getD i .eC) x]})else none
    |_,_=>none
   |none=>none
  |_,_=>none
 |.load t a=>match r a,look tt t with
  |some (
   .ptr q off),some aU=>match look g.H q with
   |some cs=>bif aU.k.isAgg then
    bif Nat.ble (off+aU.size) cs.length then val (some (qK (((cs.drop off).take aU.size).map (·.d))))else none
    else match cs[off]? with
     |some e=>match e.own,g.rs with
      |some _,.own::rs=>bif p.isEmpty then some (.go {e:=some e,hs:=[(q,setAt cs off [{d:=e.d}])],rs})else none
      |_,_=>val (some e.d)
     |none=>none
   |none=>none
  |some (.e' x),some aU=>bif x.isAgg == aU.k.isAgg&&Nat.beq x.cells.length aU.size then val (some (.v x))else none
  |_,_=>none
 |.store t a x=>match r a,rd g.env g.ca p tt t x,look tt t with
  |some (
   .ptr q off),some d,some aU=>match look g.H q with
   |some cs=>bif Nat.beq (cellsD d).length aU.size&&Nat.ble (off+aU.size) cs.length&&p.isEmpty && !rR d&&tw (cellsD d) then
    match x,pP g x,d with
    |.tmp u,some s,.v (.bS ..)=>some (.go {e:=none,hP:=[u],hs:=[(q,setAt cs off [{d,own:=some s}])],rs:=g.rs})
    |.const (.slice none 0 0),_,_=>match aU.k with
     |.bS s=>some (.go {e:=none,hs:=[(q,setAt cs off [{d,own:=some s}])],rs:=g.rs})
     |_=>none
    |_,_,_=>some (.go {e:=none,hs:=[(q,qM (λi=>M9 tt aU.k (i-off)) 0 (setAt cs off ((cellsD d).map λd=>{d})))],rs:=g.rs})
    else none
   |none=>none
  |_,_,_=>none
 |.nilCheck x=>match r x with
  |some (.ptr q off)=>val (some (.ptr q off))
  |some (.e' x)=>val (some (.e' x))
  |_=>none
 |.binOp op t x y _=>match r x,r y with
  |some (.v (.agg xs)),some (.v (.agg ys))=>match look tt t with
   |some {k:=.ch cD,..}=>bif co.eq t then match op,jo (mQ tt 4 cD) xs ys with
    |.eql,some r=>val (some (.v (.bool r)))
    |.neq,some r=>val (some (.v (.bool (!r))))
    |_,_=>none
    else none
   |_=>none
  |some a,some b=>BF (Vt ((look tt t).map (·.k)) (isConst y) op a b)
  |_,_=>none
 |.unOp op _ x=>match r x with
  |some (.v a)=>val ((Vu op a).map .v)
  |_=>none
 |.convert s t x=>match look tt s,look tt t,r x with
  |some {k:=.int _,..},some {k:=.int k,..},some (.v (.int _ n))=>val (some (.v (.int k (k.wrap n))))
  |some {k:=.str,..},some {k:=.str,..},some (.v (.str s))=>val (some (.v (.str s)))
  |some {k:=.bS e,..},some {k:=.str,..},some (.v (.bS 1 n get))=>match look tt e,g.rs with
   |some {k:=.int .u8,..},.val (.str l)::rs=>some (.go {e:=some {d:=.v (.str l)},rs,a7:=[l.length=n∧∀i,i<n→get i = .int .u8 ((l.getD i 0).toNat:Int)]})
   |_,_=>none
  |_,_,_=>none
 |.makeInterface t x=>match r x,look tt t with
  |some (.v x),some {k,..}=>match k with
   |.oX=>none
   |_=>val (some (.v (.iface t x)))
  |_,_=>none
 |.makeFunc (.func f) first fh=>bif first.isEmpty then(mapM' r fh.toList).map λds=>.go {e:=some {d:=.fn f ds},rs:=g.rs}else none
 |.slice t x lo hi kt=>match kt,look tt t with
  |none,some {k:=.str,..}=>match r x,lo.map r,hi.map r with
   |some (.v (.str s)),none,none=>val (some (.v (.str s)))
   |some (.v (.str s)),some (some (.v (.int _ a))),none=>BF (some (.str (s.drop a.toNat),[hv a s.length=true]))
   |some (.v (.str s)),none,some (some (.v (.int _ b)))=>BF (some (.str (s.take b.toNat),[hv b s.length=true]))
   |some (.v (.str s)),some (some (.v (.int _ a))),some (some (.v (.int _ b)))=>BF (some (.str ((s.take b.toNat).drop a.toNat),[lG a b s.length=true]))
   |_,_,_=>none
  |none,some {k:=.bS e,..}=>match look tt e,r x,lo.map r,hi.map r with
   |some {size,..},some (.v (.bS k n get)),some (some (.v (.int _ a))),none=>bif Nat.beq k size then GF (.bS k (n-a.toNat) λi=>get (a.toNat+i)) .v [hv a n=true]else none
   |some {size,..},some (.v (.bS k n get)),none,some (some (.v (.int _ b)))=>bif Nat.beq k size then GF (.bS k b.toNat get) .v [hv b n=true]else none
   |some {size,..},some (.v (.bS k n get)),some (some (.v (.int _ a))),some (some (.v (.int _ b)))=>bif Nat.beq k size then GF (.bS k (b.toNat-a.toNat) λi=>get (a.toNat+i)) .v [lG a b n=true]else none
   |some {size,..},some (.v (.bS k n get)),none,none=>bif Nat.beq k size then val (some (.v (.bS k n get)))else none
   |_,_,_,_=>none
  |some _,some {k:=.bS e,..}=>match look tt e,r x,lo,hi.map r,kt.map r with
   |some {size,..},some (.v (.bS k n get)),none,some (some (.v (.int _ b))),some (some (.v (.int _ c)))=>bif Nat.beq k size then some (.go {e:=some {d:=.full k b.toNat get},rs:=g.rs,a7:=[b=c,hv b n=true]})else none
   |_,_,_,_,_=>none
  |_,_=>none
 |.fieldAddr s x f=>match r x,look tt s with
  |some (.ptr q off),some {k:=.ch cD,..}=>match cD[f]? with
   |some (dU,_,fG)=>bif Nat.ble 1 fG then val (some (.ptr q (off+dU)))else none
   |none=>none
  |some (
   .e' (.agg cs)),some {k:=.ch cD,..}=>match cD[f]? with
   |some (
    dU,h',fG)=>match look tt h' with
    |some aU=>bif Nat.ble 1 fG&&Nat.ble (dU+fG) cs.length then
     bif aU.k.isAgg then val (some (.e' (.agg ((cs.drop dU).take fG))))else bif Nat.beq fG 1 then match cs[dU]? with
      |some c=>bif c.isAgg then none else val (some (.e' c))
      |none=>none
     else none
     else none
    |none=>none
   |none=>none
  |_,_=>none
 |.field s x f=>match r x,look tt s with
  |some (
   .v (.agg cs)),some {k:=.ch cD,..}=>match cD[f]? with
   |some (dU,h',fG)=>match look tt h' with
    |some aU=>bif Nat.ble (dU+fG) cs.length then bif aU.k.isAgg then val (some (.v (.agg ((cs.drop dU).take fG))))else match cs[dU]? with
     |some c=>val (some (.v c))
     |none=>none
     else none
    |none=>none
   |none=>none
  |some (.agg cs),some {k:=.ch cD,..}=>match cD[f]? with
   |some (dU,h',fG)=>match look tt h',cs[dU]? with
    |some aU,some c=>bif aU.k.isAgg || !Nat.beq fG 1||rR c then none else val (some c)
    |_,_=>none
   |none=>none
  |_,_=>none
 |.indexAddr t x i=>match r x,r i,look tt t with
  |some (.v (.bS k n get)),some (.v (.int _ j)),some {k:=.bS e,..}=>match look tt e with
   |some {size,..}=>bif Nat.beq k size&&Nat.ble 1 size then GF (get j.toNat) .e' [aM j n=true]else none
   |none=>none
  |_,_,_=>none
 |.index t x i=>match r x,r i,look tt t with
  |some (.v (.str s)),some (.v (.int _ j)),some {k:=.str,..}=>BF (some (.int .u8 (s.getD j.toNat 0).toNat,[aM j s.length=true]))
  |_,_,_=>none
 |.typeAssert x _ t ok=>match r x,look tt t with
  |some (.v (.iface bq y)),some {k,..}=>match k with
   |.oX=>none
   |_=>bif Nat.beq bq t then val (some (bif ok then .bW [.v y,.v (.bool true)]else .v y))else none
  |_,_=>none
 |.extract x i=>match r x with
  |some (.bW ds)=>val ds[i]?
  |_=>none
 |.call c=>match c.callee with
  |.value x=>match r x,l5 (rd g.env g.ca p tt) c.args.toList c.argTypes.toList with
   |some (.fn f fh),some ds=>ye co tt g p c.args.toList c.argTypes.toList f (ds++fh)
   |_,_=>none
  |.builtin .len=>match mapM' (λy=>r y) c.args.toList,(c.argTypes.toList[0]?).bind (look tt) with
   |some [.v (.str s)],some {k:=.str,..}=>val (some (.v (.int .i64 s.length)))
   |some [.v (.bS _ n _)],some {k:=.bS _,..}=>val (some (.v (.int .i64 n)))
   |_,_=>none
  |.builtin .append=>match c.args.toList,(c.argTypes.toList[0]?).bind (look tt),(c.argTypes.toList[1]?).bind (look tt) with
   |[.tmp t,x],some {k:=.bS e,..},some t2=>match look tt e,r (.tmp t),r x,look g.env t,g.rs with
    |some cr,some (.v (.bS k n get)),some d2,some ⟨_,some bp⟩,.val y::rs=>
     bif Nat.beq e bp&&Nat.beq k cr.size&&Nat.ble 1 cr.size&&Nat.ble 1 cr.bytes&&p.isEmpty then
      match d2,t2.k with
      |.v (.bS am m mr),.bS _=>bif Nat.beq am k then
       some (.go {e:=some {d:=.v y,own:=some e},hP:=[t],rs,a7:=[hC (.bS k (n+m) λi=>bif Nat.blt i n then get i else mr (i-n)) y,room (n+m) cr.bytes=true]})
       else none
      |.v (.str s),.str=>bif Nat.beq k 1 then
       some (.go {e:=some {d:=.v y,own:=some e},hP:=[t],rs,a7:=[hC (.bS k (n+s.length) λi=>bif Nat.blt i n then get i else .int .u8 (s.getD (i-n) 0).toNat) y,room (n+s.length) cr.bytes=true]})
       else none
      |_,_=>none
     else none
    |some cr,some (.full k n get),some d2,_,.val y::rs=>
     bif Nat.beq k cr.size&&Nat.ble 1 cr.size&&Nat.ble 1 cr.bytes&&p.isEmpty then
      match d2,t2.k with
      |.v (.bS am m mr),.bS _=>bif Nat.beq am k&&Nat.ble 1 m then
       some (.go {e:=some {d:=.v y,own:=some e},hP:=[t],rs,a7:=[hC (.bS k (n+m) λi=>bif Nat.blt i n then get i else mr (i-n)) y,room (n+m) cr.bytes=true]})
       else none
      |_,_=>none
     else none
    |_,_,_,_,_=>none
   |_,_,_=>none
  |.builtin .min=>match mapM' (λy=>r y) c.args.toList with
   |some [.v (.int k a),.v (.int am b)]=>bif decide (k=am)then val (some (.v (.int k (bif decide (b<a)then b else a))))else none
   |_=>none
  |.builtin .max=>match mapM' (λy=>r y) c.args.toList with
   |some [.v (.int k a),.v (.int am b)]=>bif decide (k=am)then val (some (.v (.int k (bif decide (a<b)then b else a))))else none
   |_=>none
  |_=>none
 |.panic x=>match r x with
  |some (.v (.iface t y))=>some (.aK (.iface t y) [] [])
  |_=>none
 |_=>none
def hD:List Nat→List (Nat×a')→List (Nat×a')
 |[],env=>env
 |t::l,env=>match look env t with
  |some e=>(t,{e with own:=none})::hD l env
  |none=>hD l env
inductive BH where
 |go (g:dz)
 |aK (x:V) (st:aO) (a7:List Prop)
def pQ:List (Nat×a')→List (Nat×a')
 |[]=>[]
 |(t,e)::l=>(t,{d:=e.d})::pQ l
def pR(ops:List Oper)(g:dz)(o:Oper):Option Path:=
 match o.guard with
 |none=>some []
 |some (j,w)=>match(ops[j]?).bind (·.dst) with
  |some t=>match look g.ca t with
   |some (q,.v (.bool _))=>some (q++[(t,w)])
   |some _=>none
   |none=>match look g.env t with
    |some ⟨.v (.bool _),_⟩=>some [(t,w)]
    |_=>none
  |none=>none
def yg(ca:List (Nat×Path×D))(t:Nat):Bool:=ca.all λx=>Nat.beq x.1 t||x.2.1.all λy=>!Nat.beq y.1 t
def n9(
 co:gL) (tt:dT) (N:Nat) (ops:List Oper) (g:dz) (o:Oper):Option BH:=
 match pR ops g o with
 |none=>none
 |some p=>
  match step1 co tt ops g p o with
  |none=>none
  |some (.aK x hs a7)=>bif p.isEmpty then some (.aK x {env:=pQ g.env,H:=hs++g.H,aZ:=g.aZ} (a7++g.a7))else none
  |some (
   .go f)=>
   let e6:dz:={g with rs:=f.rs,a7:=f.a7.map (under g p)++g.a7}
   match o.dst with
   |none=>bif p.isEmpty then some (.go {e6 with env:=hD f.hP g.env,H:=f.hs++g.H,aZ:=g.aZ+f.nx})else none
   |some t=>bif Nat.blt t N&&yg g.ca t then
    match p with
    |[]=>some (.go {e6 with
     env:=match f.e with|some e=>(t,e)::hD f.hP g.env|none=>del (hD f.hP g.env) t
     ca:=del g.ca t,H:=f.hs++g.H,aZ:=g.aZ+f.nx})
    |_::_=>match f.e,f.hs,f.hP with
     |some e,[],[]=>bif p.all (λy=>!Nat.beq y.1 t)&&Nat.beq f.nx 0 then some (.go {e6 with env:=del g.env t,ca:=(t,p,e.d)::del g.ca t})else none
     |_,_,_=>none
    else none
def tz(co:gL)(tt:dT)(N:Nat)(ops:List Oper):List Oper→dz→Option BH
 |[],g=>some (.go g)
 |o::l,g=>match n9 co tt N ops g o with
  |some (.go e6)=>tz co tt N ops l e6
  |x=>x
mutual
def below(n:Nat):D→Bool
 |.v _ |.e' _ |.full _ _ _=>true
 |.ptr r _=>Nat.blt r n
 |.cA r _ _=>Nat.blt r n
 |.fn _ fh=>vv n fh
 |.agg cs |.bW cs=>vv n cs
def vv(n:Nat):List D→Bool
 |[]=>true
 |d::l=>below n d&&vv n l
end
def tA(n:Nat):List a'→Bool
 |[]=>true
 |e::l=>below n e.d&&tA n l
def BI(env:List (Nat×a')):List Nat→Option (List (Nat×a'))
 |[]=>some []
 |t::l=>match look env t,BI env l with
  |some e,some cQ=>some ((t,e)::cQ)
  |_,_=>none
def BJ(H:List (Nat×List a')):List Nat→Option (List (Nat×List a'))
 |[]=>some []
 |r::l=>match look H r,BJ H l with
  |some e,some cQ=>some ((r,e)::cQ)
  |_,_=>none
def vw(live:List Nat)(boxes:List Nat)(n:Nat)(env:List (Nat×a'))(H:List (Nat×List a'))(aZ:Nat):Option aO:=
 match BI env live,BJ H boxes with
 |some n_,some b0=>bif Nat.ble n aZ&&n_.all (λx=>below n x.2.d)&&b0.all (λx=>Nat.blt x.1 n&&tA n x.2)then some {env:=n_,H:=b0,aZ:=n}else none
 |_,_=>none
inductive Fin where
 |go (st:aO) (a7:List Prop)
 |aK (x:V) (st:aO) (a7:List Prop)
def di.mono{M M':Mem}(c8:M.le M'){v:Value}{x:V}(h:di M v x):di M' v x:=by
 induction h with
 |int k n=>exact .int k n
 |bool b=>exact .bool b
 |str l=>exact .str l
 |agg vs cs hn Z _ aR=>exact .agg vs cs hn Z aR
 |mP k get=>exact .mP k get
 |qL a k get=>exact .qL a k get
 |bS b off k n cap get val hc hk hm Z _ aR=>exact .bS b off k n cap get val hc hk (λi j hi hj=>c8 _ _ _ (hm i j hi hj)) Z aR
 |iface t v x _ aR=>exact .iface t v x aR
 |eC=>exact .eC
 |iF=>exact .iF
 |aX=>exact .aX
 |any v Z=>exact .any v Z
 |oW k get=>exact .oW k get
inductive cE(M:Mem)(β:Nat→Option Nat):Value→D→Prop where
 |v (u:Value) (x:V) (h:di M u x):cE M β u (.v x)
 |ptr (r off b:Nat) (h:β r=some b):cE M β (.pointer (some ⟨b,off,none⟩)) (.ptr r off)
 |l6 (r off:Nat) (u:TypeId):cE M β (.pointer none) (.cA r off u)
 |cA (r off b:Nat) (u:TypeId) (h:β r=some b):cE M β (.pointer (some ⟨b,off,none⟩)) (.cA r off u)
 |e' (b off:Nat) (x:V) (val:Nat→Value) (c8:∀j,j<x.cells.length→M b (off+j)=some (val j)) (Z:∀j,j<x.cells.length→(val j).oneCell'=true)
  (h:∀(j:Nat) c,x.cells[j]? = some c→di M (val j) c):cE M β (.pointer (some ⟨b,off,none⟩)) (.e' x)
 |full (base:Option Addr) (k n:Nat) (get:Nat→V) (h:di M (.slice base n n) (.bS k n get)):cE M β (.slice base n n) (.full k n get)
 |fn (f:FuncId) (vs:List Value) (cs:List D) (hn:vs.length=cs.length)
  (h:∀(i:Nat) v c,vs[i]? = some v→cs[i]? = some c→cE M β v c):cE M β (.func (.func f) #[] ⟨vs⟩) (.fn f cs)
 |agg (vs:List Value) (cs:List D) (hn:vs.length=cs.length) (Z:∀v,v∈vs→v.oneCell'=true)
  (h:∀(i:Nat) v c,vs[i]? = some v→cs[i]? = some c→cE M β v c):cE M β (.agg ⟨vs⟩) (.agg cs)
 |bW (vs:List Value) (cs:List D) (hn:vs.length=cs.length)
  (h:∀(i:Nat) v c,vs[i]? = some v→cs[i]? = some c→cE M β v c):cE M β (.tuple ⟨vs⟩) (.bW cs)
def cE.mono{M M':Mem}{β:Nat→Option Nat}(c8:M.le M'){v:Value}{d:D}(h:cE M β v d):cE M' β v d:=by
 induction h with
 |v u x h=>exact .v u x (h.mono c8)
 |ptr r off b h=>exact .ptr r off b h
 |l6 r off u=>exact .l6 r off u
 |cA r off b u h=>exact .cA r off b u h
 |e' b off x val hm Z h=>exact .e' b off x val (λj hj=>c8 _ _ _ (hm j hj)) Z (λj c hc=>(h j c hc).mono c8)
 |full b k n get h=>exact .full b k n get (h.mono c8)
 |fn f vs cs hn _ aR=>exact .fn f vs cs hn aR
 |agg vs cs hn Z _ aR=>exact .agg vs cs hn Z aR
 |bW vs cs hn _ aR=>exact .bW vs cs hn aR
def tB{n:Nat}:∀{l:List D} {i:Nat} {d:D},vv n l=true→l[i]? = some d→below n d=true
 |[],_,_,_,h=>by simp at h
 |d::l,0,_,hb,h=>by simp [vv]at hb;simp at h;exact h ▸ hb.1
 |d::l,i+1,_,hb,h=>by simp [vv]at hb;simp at h;exact tB hb.2 h
def cE.Vx{M:Mem}{β β':Nat→Option Nat}{n:Nat}(hE:∀r,r<n→β' r=β r){v:Value}{d:D}(h:cE M β v d):Ab.below n d=true→cE M β' v d:=by
 induction h with
 |v u x h=>intro _;exact .v u x h
 |ptr r off b h=>intro hb;exact .ptr r off b (by rw [hE r (by simpa [Ab.below,Nat.blt_eq]using hb)];exact h)
 |l6 r off u=>intro hb;exact .l6 r off u
 |cA r off b u h=>intro hb;exact .cA r off b u (by rw [hE r (by simpa [Ab.below,Nat.blt_eq]using hb)];exact h)
 |e' b off x val hm Z h=>intro _;exact .e' b off x val hm Z h
 |full b k n get h=>intro _;exact .full b k n get h
 |fn f vs cs hn _ aR=>intro hb;exact .fn f vs cs hn λi v c ax hc=>aR i v c ax hc (tB (by simpa [Ab.below]using hb) hc)
 |agg vs cs hn Z _ aR=>intro hb;exact .agg vs cs hn Z λi v c ax hc=>aR i v c ax hc (tB (by simpa [Ab.below]using hb) hc)
 |bW vs cs hn _ aR=>intro hb;exact .bW vs cs hn λi v c ax hc=>aR i v c ax hc (tB (by simpa [Ab.below]using hb) hc)
def yh{f:Nat→Option Nat}:∀{l cQ:List D},lI f l=some cQ→l.length=cQ.length∧∀(i:Nat) d,l[i]? = some d→∃dX,cQ[i]? = some dX∧eD f d=some dX
 |[],cQ,h=>by simp [lI]at h;subst h;simp
 |d::l,cQ,h=>by
  simp only [lI]at h;split at h<;>simp at h
  rename_i dX jb hd ae;subst h;obtain⟨Z,ab⟩:=yh ae;refine⟨by simp [Z],λi x hx=>?_⟩
  cases i with
  |zero=>simp at hx;subst hx;exact⟨dX,by simp,hd⟩
  |succ i=>simp at hx;simpa using ab i x hx
def cE.eD{M:Mem}{β β':Nat→Option Nat}{f:Nat→Option Nat}(hE:∀r s b,f r=some s→β r=some b→β' s=some b){v:Value}{d:D}(h:cE M β v d):
 ∀{dX},eD f d=some dX→cE M β' v dX:=by
 induction h with
 |v u x h=>intro dX hd;simp [Ab.eD]at hd;subst hd;exact .v u x h
 |ptr r off b h=>
  intro dX hd;simp only [Ab.eD,Option.map_eq_some_iff]at hd;obtain⟨s,hs,rfl⟩:=hd;exact .ptr s off b (hE r s b hs h)
 |l6 r off u=>
  intro dX hd;simp only [Ab.eD,Option.map_eq_some_iff]at hd;obtain⟨s,hs,rfl⟩:=hd;exact .l6 s off u
 |cA r off b u h=>
  intro dX hd;simp only [Ab.eD,Option.map_eq_some_iff]at hd;obtain⟨s,hs,rfl⟩:=hd;exact .cA s off b u (hE r s b hs h)
 |e' b off x val hm Z h=>intro dX hd;simp [Ab.eD]at hd;subst hd;exact .e' b off x val hm Z h
 |full b k n get h=>intro dX hd;simp [Ab.eD]at hd;subst hd;exact .full b k n get h
 |fn f vs cs hn _ aR=>
  intro dX hd;simp only [Ab.eD,Option.map_eq_some_iff]at hd;obtain⟨cs',ev,rfl⟩:=hd;obtain⟨Z,ab⟩:=yh ev;refine .fn f vs cs' (by omega) λi v c ax hc=>?_
  have hi:i<cs.length:=by have:=(List.getElem?_eq_some_iff.1 hc).1;omega
  obtain⟨d1,gM,ai⟩:=ab i cs[i] (List.getElem?_eq_getElem hi);rw [hc]at gM;cases gM;exact aR i v _ ax (List.getElem?_eq_getElem hi) ai
 |agg vs cs hn Z _ aR=>
  intro dX hd;simp only [Ab.eD,Option.map_eq_some_iff]at hd;obtain⟨cs',ev,rfl⟩:=hd;obtain⟨h0,ab⟩:=yh ev;refine .agg vs cs' (by omega) Z λi v c ax hc=>?_
  have hi:i<cs.length:=by have:=(List.getElem?_eq_some_iff.1 hc).1;omega
  obtain⟨d1,gM,ai⟩:=ab i cs[i] (List.getElem?_eq_getElem hi);rw [hc]at gM;cases gM;exact aR i v _ ax (List.getElem?_eq_getElem hi) ai
 |bW vs cs hn _ aR=>
  intro dX hd;simp only [Ab.eD,Option.map_eq_some_iff]at hd;obtain⟨cs',ev,rfl⟩:=hd;obtain⟨Z,ab⟩:=yh ev;refine .bW vs cs' (by omega) λi v c ax hc=>?_
  have hi:i<cs.length:=by have:=(List.getElem?_eq_some_iff.1 hc).1;omega
  obtain⟨d1,gM,ai⟩:=ab i cs[i] (List.getElem?_eq_getElem hi);rw [hc]at gM;cases gM;exact aR i v _ ax (List.getElem?_eq_getElem hi) ai
def cE.Na{M:Mem}{β β':Nat→Option Nat}(hE:∀r b,β r=some b→β' r=some b){v:Value}{d:D}(h:cE M β v d):cE M β' v d:=by
 induction h with
 |v u x h=>exact .v u x h
 |ptr r off b h=>exact .ptr r off b (hE r b h)
 |l6 r off u=>exact .l6 r off u
 |cA r off b u h=>exact .cA r off b u (hE r b h)
 |e' b off x val hm Z h=>exact .e' b off x val hm Z h
 |full b k n get h=>exact .full b k n get h
 |fn f vs cs hn _ aR=>exact .fn f vs cs hn aR
 |agg vs cs hn Z _ aR=>exact .agg vs cs hn Z aR
 |bW vs cs hn _ aR=>exact .bW vs cs hn aR
def cE.adU{M:Mem}{β β':Nat→Option Nat}{n:Nat}(hE:∀r,r<n→∀b,β r=some b→β' r=some b){v:Value}{d:D}(h:cE M β v d):Ab.below n d=true→cE M β' v d:=by
 induction h with
 |v u x h=>intro _;exact .v u x h
 |ptr r off b h=>intro hb;exact .ptr r off b (hE r (by simpa [Ab.below,Nat.blt_eq]using hb) b h)
 |l6 r off u=>intro hb;exact .l6 r off u
 |cA r off b u h=>intro hb;exact .cA r off b u (hE r (by simpa [Ab.below,Nat.blt_eq]using hb) b h)
 |e' b off x val hm Z h=>intro _;exact .e' b off x val hm Z h
 |full b k n get h=>intro _;exact .full b k n get h
 |fn f vs cs hn _ aR=>intro hb;exact .fn f vs cs hn λi v c ax hc=>aR i v c ax hc (tB (by simpa [Ab.below]using hb) hc)
 |agg vs cs hn Z _ aR=>intro hb;exact .agg vs cs hn Z λi v c ax hc=>aR i v c ax hc (tB (by simpa [Ab.below]using hb) hc)
 |bW vs cs hn _ aR=>intro hb;exact .bW vs cs hn λi v c ax hc=>aR i v c ax hc (tB (by simpa [Ab.below]using hb) hc)
structure Ctx where
 BK:Mem
 F:Nat→Option Obj
 lK:Nat→Option Nat
 h_:Os×Array (Nat×ByteArray)
 ds:List Deferred:=[]
inductive Loc where
 |slot (s:Nat)
 |cell (r i:Nat)
deriving DecidableEq
def aO.at(st:aO):Loc→Option a'
 |.slot s=>look st.env s
 |.cell r i=>(look st.H r).bind (·[i]?)
def cB(tmps:Array Value)(w:World)(β:Nat→Option Nat):Loc→Value
 |.slot s=>tmps.getD s undef
 |.cell r i=>match β r with
  |some b=>(w.cell? ⟨b,i,none⟩).getD undef
  |none=>undef
def ia:Value→Option Nat
 |.slice (some a) _ _=>some a.block
 |_=>none
def pS(P:Program)(F:Nat→Option Obj)(M:Mem)(w:World)(T:TypeId)(v:Value):Prop:=
 v = .slice none 0 0∨∃b n cap vs T',v = .slice (some ⟨b,0,none⟩) n cap∧n≤cap∧w.heap[b]? = some (.cells ⟨vs⟩ T' (0,0))∧cap*P.cellsOf T≤vs.length∧
  (∀o,n*P.cellsOf T≤o→M b o=none)∧F b=none∧T'=T
def Nb (P : Program) : List Nat := ["strconv.ErrSyntax", "strconv.ErrRange"].filterMap P.globalNamed
def Nc:Array Value:=((List.range 20).map λi=>Value.int .u64 ((10 ^ i:Nat):Int)).toArray
def rX(P:Program)(F:Nat→Option Obj):Prop:=
 (∀g,g∈Nb P→∃cs t k_ fR,F g=some (.cells cs t k_)∧cs[0]? = some fR∧(fR = .nilIface∨∃cr rY,fR = .iface cr rY))∧
 ∀ g, P.globalNamed "internal/strconv.uint64pow10" = some g → ∃ t k_, F g = some (.cells Nc t k_)
def rX.mono{P:Program}{F Vy:Nat→Option Obj}(h:rX P F)(d9:∀b a7,F b=some a7→Vy b=some a7):rX P Vy:=⟨λg hg=>by
 obtain⟨cs,t,k_,fR,Z,ab,aq⟩:=h.1 g hg;exact⟨cs,t,k_,fR,d9 _ _ Z,ab,aq⟩,λg hg=>by
 obtain⟨t,k_,Z⟩:=h.2 g hg;exact⟨t,k_,d9 _ _ Z⟩⟩
def lL(P:Program)(T:TypeId)(n:Nat)(cs:List a'):Prop:=∀e,e∈cs→∀r off u,e.d = .cA r off u→liesAt P P.depth T (n / P.cellsOf T) off u 1=true
def adV(P:Program)(T:TypeId)(vs:List Value)(cs:List a'):Prop:=(∀v,v∈vs→v.oneCell'=true)∧lL P T vs.length cs
def lL.sub{P:Program}{T:TypeId}{n:Nat}{cs cs':List a'}(h:lL P T n cs)(hs:∀e,e∈cs'→∃cc,cc∈cs∧cc.d=e.d):lL P T n cs':=λe he r off u hd=>by
 obtain⟨cc,Z,ab⟩:=hs e he;exact h cc Z r off u (ab.trans hd)
structure bV(P:Program)(K:Ctx)(M:Mem)(β:Nat→Option Nat)(st:aO)(tmps:Array Value)(w:World):Prop where
 fC:∀l e,st.at l=some e→cE M β (cB tmps w β l) e.d
 own:∀l e T,st.at l=some e→e.own=some T→pS P K.F M w T (cB tmps w β l)
 uniq:∀l cQ e bp T T' b,st.at l=some e→e.own=some T→st.at cQ=some bp→bp.own=some T'→
  ia (cB tmps w β l)=some b→ia (cB tmps w β cQ)=some b→l=cQ
 unbox:∀l e T b r cs,st.at l=some e→e.own=some T→ia (cB tmps w β l)=some b→look st.H r=some cs→β r≠some b
 box:∀r cs,look st.H r=some cs→∃b vs T,β r=some b∧w.heap[b]? = some (.cells ⟨vs⟩ T (0,0))∧vs.length=cs.length∧(∀o,M b o=none)∧K.F b=none∧adV P T vs cs
 inj:∀r dL b cs cs',look st.H r=some cs→look st.H dL=some cs'→β r=some b→β dL=some b→r=dL
 lt:∀r b,β r=some b→r<st.aZ
 mem:∀b o v,M b o=some v→w.cell? ⟨b,o,none⟩=some v
 m0:K.BK.le M
 frame:∀b a7,K.F b=some a7→w.heap[b]? = some a7∧∀o,M b o=K.BK b o
 jc:∀r b,K.lK r=some b→β r=some b
 jE:rX P K.F
 h_:(w.os,w.output)=K.h_
def aO.Nd{st:aO}{r i:Nat}{cs:List a'}(h:look st.H r=some cs):st.at (.cell r i)=cs[i]? := by simp [aO.at,h]
def GG:∀{l:List D},tw l=true→∀d,d∈l→∀r off u,d ≠ .cA r off u
 |[],h,d,hd=>by cases hd
 |x::l,h,d,hd=>by
  have ab:tw l=true:=by cases x<;>first|exact h|cases h
  rcases List.mem_cons.1 hd with rfl|jF
  ·intro r off u e;subst e;cases h
  ·exact GG ab d jF
def lL.Vz{P:Program}{T:TypeId}{n r:Nat}{st b_:aO}{cs cs':List a'}(h:lL P T n cs)(Z:look st.H r=some cs)(ab:look b_.H r=some cs')
 (he:∀l bp,b_.at l=some bp→∃e,st.at l=some e∧(e.d=bp.d∨∀q off u,bp.d ≠ .cA q off u)):lL P T n cs':=λe hm q off u hd=>by
 obtain⟨i,hi,rfl⟩:=List.getElem_of_mem hm;obtain⟨cc,g1,g2⟩:=he (.cell r i) cs'[i] (by rw [aO.Nd ab];exact List.getElem?_eq_getElem hi)
 rw [aO.Nd Z]at g1;rcases g2 with g2|g2
 ·exact h cc (List.mem_of_getElem? g1) q off u (g2.trans hd)
 ·exact absurd hd (g2 q off u)
def ee{α:Type}(j:Nat)(x:α)(l:List (Nat×α))(i:Nat):look ((j,x)::l) i=if j=i then some x else look l i:=by
 by_cases h:j=i
 ·simp [look,h]
 ·have:Nat.beq j i=false:=by rw [Bool.eq_false_iff];simpa using h
  simp [look,h,this]
def qP{α:Type}(l:List (Nat×α))(t i:Nat):look (del l t) i=if t=i then none else look l i:=by
 induction l with
 |nil=>simp [del,look]
 |cons x l aR=>
  obtain⟨j,x⟩:=x;by_cases h:j=t
  ·subst h;have:Nat.beq j j=true:=by simp
   simp only [del,this,cond_true,aR,ee];by_cases ab:j=i<;>simp [ab]
  ·have cN:Nat.beq j t=false:=by rw [Bool.eq_false_iff];simpa using h
   simp only [del,cN,cond_false,ee,aR];by_cases ab:j=i
   ·subst ab;simp [Ne.symm h]
   ·simp [ab]
def cell_of_heap{w:World}{b o:Nat}{vs:List Value}{T:TypeId}{o0:Nat×Nat}(h:w.heap[b]? = some (.cells ⟨vs⟩ T o0)):w.cell? ⟨b,o,none⟩=vs[o]? := by
 simp [World.cell?,h]
def lt_of_heap{w:World}{b:Nat}{a7:Obj}(h:w.heap[b]? = some a7):b<w.heap.size:=by
 rcases Nat.lt_or_ge b w.heap.size with cN|cN
 ·exact cN
 ·simp [Array.getElem?_eq_none cN]at h
def lt_of_cell{w:World}{b o:Nat}{v:Value}(h:w.cell? ⟨b,o,none⟩=some v):b<w.heap.size:=by
 unfold World.cell? at h;split at h
 ·rename_i bJ;exact lt_of_heap bJ
 ·cases h
def rZ{w w':World}{b o:Nat}(h:w'.heap[b]? = w.heap[b]?):w'.cell? ⟨b,o,none⟩=w.cell? ⟨b,o,none⟩:=by
 simp [World.cell?,h]
section
variable {P:Program} {K:Ctx} {M M':Mem} {β β':Nat→Option Nat} {st b_:aO} {tmps fW:Array Value} {w w':World}
def pS.lt{F:Nat→Option Obj}{T:TypeId}{v:Value}{b:Nat}(h:pS P F M w T v)(hb:ia v=some b):b<w.heap.size:=by
 rcases h with rfl|⟨bR,n,cap,vs,T',rfl,_,bJ,_⟩
 ·simp [ia]at hb
 ·simp [ia]at hb;subst hb;exact lt_of_heap bJ
def pS.free{F:Nat→Option Obj}{T:TypeId}{v:Value}{b:Nat}(h:pS P F M w T v)(hb:ia v=some b):F b=none:=by
 rcases h with rfl|⟨bR,n,cap,vs,T',rfl,_,bJ,_,_,d9,_⟩
 ·simp [ia]at hb
 ·simp [ia]at hb;subst hb;exact d9
def pS.congr{F:Nat→Option Obj}{T:TypeId}{v:Value}(h:pS P F M w T v)(hw:∀b,ia v=some b→w'.heap[b]? = w.heap[b]?)(c8:∀b o,ia v=some b→M' b o=M b o):
 pS P F M' w' T v:=by
 rcases h with rfl|⟨bR,n,cap,vs,T',rfl,Z,bJ,ab,aq,d9⟩
 ·exact .inl rfl
 ·exact .inr ⟨bR,n,cap,vs,T',rfl,Z,(hw bR rfl).trans bJ,ab,λo aw=>(c8 bR o rfl).trans (aq o aw),d9⟩
def Nf(h:bV P K M β st tmps w){r i:Nat}{cs:List a'}{e:a'}(ai:look st.H r=some cs)(hi:cs[i]? = some e):
 ∃b vs T v,β r=some b∧w.heap[b]? = some (.cells ⟨vs⟩ T (0,0))∧vs[i]? = some v∧cB tmps w β (.cell r i)=v:=by
 obtain⟨b,vs,T,hb,bJ,ae,_⟩:=h.box r cs ai;have Ng:i<cs.length:=(List.getElem?_eq_some_iff.1 hi).1;have ax:vs[i]? = some vs[i]:=List.getElem?_eq_getElem (by omega)
 exact⟨b,vs,T,_,hb,bJ,ax,by simp only [cB,hb,cell_of_heap bJ,ax,Option.getD_some]⟩
def bV.BL(h:bV P K M β st tmps w){r b:Nat}{cs:List a'}(ai:look st.H r=some cs)(hb:β r=some b):b<w.heap.size:=by
 obtain⟨bR,vs,T,b2,bJ,_⟩:=h.box r cs ai;rw [hb]at b2;cases b2;exact lt_of_heap bJ
def bV.free(h:bV P K M β st tmps w)(b:Nat)(d9:K.F b=none)(vx:∀r cs,look st.H r=some cs→β r≠some b)
 (gt:∀l e T,st.at l=some e→e.own=some T→ia (cB tmps w β l)≠some b)
 (hw:∀bR,bR≠b→bR<w.heap.size→w'.heap[bR]? = w.heap[bR]?) (c8:M.le M') (GH:∀bR o,bR≠b→M' bR o=M bR o)
 (yi:∀o v,M' b o=some v→w'.cell? ⟨b,o,none⟩=some v) (o1:(w'.os,w'.output)=(w.os,w.output):=by rfl):bV P K M' β st tmps w':=by
 have cx:∀l e,st.at l=some e→cB tmps w' β l=cB tmps w β l:=by
  intro l e ae;cases l with
  |slot s=>rfl
  |cell r i=>
   simp only [aO.at]at ae;cases ai:look st.H r with
   |none=>simp [ai]at ae
   |some cs=>
    obtain⟨df,vs,T,du,bJ,_⟩:=h.box r cs ai;have dQ:df≠b:=λe=>vx r cs ai (e ▸ du)
    simp only [cB,du];rw [rZ (hw df dQ (lt_of_heap bJ))]
 constructor
 ·intro l e ae;rw [cx l e ae];exact(h.fC l e ae).mono c8
 ·intro l e T ae aL;rw [cx l e ae];refine(h.own l e T ae aL).congr (λdf du=>hw df ?_ ((h.own l e T ae aL).lt du)) (λdf o du=>GH df o ?_) <;>
  ·rintro rfl;exact gt l e T ae aL du
 ·intro l cQ e bp T T' df ae aL dR eo hb b2;rw [cx l e ae]at hb;rw [cx cQ bp dR]at b2;exact h.uniq l cQ e bp T T' df ae aL dR eo hb b2
 ·intro l e T df r cs ae aL hb ai;rw [cx l e ae]at hb;exact h.unbox l e T df r cs ae aL hb ai
 ·intro r cs ai;obtain⟨df,vs,T,du,bJ,Z,ab,aq⟩:=h.box r cs ai;have dQ:df≠b:=λe=>vx r cs ai (e ▸ du)
  exact⟨df,vs,T,du,(hw df dQ (lt_of_heap bJ)).trans bJ,Z,λo=>(GH df o dQ).trans (ab o),aq⟩
 ·exact h.inj
 ·exact h.lt
 ·intro df o v ax;by_cases dQ:df=b
  ·subst dQ;exact yi o v ax
  ·rw [GH df o dQ]at ax;have:=h.mem df o v ax
   rw [rZ (hw df dQ (lt_of_cell this))];exact this
 ·exact Mem.le_trans h.m0 c8
 ·intro df a7 du;have dQ:df≠b:=by rintro rfl;rw [d9]at du;cases du
  obtain⟨Z,ab⟩:=h.frame df a7 du;exact⟨(hw df dQ (lt_of_heap Z)).trans Z,λo=>(GH df o dQ).trans (ab o)⟩
 ·exact h.jc
 ·exact h.jE
 ·exact o1.trans h.h_
def bV.grow(h:bV P K M β st tmps w)(hw:∀b,b<w.heap.size→w'.heap[b]? = w.heap[b]?)(o1:(w'.os,w'.output)=(w.os,w.output):=by rfl):bV P K M β st tmps w':=by
 have hn:∀b,w.heap.size≤b→K.F b=none:=by
  intro b hb;cases d9:K.F b with
  |none=>rfl
  |some a7=>have:=lt_of_heap (h.frame b a7 d9).1;omega
 refine h.free w.heap.size (hn _ (Nat.le_refl _)) ?_ ?_ (λb _ hb=>hw b hb) (Mem.le_refl _) (λ_ _ _=>rfl) ?_ o1
 ·intro r cs ai hb;have:=h.BL ai hb;omega
 ·intro l e T ae aL hb;have:=(h.own l e T ae aL).lt hb;omega
 ·intro o v ax;have:=lt_of_cell (h.mem _ _ _ ax);omega
def bV.sub(h:bV P K M β st tmps w)(hn:b_.aZ=st.aZ)
 (he:∀l bp,b_.at l=some bp→∃e,st.at l=some e∧e.d=bp.d∧∀T,bp.own=some T→e.own=some T)
 (fq:∀r cs',look b_.H r=some cs'→∃cs,look st.H r=some cs∧cs.length=cs'.length):bV P K M β b_ tmps w:=by
 constructor
 ·intro l bp ae;obtain⟨e,Z,ab,_⟩:=he l bp ae;rw [←ab];exact h.fC l e Z
 ·intro l bp T ae aL;obtain⟨e,Z,_,aq⟩:=he l bp ae;exact h.own l e T Z (aq T aL)
 ·intro l cQ e bp T T' b ae aL dR eo;obtain⟨e1,Z,_,aq⟩:=he l e ae;obtain⟨e2,ni,_,GI⟩:=he cQ bp dR;exact h.uniq l cQ e1 e2 T T' b Z (aq T aL) ni (GI T' eo)
 ·intro l e T b r cs ae aL hb ai;obtain⟨e1,Z,_,aq⟩:=he l e ae;obtain⟨vy,jG,_⟩:=fq r cs ai;exact h.unbox l e1 T b r vy Z (aq T aL) hb jG
 ·intro r cs ai;obtain⟨vy,jG,hlen⟩:=fq r cs ai;obtain⟨b,vs,T,Z,ab,aq,aN,bn,cd,ep⟩:=h.box r vy jG
  exact⟨b,vs,T,Z,ab,aq.trans hlen,aN,bn,cd,ep.Vz jG ai λl bp ae=>by
   obtain⟨e,g1,g2,_⟩:=he l bp ae;exact⟨e,g1,.inl g2⟩⟩
 ·intro r dL b cs cs' ai ge hb b2;obtain⟨c1,Z,_⟩:=fq r cs ai;obtain⟨c2,ab,_⟩:=fq dL cs' ge;exact h.inj r dL b c1 c2 Z ab hb b2
 ·intro r b hb;rw [hn];exact h.lt r b hb
 ·exact h.mem
 ·exact h.m0
 ·exact h.frame
 ·exact h.jc
 ·exact h.jE
 ·exact h.h_
def bV.adW(h:bV P K M β st tmps w)(hn:b_.aZ=st.aZ)
 (he:∀l bp,b_.at l=some bp→∃e,st.at l=some e∧((e.d=bp.d∧∀T,bp.own=some T→e.own=some T)∨∃k g,e.d = .v (.oW k g)∧bp.d = .v (.bS k 0 g)))
 (fq:∀r cs',look b_.H r=some cs'→∃cs,look st.H r=some cs∧cs.length=cs'.length):bV P K M β b_ tmps w:=by
 have pT:∀l e k g,st.at l=some e→e.d = .v (.oW k g)→cB tmps w β l = .slice none 0 0:=by
  intro l e k g ae hd;have:=h.fC l e ae
  rw [hd]at this;generalize cB tmps w β l=u at this ⊢
  cases this with
  |v u x hx=>cases hx;rfl
 constructor
 ·intro l bp ae;obtain⟨e,Z,⟨ab,_⟩|⟨k,g,ab,aq⟩⟩:=he l bp ae
  ·rw [←ab];exact h.fC l e Z
  ·rw [aq,pT l e k g Z ab];exact .v _ _ (.mP k g)
 ·intro l bp T ae aL;obtain⟨e,Z,⟨_,aq⟩|⟨k,g,ab,aq⟩⟩:=he l bp ae
  ·exact h.own l e T Z (aq T aL)
  ·exact .inl (pT l e k g Z ab)
 ·intro l cQ e bp T T' b ae aL dR eo hb b2;obtain⟨e1,Z,⟨_,aq⟩|⟨k,g,ab,aq⟩⟩:=he l e ae
  ·obtain⟨e2,ni,⟨_,GI⟩|⟨k,g,adX,GI⟩⟩:=he cQ bp dR
   ·exact h.uniq l cQ e1 e2 T T' b Z (aq T aL) ni (GI T' eo) hb b2
   ·rw [pT cQ e2 k g ni adX]at b2;cases b2
  ·rw [pT l e1 k g Z ab]at hb;cases hb
 ·intro l e T b r cs ae aL hb ai;obtain⟨vy,jG,_⟩:=fq r cs ai;obtain⟨e1,Z,⟨_,aq⟩|⟨k,g,ab,aq⟩⟩:=he l e ae
  ·exact h.unbox l e1 T b r vy Z (aq T aL) hb jG
  ·rw [pT l e1 k g Z ab]at hb;cases hb
 ·intro r cs ai;obtain⟨vy,jG,hlen⟩:=fq r cs ai;obtain⟨b,vs,T,Z,ab,aq,aN,bn,cd,ep⟩:=h.box r vy jG
  exact⟨b,vs,T,Z,ab,aq.trans hlen,aN,bn,cd,ep.Vz jG ai λl bp ae=>by
   obtain⟨e,g1,⟨g2,_⟩|⟨k,g,_,g3⟩⟩:=he l bp ae
   ·exact⟨e,g1,.inl g2⟩
   ·exact⟨e,g1,.inr λq off u ao=>by rw [g3]at ao;cases ao⟩⟩
 ·intro r dL b cs cs' ai ge hb b2;obtain⟨c1,Z,_⟩:=fq r cs ai;obtain⟨c2,ab,_⟩:=fq dL cs' ge;exact h.inj r dL b c1 c2 Z ab hb b2
 ·intro r b hb;rw [hn];exact h.lt r b hb
 ·exact h.mem
 ·exact h.m0
 ·exact h.frame
 ·exact h.jc
 ·exact h.jE
 ·exact h.h_
structure nj(P:Program)(K:Ctx)(M:Mem)(β:Nat→Option Nat)(st:aO)(tmps:Array Value)(w:World)(l0:Loc)(v:Value)(T:TypeId):Prop where
 own:pS P K.F M w T v
 apart:∀l e T' b,st.at l=some e→e.own=some T'→l≠l0→ia v=some b→ia (cB tmps w β l)≠some b
 unbox:∀b r cs,ia v=some b→look st.H r=some cs→β r≠some b
def bV.put(h:bV P K M β st tmps w){t:Nat}{v:Value}{e:a'}(aA:t<tmps.size)(ax:cE M β v e.d)
 (aw:∀T,e.own=some T→nj P K M β st tmps w (.slot t) v T):
 bV P K M β {st with env:=(t,e)::st.env} (tmps.setIfInBounds t v) w:=by
 have gu:∀l,({st with env:=(t,e)::st.env}:aO).at l=if l = .slot t then some e else st.at l:=by
  intro l;cases l with
  |slot s=>
   simp only [aO.at,ee,Loc.slot.injEq];by_cases hs:t=s
   ·subst hs;simp
   ·simp [hs,Ne.symm hs]
  |cell r i=>simp [aO.at]
 have cx:∀l,cB (tmps.setIfInBounds t v) w β l=if l = .slot t then v else cB tmps w β l:=by
  intro l;cases l with
  |slot s=>
   simp only [cB,Loc.slot.injEq];by_cases hs:s=t
   ·subst hs;simp [aA]
   ·simp [hs,Ne.symm hs]
  |cell r i=>simp [cB]
 constructor
 ·intro l e1 ae;rw [gu]at ae;rw [cx];by_cases h0:l = .slot t
  ·simp only [h0,if_true]at ae ⊢;cases ae;exact ax
  ·simp only [h0,if_false]at ae ⊢;exact h.fC l e1 ae
 ·intro l e1 T ae aL;rw [gu]at ae;rw [cx];by_cases h0:l = .slot t
  ·simp only [h0,if_true]at ae ⊢;cases ae;exact(aw T aL).own
  ·simp only [h0,if_false]at ae ⊢;exact h.own l e1 T ae aL
 ·intro l cQ e1 e2 T T' b ae aL dR eo hb b2;rw [gu]at ae dR;rw [cx]at hb b2;by_cases h0:l = .slot t<;>by_cases tC:cQ = .slot t
  ·rw [h0,tC]
  ·simp only [h0,tC,if_true,if_false]at ae dR hb b2;cases ae;exact absurd b2 ((aw T aL).apart cQ e2 T' b dR eo tC hb)
  ·simp only [h0,tC,if_true,if_false]at ae dR hb b2;cases dR;exact absurd hb ((aw T' eo).apart l e1 T b ae aL h0 b2)
  ·simp only [h0,tC,if_false]at ae dR hb b2;exact h.uniq l cQ e1 e2 T T' b ae aL dR eo hb b2
 ·intro l e1 T b r cs ae aL hb ai;rw [gu]at ae;rw [cx]at hb;by_cases h0:l = .slot t
  ·simp only [h0,if_true]at ae hb;cases ae;exact(aw T aL).unbox b r cs hb ai
  ·simp only [h0,if_false]at ae hb;exact h.unbox l e1 T b r cs ae aL hb ai
 ·exact h.box
 ·exact h.inj
 ·exact h.lt
 ·exact h.mem
 ·exact h.m0
 ·exact h.frame
 ·exact h.jc
 ·exact h.jE
 ·exact h.h_
def bV.drop(h:bV P K M β st tmps w){t:Nat}{v:Value}:bV P K M β {st with env:=del st.env t} (tmps.setIfInBounds t v) w:=by
 have gu:∀l,({st with env:=del st.env t}:aO).at l=if l = .slot t then none else st.at l:=by
  intro l;cases l with
  |slot s=>
   simp only [aO.at,qP,Loc.slot.injEq];by_cases hs:t=s
   ·subst hs;simp
   ·simp [hs,Ne.symm hs]
  |cell r i=>simp [aO.at]
 have Z:bV P K M β {st with env:=del st.env t} tmps w:=by
  refine h.sub rfl (λl bp ae=>?_) (λr cs ai=>⟨cs,ai,rfl⟩)
  rw [gu]at ae;by_cases h0:l = .slot t
  ·simp [h0]at ae
  ·simp only [h0,if_false]at ae;exact⟨bp,ae,rfl,λ_ h=>h⟩
 have cx:∀l e,({st with env:=del st.env t}:aO).at l=some e→cB (tmps.setIfInBounds t v) w β l=cB tmps w β l:=by
  intro l e ae;cases l with
  |slot s=>
   have hs:t≠s:=by rintro rfl;simp [aO.at,qP]at ae
   simp [cB,hs]
  |cell r i=>rfl
 constructor
 ·intro l e ae;rw [cx l e ae];exact Z.fC l e ae
 ·intro l e T ae aL;rw [cx l e ae];exact Z.own l e T ae aL
 ·intro l cQ e bp T T' b ae aL dR eo hb b2;rw [cx l e ae]at hb;rw [cx cQ bp dR]at b2;exact Z.uniq l cQ e bp T T' b ae aL dR eo hb b2
 ·intro l e T b r cs ae aL hb ai;rw [cx l e ae]at hb;exact Z.unbox l e T b r cs ae aL hb ai
 ·exact Z.box
 ·exact Z.inj
 ·exact Z.lt
 ·exact Z.mem
 ·exact Z.m0
 ·exact Z.frame
 ·exact Z.jc
 ·exact Z.jE
 ·exact Z.h_
def bV.adY(h:bV P K M β st tmps w){gY n':Nat}(mt:∀b,β gY≠some b)(adZ:gY<n')(aqu:st.aZ≤n'){vs:List Value}{T:TypeId}{cs:List a'}(hlen:vs.length=cs.length)(jp:∀v,v∈vs→v.oneCell'=true)(hlies:lL P T vs.length cs)
 (ax:∀(i:Nat) v e,vs[i]? = some v→cs[i]? = some e→cE M β v e.d∧∀T,e.own=some T→v = .slice none 0 0):
 bV P K M (λr=>if r=gY then some w.heap.size else β r) {st with H:=(gY,cs)::st.H,aZ:=n'} tmps {w with heap:=w.heap.push (.cells ⟨vs⟩ T (0,0))}:=by
 have VA:∀r b,β r=some b→r≠gY:=λr b hb e=>mt b (e ▸ hb)
 have du:∀r b,β r=some b→(λr=>if r=gY then some w.heap.size else β r) r=some b:=by
  intro r b hb;simp [VA r b hb,hb]
 have gR:∀{v d},cE M β v d→cE M (λr=>if r=gY then some w.heap.size else β r) v d:=by
  intro v d hd;refine hd.Na ?_;exact du
 have hg:=h.grow (w':={w with heap:=w.heap.push (.cells ⟨vs⟩ T (0,0))}) (λb hb=>by simp [Array.getElem?_push,Nat.ne_of_lt hb])
 have hold:∀r cs,r≠gY→look ((gY,cs)::st.H) r=look st.H r:=λr cs dQ=>by simp [ee,Ne.symm dQ]
 have ad0:∀r cs,look st.H r=some cs→r≠gY:=λr cs ai=>by obtain⟨b,_,_,hb,_⟩:=h.box r cs ai;exact VA r b hb
 have cx:∀l e,st.at l=some e→cB tmps {w with heap:=w.heap.push (.cells ⟨vs⟩ T (0,0))} (λr=>if r=gY then some w.heap.size else β r) l=cB tmps {w with heap:=w.heap.push (.cells ⟨vs⟩ T (0,0))} β l:=by
  intro l e ae;cases l with
  |slot s=>rfl
  |cell r i=>
   simp only [aO.at]at ae;cases ai:look st.H r with
   |none=>simp [ai]at ae
   |some c=>simp [cB,ad0 r c ai]
 have VB:∀i e,cs[i]? = some e→∃v,vs[i]? = some v∧cB tmps {w with heap:=w.heap.push (.cells ⟨vs⟩ T (0,0))} (λr=>if r=gY then some w.heap.size else β r) (.cell gY i)=v:=by
  intro i e hi;have Ng:i<cs.length:=(List.getElem?_eq_some_iff.1 hi).1;have fa:vs[i]? = some vs[i]:=List.getElem?_eq_getElem (by omega)
  exact⟨_,fa,by simp [cB,World.cell?,hlen ▸ Ng]⟩
 have gu:∀l e,({st with H:=(gY,cs)::st.H,aZ:=n'}:aO).at l=some e→(∃i,l = .cell gY i∧cs[i]? = some e)∨(st.at l=some e∧∀i,l ≠ .cell gY i):=by
  intro l e ae;cases l with
  |slot s=>exact .inr ⟨ae,by simp⟩
  |cell r i=>
   by_cases ai:r=gY
   ·subst ai;simp [aO.at,ee]at ae;exact .inl ⟨i,rfl,ae⟩
   ·refine .inr ⟨?_,by simp [ai]⟩
    simpa [aO.at,ee,Ne.symm ai]using ae
 have kN:∀l e T',({st with H:=(gY,cs)::st.H,aZ:=n'}:aO).at l=some e→e.own=some T'→(∃i,l = .cell gY i)→cB tmps {w with heap:=w.heap.push (.cells ⟨vs⟩ T (0,0))} (λr=>if r=gY then some w.heap.size else β r) l = .slice none 0 0:=by
  rintro l e T' ae aL ⟨i,rfl⟩
  have hi:cs[i]? = some e:=by simpa [aO.at,ee]using ae
  obtain⟨v,Z,ab⟩:=VB i e hi;rw [ab];exact(ax i v e Z hi).2 T' aL
 constructor
 ·intro l e ae;rcases gu l e ae with⟨i,rfl,hi⟩|⟨aw,_⟩
  ·obtain⟨v,Z,ab⟩:=VB i e hi;rw [ab];exact gR (ax i v e Z hi).1
  ·rw [cx l e aw];exact gR (hg.fC l e aw)
 ·intro l e T' ae aL;rcases gu l e ae with⟨i,mR,hi⟩|⟨aw,_⟩
  ·rw [kN l e T' ae aL ⟨i,mR⟩];exact .inl rfl
  ·rw [cx l e aw];exact hg.own l e T' aw aL
 ·intro l cQ e bp hF pU b ae aL dR eo hb b2;rcases gu l e ae with⟨i,mR,hi⟩|⟨aw,_⟩
  ·rw [kN l e hF ae aL ⟨i,mR⟩]at hb;simp [ia]at hb
  ·rcases gu cQ bp dR with⟨i,mR,hi⟩|⟨la,_⟩
   ·rw [kN cQ bp pU dR eo ⟨i,mR⟩]at b2;simp [ia]at b2
   ·rw [cx l e aw]at hb;rw [cx cQ bp la]at b2;exact hg.uniq l cQ e bp hF pU b aw aL la eo hb b2
 ·intro l e hF b r c ae aL hb ai;rcases gu l e ae with⟨i,mR,hi⟩|⟨aw,_⟩
  ·rw [kN l e hF ae aL ⟨i,mR⟩]at hb;simp [ia]at hb
  ·rw [cx l e aw]at hb
   have bO:b<w.heap.size:=by
    have Z:=(h.own l e hF aw aL)
    have ab:cB tmps {w with heap:=w.heap.push (.cells ⟨vs⟩ T (0,0))} β l=cB tmps w β l:=by
     cases l with
     |slot s=>rfl
     |cell r i=>
      simp only [aO.at]at aw;cases ai:look st.H r with
      |none=>simp [ai]at aw
      |some c=>
       obtain⟨df,lb,pU,f7,bJ,_⟩:=h.box r c ai;simp only [cB,f7];rw [rZ (w:=w) (by simp [Array.getElem?_push,Nat.ne_of_lt (lt_of_heap bJ)])]
    rw [ab]at hb;exact Z.lt hb
   by_cases jV:r=gY
   ·subst jV;simp;omega
   ·simp [jV];exact hg.unbox l e hF b r c aw aL hb (by simpa [ee,Ne.symm jV]using ai)
 ·intro r c ai;by_cases jV:r=gY
  ·subst jV;simp [ee]at ai;subst ai;refine⟨w.heap.size,vs,T,by simp,by simp,hlen,λo=>?_,?_,jp,hlies⟩
   ·cases hm:M w.heap.size o with
    |none=>rfl
    |some v=>have:=lt_of_cell (h.mem _ _ _ hm);omega
   ·cases d9:K.F w.heap.size with
    |none=>rfl
    |some a7=>have:=lt_of_heap (h.frame _ a7 d9).1;omega
  ·obtain⟨b,lb,hF,Z,ab,aq⟩:=hg.box r c (by simpa [ee,Ne.symm jV]using ai)
   exact⟨b,lb,hF,by simp [jV,Z],ab,aq⟩
 ·intro r dL b c mu ai ge hb b2;by_cases jV:r=gY<;>by_cases yj:dL=gY
  ·rw [jV,yj]
  ·simp [jV]at hb;simp [yj]at b2;have:=h.BL (by simpa [ee,Ne.symm yj]using ge) b2
   omega
  ·simp [yj]at b2;simp [jV]at hb;have:=h.BL (by simpa [ee,Ne.symm jV]using ai) hb
   omega
  ·simp [jV]at hb;simp [yj]at b2;exact h.inj r dL b c mu (by simpa [ee,Ne.symm jV]using ai) (by simpa [ee,Ne.symm yj]using ge) hb b2
 ·intro r b hb;by_cases jV:r=gY
  ·subst jV;exact adZ
  ·simp [jV]at hb;have:=h.lt r b hb;simp;omega
 ·exact hg.mem
 ·exact hg.m0
 ·exact hg.frame
 ·intro r b hb;exact du r b (h.jc r b hb)
 ·exact hg.jE
 ·exact hg.h_
end
section
variable {P:Program} {K:Ctx} {M M':Mem} {β β':Nat→Option Nat} {st b_:aO} {tmps fW:Array Value} {w w':World}
def bV.Nh(h:bV P K M β st tmps w){r b:Nat}{cs:List a'}(ai:look st.H r=some cs)(hb:β r=some b){vs vs':List Value}{T:TypeId}
 (bJ:w.heap[b]? = some (.cells ⟨vs⟩ T (0,0))) {cs':List a'} (hlen:vs'.length=cs'.length) (jp:∀v,v∈vs'→v.oneCell'=true) (hlies:lL P T vs.length cs→lL P T vs'.length cs') (ev:cs'.length=cs.length)
 (oa:w'.heap[b]? = some (.cells ⟨vs'⟩ T (0,0))) (BM:∀bR,bR≠b→w'.heap[bR]? = w.heap[bR]?) (i0:Nat)
 (ax:∀(i:Nat) v e,vs'[i]? = some v→cs'[i]? = some e→cE M β v e.d∧∀T,e.own=some T→
  (i≠i0∧(∃cc,cs[i]? = some cc∧cc.own=some T)∧vs[i]? = some v)∨(i=i0∧nj P K M β st tmps w (.cell r i0) v T)) (o1:(w'.os,w'.output)=(w.os,w.output):=by rfl):
 bV P K M β {st with H:=(r,cs')::st.H} tmps w':=by
 have GJ:K.F b=none∧∀o,M b o=none:=by
  obtain⟨df,_,_,Z,_,_,ab,aq,_⟩:=h.box r cs ai;rw [hb]at Z;cases Z;exact⟨aq,ab⟩
 have ad1:lL P T vs.length cs:=by
  obtain⟨df,lb,hF,Z,ab,_,_,_,_,aq⟩:=h.box r cs ai;rw [hb]at Z;cases Z;rw [bJ]at ab;cases ab;exact aq
 have iv:∀bR,bR≠b→∀o,w'.cell? ⟨bR,o,none⟩=w.cell? ⟨bR,o,none⟩:=λbR dQ o=>rZ (BM bR dQ)
 have dQ:∀dL c bR,look st.H dL=some c→β dL=some bR→dL≠r→bR≠b:=λdL c bR ge b2 dQ e=>dQ (h.inj dL r bR c cs ge ai b2 (e ▸ hb))
 have gu:∀l e,({st with H:=(r,cs')::st.H}:aO).at l=some e→(∃i v,l = .cell r i∧cs'[i]? = some e∧vs'[i]? = some v∧cB tmps w' β l=v)∨(st.at l=some e∧cB tmps w' β l=cB tmps w β l∧∀i,l ≠ .cell r i):=by
  intro l e ae;cases l with
  |slot s=>exact .inr ⟨ae,rfl,by simp⟩
  |cell dL i=>
   by_cases lM:dL=r
   ·subst lM;simp [aO.at,ee]at ae;have hi:i<cs'.length:=(List.getElem?_eq_some_iff.1 ae).1;have fa:vs'[i]? = some vs'[i]:=List.getElem?_eq_getElem (by omega)
    exact .inl ⟨i,_,rfl,ae,fa,by simp only [cB,hb,cell_of_heap oa,fa,Option.getD_some]⟩
   ·have dR:st.at (.cell dL i)=some e:=by simpa [aO.at,ee,Ne.symm lM]using ae
    refine .inr ⟨dR,?_,by simp [lM]⟩
    simp only [aO.at]at dR;cases ge:look st.H dL with
    |none=>simp [ge]at dR
    |some c=>
     obtain⟨df,_,_,du,_⟩:=h.box dL c ge;simp only [cB,du];rw [iv df (dQ dL c df ge du lM)]
 have gt:∀l e T,({st with H:=(r,cs')::st.H}:aO).at l=some e→e.own=some T→
  (l ≠ .cell r i0∧(∃cc,st.at l=some cc∧cc.own=some T)∧cB tmps w' β l=cB tmps w β l)∨(l = .cell r i0∧nj P K M β st tmps w (.cell r i0) (cB tmps w' β l) T):=by
  intro l e hF ae aL;rcases gu l e ae with⟨i,v,rfl,hi,fa,cx⟩|⟨aw,cx,jd⟩
  ·rcases(ax i v e fa hi).2 hF aL with⟨ad2,⟨cc,Ni,ld⟩,hold⟩|⟨rfl,hn⟩
   ·refine .inl ⟨by simp [ad2],⟨cc,by simp [aO.at,ai,Ni],ld⟩,?_⟩
    rw [cx];simp only [cB,hb,cell_of_heap bJ,hold,Option.getD_some]
   ·exact .inr ⟨rfl,by rw [cx];exact hn⟩
  ·exact .inl ⟨jd i0,⟨e,aw,aL⟩,cx⟩
 have fq:∀dL c,look ((r,cs')::st.H) dL=some c→∃mu,look st.H dL=some mu:=by
  intro dL c hc;by_cases lM:r=dL
  ·exact⟨cs,lM ▸ ai⟩
  ·exact⟨c,by simpa [ee,lM]using hc⟩
 constructor
 ·intro l e ae;rcases gu l e ae with⟨i,v,rfl,hi,fa,cx⟩|⟨aw,cx,jd⟩
  ·rw [cx];exact(ax i v e fa hi).1
  ·rw [cx];exact h.fC l e aw
 ·intro l e hF ae aL;rcases gt l e hF ae aL with⟨_,⟨cc,h0,ld⟩,cx⟩|⟨rfl,hn⟩
  ·rw [cx];refine(h.own l cc hF h0 ld).congr (λdf du=>BM df ?_) (λ_ _ _=>rfl)
   rintro rfl
   exact h.unbox l cc hF df r cs h0 ld du ai hb
  ·refine hn.own.congr (λdf du=>BM df ?_) (λ_ _ _=>rfl)
   rintro rfl
   exact hn.unbox df r cs du ai hb
 ·intro l cQ e bp hF pU df ae aL dR eo du vz;rcases gt l e hF ae aL with⟨hl0,⟨cc,h0,ld⟩,cx⟩|⟨rfl,hn⟩<;>rcases gt cQ bp pU dR eo with⟨ad3,⟨yk,tC,BN⟩,qQ⟩|⟨rfl,GK⟩
  ·rw [cx]at du;rw [qQ]at vz;exact h.uniq l cQ cc yk hF pU df h0 ld tC BN du vz
  ·rw [cx]at du;exact absurd du (GK.apart l cc hF df h0 ld hl0 vz)
  ·rw [qQ]at vz;exact absurd vz (hn.apart cQ yk pU df tC BN ad3 du)
  ·rfl
 ·intro l e hF df dL c ae aL du ge;obtain⟨mu,ku⟩:=fq dL c ge;rcases gt l e hF ae aL with⟨_,⟨cc,h0,ld⟩,cx⟩|⟨rfl,hn⟩
  ·rw [cx]at du;exact h.unbox l cc hF df dL mu h0 ld du ku
  ·exact hn.unbox df dL mu du ku
 ·intro dL c ge;by_cases lM:r=dL
  ·subst lM;simp [ee]at ge;subst ge;exact⟨b,vs',T,hb,oa,hlen,GJ.2,GJ.1,jp,hlies ad1⟩
  ·have jH:look st.H dL=some c:=by simpa [ee,lM]using ge
   obtain⟨df,lb,hF,Z,ab,aq⟩:=h.box dL c jH;exact⟨df,lb,hF,Z,(BM df (dQ dL c df jH Z (Ne.symm lM))).trans ab,aq⟩
 ·intro r1 r2 df c1 c2 jG jH du f7;obtain⟨ad4,Z⟩:=fq r1 c1 jG;obtain⟨ad5,ab⟩:=fq r2 c2 jH;exact h.inj r1 r2 df ad4 ad5 Z ab du f7
 ·exact h.lt
 ·intro df o v hm;by_cases qR:df=b
  ·subst qR;rw [GJ.2 o]at hm;cases hm
  ·rw [iv df qR];exact h.mem df o v hm
 ·exact h.m0
 ·intro df a7 d9;have qR:df≠b:=by rintro rfl;rw [GJ.1]at d9;cases d9
  obtain⟨Z,ab⟩:=h.frame df a7 d9;exact⟨(BM df qR).trans Z,ab⟩
 ·exact h.jc
 ·exact h.jE
 ·exact o1.trans h.h_
def ob:∀(l:List Nat) (env:List (Nat×a')) (s:Nat),
 look (hD l env) s=if s∈l then(look env s).map (λe=>{e with own:=none})else look env s
 |[],env,s=>by simp [hD]
 |t::l,env,s=>by
  have aR:=ob l env s;simp only [hD];cases aA:look env t with
  |none=>
   simp only [aR];by_cases hs:s=t
   ·subst hs;simp [aA]
   ·simp [hs]
  |some e=>
   simp only [ee];by_cases hs:t=s
   ·subst hs;simp [aA]
   ·simp [hs,Ne.symm hs,aR]
def bV.hP(h:bV P K M β st tmps w)(l:List Nat):bV P K M β {st with env:=hD l st.env} tmps w:=by
 refine h.sub rfl (λjb bp ae=>?_) (λr cs ai=>⟨cs,ai,rfl⟩)
 cases jb with
 |slot s=>
  simp only [aO.at,ob]at ae ⊢;by_cases hs:s∈l
  ·simp only [hs,if_true,Option.map_eq_some_iff]at ae;obtain⟨e,he,rfl⟩:=ae;exact⟨e,he,rfl,by simp⟩
  ·simp only [hs,if_false]at ae;exact⟨bp,ae,rfl,λ_ h=>h⟩
 |cell r i=>exact⟨bp,ae,rfl,λ_ h=>h⟩
def bV.hand(h:bV P K M β st tmps w){s:Nat}{e:a'}{T:TypeId}(hs:look st.env s=some e)(aL:e.own=some T)(l0:Loc):
 nj P K M β {st with env:=hD [s] st.env} tmps w l0 (tmps.getD s undef) T:=by
 have ae:st.at (.slot s)=some e:=hs;refine⟨h.own (.slot s) e T ae aL,λl bp T' b dR eo _ hb b2=>?_,λb r cs hb ai=>h.unbox (.slot s) e T b r cs ae aL hb ai⟩
 have eY:∃e2,st.at l=some e2∧e2.own=some T'∧l ≠ .slot s:=by
  cases l with
  |slot tD=>
   simp only [aO.at,ob]at dR ⊢;by_cases Nj:tD=s
   ·subst Nj;simp at dR;obtain⟨_,_,rfl⟩:=dR;simp at eo
   ·simp [Nj]at dR;exact⟨bp,dR,eo,by simp [Nj]⟩
  |cell r i=>exact⟨bp,dR,eo,by simp⟩
 obtain⟨e2,ab,o2,dQ⟩:=eY;exact dQ (h.uniq l (.slot s) e2 e T' T b ab o2 ae aL b2 hb)
def bV.VC(h:bV P K M β st tmps w){r i:Nat}{cs cs':List a'}{e:a'}{T:TypeId}(ai:look st.H r=some cs)(hi:cs[i]? = some e)(aL:e.own=some T)
 (ev:cs'.length=cs.length) (mS:∀(j:Nat) bp,cs'[j]? = some bp→∃cc,cs[j]? = some cc∧cc.d=bp.d∧(∀T,bp.own=some T→cc.own=some T∧j≠i)) (l0:Loc):
 bV P K M β {st with H:=(r,cs')::st.H} tmps w∧nj P K M β {st with H:=(r,cs')::st.H} tmps w l0 (cB tmps w β (.cell r i)) T:=by
 have ae:st.at (.cell r i)=some e:=by simp [aO.at,ai,hi]
 have gu:∀l bp,({st with H:=(r,cs')::st.H}:aO).at l=some bp→∃cc,st.at l=some cc∧cc.d=bp.d∧∀T,bp.own=some T→cc.own=some T∧l ≠ .cell r i:=by
  intro l bp dR;cases l with
  |slot s=>exact⟨bp,dR,rfl,λT h=>⟨h,by simp⟩⟩
  |cell dL j=>
   by_cases lM:r=dL
   ·subst lM;simp [aO.at,ee]at dR;obtain⟨cc,Z,ab,aq⟩:=mS j bp dR;exact⟨cc,by simp [aO.at,ai,Z],ab,λT aL=>⟨(aq T aL).1,by simp [(aq T aL).2]⟩⟩
   ·refine⟨bp,by simpa [aO.at,ee,lM]using dR,rfl,λT h=>⟨h,by simp [Ne.symm lM]⟩⟩
 have fq:∀dL c,look ((r,cs')::st.H) dL=some c→∃mu,look st.H dL=some mu∧mu.length=c.length:=by
  intro dL c hc;by_cases lM:r=dL
  ·subst lM;simp [ee]at hc;subst hc;exact⟨cs,ai,ev.symm⟩
  ·exact⟨c,by simpa [ee,lM]using hc,rfl⟩
 refine⟨h.sub rfl (λl bp dR=>?_) fq,h.own _ e T ae aL,λl bp T' b dR eo _ hb b2=>?_,λb dL c hb ge=>?_⟩
 ·obtain⟨cc,Z,ab,aq⟩:=gu l bp dR;exact⟨cc,Z,ab,λT aL=>(aq T aL).1⟩
 ·obtain⟨cc,Z,_,aq⟩:=gu l bp dR;exact(aq T' eo).2 (h.uniq l _ cc e T' T b Z (aq T' eo).1 ae aL b2 hb)
 ·obtain⟨mu,Z,_⟩:=fq dL c ge;exact h.unbox _ e T b dL mu ae aL hb Z
def Nk(l0:Loc)(T:TypeId):nj P K M β st tmps w l0 (.slice none 0 0) T:=
 ⟨.inl rfl,λ_ _ _ _ _ _ _ hb=>by simp [ia]at hb,λ_ _ _ hb=>by simp [ia]at hb⟩
def VD:∀{l:List Nat} {env n_:List (Nat×a')},BI env l=some n_→∀s e,look n_ s=some e→look env s=some e
 |[],env,n_,h,s,e,he=>by simp [BI]at h;subst h;simp [look]at he
 |t::l,env,n_,h,s,e,he=>by
  simp only [BI]at h;split at h<;>simp at h
  rename_i e1 jb Z ab;subst h;rw [ee]at he;by_cases lf:t=s
  ·simp [lf]at he;subst he;rw [←lf];exact Z
  ·simp [lf]at he;exact VD ab s e he
def Nl:∀{l:List Nat} {H b0:List (Nat×List a')},BJ H l=some b0→∀s e,look b0 s=some e→look H s=some e
 |[],env,n_,h,s,e,he=>by simp [BJ]at h;subst h;simp [look]at he
 |t::l,env,n_,h,s,e,he=>by
  simp only [BJ]at h;split at h<;>simp at h
  rename_i e1 jb Z ab;subst h;rw [ee]at he;by_cases lf:t=s
  ·simp [lf]at he;subst he;rw [←lf];exact Z
  ·simp [lf]at he;exact Nl ab s e he
def r0{α:Type}:∀{l:List (Nat×α)} {i:Nat} {x:α},look l i=some x→(i,x)∈l
 |[],_,_,h=>by simp [look]at h
 |(j,y)::l,i,x,h=>by
  rw [ee]at h;by_cases hj:j=i
  ·simp [hj]at h;subst h;simp [hj]
  ·simp [hj]at h;exact List.mem_cons_of_mem _ (r0 h)
def Nm{n:Nat}:∀{l:List a'} {i:Nat} {e:a'},tA n l=true→l[i]? = some e→below n e.d=true
 |[],_,_,_,h=>by simp at h
 |d::l,0,_,hb,h=>by simp [tA]at hb;simp at h;exact h ▸ hb.1
 |d::l,i+1,_,hb,h=>by simp [tA]at hb;simp at h;exact Nm hb.2 h
def bV.vw(h:bV P K M β st tmps w){live yl:List Nat}{n:Nat}(ai:Ab.vw live yl n st.env st.H st.aZ=some b_)(eI:∀r b,K.lK r=some b→r<n):
 ∃ β',bV P K M β' b_ tmps w:=by
 unfold Ab.vw at ai;split at ai
 case h_2=>cases ai
 rename_i n_ b0 he fq;rw [Bool.cond_eq_ite]at ai;split at ai
 case isFalse=>cases ai
 rename_i hc;cases ai;simp only [Bool.and_eq_true,List.all_eq_true,Prod.forall,Nat.blt_eq,Nat.ble_eq]at hc;obtain⟨⟨hn,ad6⟩,VE⟩:=hc
 have Z:bV P K M β {env:=n_,H:=b0,aZ:=st.aZ} tmps w:=by
  refine h.sub rfl (λl bp ae=>?_) (λr cs ai=>⟨cs,Nl fq _ _ ai,rfl⟩)
  refine⟨bp,?_,rfl,λ_ h=>h⟩
  cases l with
  |slot s=>exact VD he _ _ ae
  |cell r i=>
   simp only [aO.at]at ae ⊢;cases ai:look b0 r with
   |none=>simp [ai]at ae
   |some c=>simp [ai]at ae;simp [Nl fq _ _ ai,ae]
 have nk:∀l e,({env:=n_,H:=b0,aZ:=st.aZ}:aO).at l=some e→below n e.d=true∧(∀r i,l = .cell r i→r<n):=by
  intro l e ae;cases l with
  |slot s=>exact⟨ad6 s e (r0 ae),by simp⟩
  |cell r i=>
   simp only [aO.at]at ae;cases ai:look b0 r with
   |none=>simp [ai]at ae
   |some c=>
    simp [ai]at ae;have:=VE r c (r0 ai)
    exact⟨Nm this.2 ae,by rintro dL mT h;cases h;exact this.1⟩
 refine⟨λr=>if r<n then β r else none,?_⟩
 have cx:∀l e,({env:=n_,H:=b0,aZ:=st.aZ}:aO).at l=some e→cB tmps w (λr=>if r<n then β r else none) l=cB tmps w β l:=by
  intro l e ae;cases l with
  |slot s=>rfl
  |cell r i=>simp [cB,(nk _ _ ae).2 r i rfl]
 have jV:∀r c,look b0 r=some c→r<n:=λr c ai=>(VE r c (r0 ai)).1
 constructor
 ·intro l e ae;rw [cx l e ae];exact(Z.fC l e ae).Vx (λr ai=>by simp [ai]) (nk l e ae).1
 ·intro l e T ae aL;rw [cx l e ae];exact Z.own l e T ae aL
 ·intro l cQ e bp T T' b ae aL dR eo hb b2;rw [cx l e ae]at hb;rw [cx cQ bp dR]at b2;exact Z.uniq l cQ e bp T T' b ae aL dR eo hb b2
 ·intro l e T b r cs ae aL hb ai;rw [cx l e ae]at hb;have:=Z.unbox l e T b r cs ae aL hb ai
  simpa [jV r cs ai]using this
 ·intro r cs ai;obtain⟨b,vs,T,ab,aq⟩:=Z.box r cs ai;exact⟨b,vs,T,by simpa [jV r cs ai]using ab,aq⟩
 ·intro r dL b cs cs' ai ge hb b2;exact Z.inj r dL b cs cs' ai ge (by simpa [jV r cs ai]using hb) (by simpa [jV dL cs' ge]using b2)
 ·intro r b hb;by_cases bO:r<n
  ·exact bO
  ·simp [bO]at hb
 ·exact Z.mem
 ·exact Z.m0
 ·exact Z.frame
 ·intro r b hb;simp [eI r b hb,Z.jc r b hb]
 ·exact Z.jE
 ·exact Z.h_
end
def lN(P:Program):TypeDesc→Option mq
 |.int k=>some (.int k)
 |.bool=>some .bool
 |.string=>some .str
 |.struct cD=>some (.ch (cD.toList.map λf=>(f.offset,f.type,P.cellsOf f.type)))
 |.slice e=>some (.bS e)
 |.array n e=>some (.arr n e)
 |.pointer _=>some .ptr
 |.func _ _ _=>some .bf
 |.interface _=>some .oX
 |_=>none
def vA:Value→V→Bool
 |.int k n,.int k' n'=>decide (k=k')&&decide (n=n')
 |.bool a,.bool b=>a == b
 |.string s,.str l=>decide (s.data.toList=l)
 |.slice none 0 0,.bS _ n _=>Nat.beq n 0
 |.pointer none,.eC=>true
 |.nilIface,.iF=>true
 |.nilFunc,.aX=>true
 |_,_=>false
def vB:List Value→List V→Bool
 |[],[]=>true
 |v::vs,x::xs=>vA v x&&vB vs xs
 |_,_=>false
def ym(P:Program)(inner:TypeId→List Field→Bool):Nat→List Field→Bool
 |_,[]=>true
 | i, f :: l => Nat.beq f.offset i && !decide (f.name = "_") && (match P.underlying f.type with
  |some (.int _) |some .bool |some .string=>ym P inner (i+1) l
  |some (.struct gs)=>inner f.type gs.toList&&ym P inner (i+P.cellsOf f.type) l
  |_=>false)
def r4(P:Program):Nat→List Field→Nat
 | 0,cD=>cD.length
 |d+1,cD=>(cD.map λf=>match P.underlying f.type with
  |some (.struct gs)=>r4 P d gs.toList
  |_=>1).sum
def vC(P:Program):Nat→Nat→List Field→Bool
 | 0=>ym P λ_ _=>false
 |d+1=>ym P λt gs=>!P.stoodInHeld t&&Nat.beq (P.cellsOf t) (r4 P d gs)&&vC P d 0 gs
def Nn(P:Program)(t:TypeId):Bool:=
 match P.underlying t with
 |some (.struct cD)=>!P.stoodInHeld t && !P.eqGuardType P.depth t&&vC P 4 0 cD.toList
 |_=>false
def VF(P:Program)(t:TypeId)(aU:eS):Bool:=
 match P.info? t,P.underlying t with
 |some i,some d=>decide (lN P d=some aU.k)&&Nat.beq i.size aU.size&&Nat.beq i.bytes aU.bytes&&Nat.beq aU.zero.length aU.size &&
  aU.jT.all (λx=>liesAt P P.depth t (aU.size / P.cellsOf t) x.1 x.2 1) &&
  (match i.zero with|some z=>vB z.cells.toList aU.zero&&(match z with|.agg _=>aU.k.isAgg|.tuple _=>false|_=>!aU.k.isAgg)|none=>false)
 |_,_=>false
def fH(P:Program)(tt:dT):Bool:=tt.all λx=>VF P x.1 x.2
def No{M:Mem}{v:Value}{x:V}(h:vA v x=true):di M v x∧v.oneCell'=true:=by
 unfold vA at h;split at h<;>simp at h
 ·obtain⟨rfl,rfl⟩:=h;exact⟨.int _ _,rfl⟩
 ·subst h;exact⟨.bool _,rfl⟩
 ·rename_i s l;subst h;exact⟨by exact .str s.data.toList,rfl⟩
 ·subst h;exact⟨.mP _ _,rfl⟩
 ·exact⟨.eC,rfl⟩
 ·exact⟨.iF,rfl⟩
 ·exact⟨.aX,rfl⟩
def yn{M:Mem}:∀{vs:List Value} {xs:List V},vB vs xs=true→vs.length=xs.length∧(∀v,v∈vs→v.oneCell'=true)∧∀(i:Nat) v x,vs[i]? = some v→xs[i]? = some x→di M v x∧vA v x=true
 |[],[],_=>by simp
 |[],_::_,h=>by simp [vB]at h
 |_::_,[],h=>by simp [vB]at h
 |v::vs,x::xs,h=>by
  simp [vB]at h;obtain⟨Z,ab,aq⟩:=yn (M:=M) h.2;refine⟨by simp [Z],?_,?_⟩
  ·intro u hu;rcases List.mem_cons.1 hu with rfl|hu
   ·exact(No (M:=M) h.1).2
   ·exact ab u hu
  ·intro i u y hu ck;cases i with
   |zero=>simp at hu ck;subst hu;subst ck;exact⟨(No h.1).1,h.1⟩
   |succ i=>simp at hu ck;exact aq i u y hu ck
structure Row(P:Program)(t:TypeId)(aU:eS) where
 info:TypeInfo
 desc:TypeDesc
 z:Value
 hi:P.info? t=some info
 hd:P.underlying t=some desc
 hk:lN P desc=some aU.k
 size:info.size=aU.size
 bytes:info.bytes=aU.bytes
 cX:info.zero=some z
 Np:aU.zero.length=aU.size
 BO:vB z.cells.toList aU.zero=true
 jT:(aU.jT.all λx=>liesAt P P.depth t (aU.size / P.cellsOf t) x.1 x.2 1)=true
 aqv:match z with|.agg _=>aU.k.isAgg=true|.tuple _=>False|_=>aU.k.isAgg=false
theorem eO{P:Program}{tt:dT}(h:fH P tt=true){t:TypeId}{aU:eS}(aA:look tt t=some aU):Nonempty (Row P t aU):=by
 have hm:=r0 aA;unfold fH at h;rw [List.all_eq_true]at h;have:=h _ hm
 unfold VF at this
 dsimp only at this
 split at this
 case h_2=>cases this
 rename_i i d hi hd;simp only [Bool.and_eq_true,decide_eq_true_eq,Nat.beq_eq]at this;obtain⟨⟨⟨⟨⟨Z,ab⟩,aq⟩,aN⟩,nk⟩,bn⟩:=this;split at bn
 case h_2=>cases bn
 rename_i z cX;simp only [Bool.and_eq_true]at bn
 exact⟨⟨i,d,z,hi,hd,Z,ab,aq,cX,aN,bn.1,nk,by
  have:=bn.2
  cases z<;>simp at this<;>simp [this]⟩⟩
def Row.cellsOf{P:Program}{t:TypeId}{aU:eS}(r:Row P t aU):P.cellsOf t=aU.size:=by
 simp [Program.cellsOf,r.hi,r.size]
section runs
variable {P:Program} {t:TypeId} {aU:eS} (w:World)
def Row.run_sizeOf(r:Row P t aU):(sizeOf t).run P w = .ok aU.size w:=by
 rw [Go.run_sizeOf w r.hi,r.cellsOf]
def Row.GL(r:Row P t aU):(zeroValue t).run P w = .ok r.z w:=by
 simp [zeroValue,typeInfo,r.hi,r.cX]
def Row.run_underlying(r:Row P t aU):(underlying t).run P w = .ok r.desc w:=Go.run_underlying r.hd w
def Row.yo(r:Row P t aU):(isAgg t).run P w = .ok aU.k.isAgg w:=by
 have hk:=r.hk;simp only [isAgg,Sem.run_bind,r.run_underlying,Result.andThen_ok];cases hd:r.desc<;>simp [hd,lN]at hk<;>simp [←hk,mq.isAgg]
end runs
def f8(tmps:Array Value)(p:Path):Prop:=∀x,x∈p→tmps.getD x.1 undef = .bool x.2
structure fX(P:Program)(K:Ctx)(N:Nat)(M:Mem)(β:Nat→Option Nat)(g:dz)(tmps:Array Value)(w:World):Prop where
 bF:bV P K M β {env:=g.env,H:=g.H,aZ:=g.aZ} tmps w
 size:tmps.size=N
 fresh:∀s id,look g.ids s=some id→look g.H id=none→∀b,β id≠some b
 cond:∀t q d,look g.ca t=some (q,d)→(f8 tmps q→cE M β (tmps.getD t undef) d)∧(¬ f8 tmps q→tmps.getD t undef=undef)
def Path.ad7{q p:Path}(h:q.sub p=true){tmps:Array Value}(hp:f8 tmps p):f8 tmps q:=by
 intro x hx;unfold Path.sub at h;rw [List.all_eq_true]at h;have:=h x hx
 unfold Path.has at this;rw [List.any_eq_true]at this;obtain⟨y,ck,pV⟩:=this;simp at pV
 have Z:=hp y ck;rw [←pV.1,←pV.2];exact Z
def ad8{M:Mem}{v:Value}{x:V}(h:M4 v=some x):di M v x:=by
 unfold M4 at h;split at h<;>simp at h<;>subst h
 ·exact .int _ _
 ·exact .bool _
 ·rename_i s;exact .str s.data.toList
 ·exact .eC
 ·exact .iF
 ·exact .aX
def er{P:Program}{K:Ctx}{N:Nat}{M:Mem}{β:Nat→Option Nat}{g:dz}{tmps:Array Value}{w:World}(h:fX P K N M β g tmps w){p:Path}(hp:f8 tmps p){tt:dT}{ty:TypeId}{x:Operand}{d:D}
 (hx:rd g.env g.ca p tt ty x=some d) {ds:List Deferred}:cE M β ((⟨tmps,ds⟩:Act).eval x) d:=by
 cases x with
 |tmp t=>
  simp only [rd]at hx;split at hx
  ·rename_i q dX hc;rw [Bool.cond_eq_ite]at hx;split at hx<;>simp at hx
   subst hx;exact(h.cond t q dX hc).1 (Path.ad7 (by assumption) hp)
  ·simp only [Option.map_eq_some_iff]at hx;obtain⟨e,he,rfl⟩:=hx;exact h.bF.fC (.slot t) e he
 |const v=>
  simp only [rd]at hx;split at hx
  ·rename_i heq;cases heq
  ·rename_i heq;cases heq;split at hx
   ·cases hx;exact .v _ _ (.mP _ _)
   ·cases hx
  ·rename_i heq;cases heq;simp only [Option.map_eq_some_iff]at hx;obtain⟨y,ck,rfl⟩:=hx;exact .v _ _ (ad8 ck)
  ·rename_i heq;cases heq
  ·rename_i heq;cases heq
 |global n=>simp [rd]at hx
 |func f=>
  simp [rd]at hx;subst hx;exact .fn f [] [] rfl (by simp)
def ad9{v:Value}(h:v.oneCell'=true):v.cells = #[v]:=by
 cases v<;>first|rfl|(simp [Value.oneCell']at h)
def cE.cells{M:Mem}{β:Nat→Option Nat}{v:Value}{d:D}(h:cE M β v d)(aA:rR d=false):
 v.cells.toList.length=(cellsD d).length∧(∀u,u∈v.cells.toList→u.oneCell'=true)∧∀(i:Nat) u c,v.cells.toList[i]? = some u→(cellsD d)[i]? = some c→cE M β u c:=by
 have single:∀{v:Value} {d:D},v.cells = #[v]→cellsD d=[d]→v.oneCell'=true→cE M β v d→
  v.cells.toList.length=(cellsD d).length∧(∀u,u∈v.cells.toList→u.oneCell'=true)∧∀(i:Nat) u c,v.cells.toList[i]? = some u→(cellsD d)[i]? = some c→cE M β u c:=by
  intro v d Z ab aq aN;rw [Z,ab];refine⟨rfl,by simpa using aq,λi u c hu hc=>?_⟩
  cases i with
  |zero=>simp at hu hc;subst hu;subst hc;exact aN
  |succ i=>simp at hu
 cases h with
 |v u x hx=>
  cases hx with
  |agg vs cs hn Z ai=>
   refine⟨by simp [Value.cells,cellsD,V.cells,hn],by simpa [Value.cells]using Z,λi u c hu hc=>?_⟩
   simp [Value.cells]at hu;simp [cellsD,V.cells]at hc;obtain⟨a,ha,rfl⟩:=hc;exact .v _ _ (ai i u a hu ha)
  |any v Z=>exact single (ad9 Z) rfl Z (.v _ _ (.any _ Z))
  |_=>exact single rfl rfl rfl (.v _ _ (by constructor<;>assumption))
 |ptr r off b hb=>exact single rfl rfl rfl (.ptr r off b hb)
 |l6 r off u=>exact single rfl rfl rfl (.l6 r off u)
 |cA r off b u hb=>exact single rfl rfl rfl (.cA r off b u hb)
 |e' b off x val c8 Z ai=>exact single rfl rfl rfl (.e' b off x val c8 Z ai)
 |full b k n get h=>exact single rfl rfl rfl (.full b k n get h)
 |fn f vs cs hn ai=>exact single rfl rfl rfl (.fn f vs cs hn ai)
 |agg vs cs hn Z ai=>exact⟨hn,Z,ai⟩
 |bW vs cs hn ai=>simp [rR]at aA
def ad'{cs:List D}:∀{xs:List V},BC cs=some xs→cs=xs.map .v:=by
 induction cs with
 |nil=>intro xs h;simp [BC]at h;subst h;rfl
 |cons d l aR=>
  intro xs h;cases d<;>simp [BC]at h
  obtain⟨ys,ck,rfl⟩:=h;simp [aR ck]
def GM{M:Mem}{β:Nat→Option Nat}{vs:List Value}{cs:List D}(hn:vs.length=cs.length)(Z:∀v,v∈vs→v.oneCell'=true)
 (h:∀(i:Nat) v c,vs[i]? = some v→cs[i]? = some c→cE M β v c):cE M β (.agg ⟨vs⟩) (qK cs):=by
 unfold qK;split
 ·rename_i xs hx;have:=ad' hx
  subst this;refine .v _ _ (.agg vs xs (by simpa using hn) Z λi v c ax hc=>?_)
  have:=h i v (.v c) ax (by simp [hc])
  cases this;assumption
 ·exact .agg vs cs hn Z h
section
variable {P:Program} {K:Ctx} {N:Nat} {M:Mem} {β:Nat→Option Nat} {st:aO} {g:dz} {tmps:Array Value} {w:World} {v:Value}
def mv{k:IntKind}{n:Int}(h:cE M β v (.v (.int k n))):v = .int k n:=by
 cases h with|v u x h=>cases h;rfl
def oc{x:V}(h:cE M β v (.v x)):di M v x:=by
 cases h with|v u x h=>exact h
def vD{b:Bool}(h:cE M β v (.v (.bool b))):v = .bool b:=by
 cases h with|v u x h=>cases h;rfl
def mU{l:arY}(h:cE M β v (.v (.str l))):v = .string ⟨⟨l⟩⟩:=by
 cases h with|v u x h=>cases h;rfl
def r5{r off:Nat}(h:cE M β v (.ptr r off)):∃b,β r=some b∧v = .pointer (some ⟨b,off,none⟩):=by
 cases h with|ptr r off b h=>exact⟨b,h,rfl⟩
def Nq{t:TypeId}{x:V}(h:cE M β v (.v (.iface t x))):∃u,v = .iface t u∧di M u x:=by
 cases h with|v u x h=>cases h with|iface t u x h=>exact⟨u,rfl,h⟩
def ad_{cs:List V}(h:cE M β v (.v (.agg cs))):∃vs:List Value,v = .agg ⟨vs⟩∧vs.length=cs.length∧(∀u,u∈vs→u.oneCell'=true)∧∀(i:Nat) u c,vs[i]? = some u→cs[i]? = some c→di M u c:=by
 cases h with|v u x h=>cases h with|agg vs cs hn Z h=>exact⟨vs,rfl,hn,Z,h⟩
def aea{cs:List D}(h:cE M β v (.bW cs)):∃vs:List Value,v = .tuple ⟨vs⟩∧vs.length=cs.length∧∀(i:Nat) u c,vs[i]? = some u→cs[i]? = some c→cE M β u c:=by
 cases h with|bW vs cs hn h=>exact⟨vs,rfl,hn,h⟩
def VG{f:FuncId}{cs:List D}(h:cE M β v (.fn f cs)):∃vs:List Value,v = .func (.func f) #[] ⟨vs⟩∧vs.length=cs.length∧∀(i:Nat) u c,vs[i]? = some u→cs[i]? = some c→cE M β u c:=by
 cases h with|fn f vs cs hn h=>exact⟨vs,rfl,hn,h⟩
def tE{k n:Nat}{get:Nat→V}(h:cE M β v (.v (.bS k n get))):((v = .slice none 0 0∨∃a,v = .slice (some a) 0 0)∧n=0)∨
 ∃(b off cap:Nat) (val:Nat→Nat→Value),v = .slice (some ⟨b,off,none⟩) n cap∧n≤cap∧(∀i,i<n→(get i).cells.length=k)∧(∀i j,i<n→j<k→M b (off+i*k+j)=some (val i j))∧
  (∀i j,i<n→j<k→(val i j).oneCell'=true)∧(∀(i j:Nat) c,i<n→(get i).cells[j]? = some c→di M (val i j) c):=by
 cases h with
 |v u x h=>
  cases h with
  |mP=>exact .inl ⟨.inl rfl,rfl⟩
  |qL a=>exact .inl ⟨.inr ⟨a,rfl⟩,rfl⟩
  |bS b off k n cap get val hc hk c8 Z h=>exact .inr ⟨b,off,cap,val,rfl,hc,hk,c8,Z,h⟩
def GN{x:V}(h:cE M β v (.e' x)):∃(b off:Nat) (val:Nat→Value),v = .pointer (some ⟨b,off,none⟩)∧(∀j,j<x.cells.length→M b (off+j)=some (val j))∧(∀j,j<x.cells.length→(val j).oneCell'=true)∧
 (∀(j:Nat) c,x.cells[j]? = some c→di M (val j) c):=by
 cases h with|e' b off x val c8 Z h=>exact⟨b,off,val,rfl,c8,Z,h⟩
def vE{k n:Nat}{get:Nat→V}(h:cE M β v (.v (.bS k n get))):∃a cap,v = .slice a n cap∧n≤cap:=by
 rcases tE h with⟨rfl|⟨a,rfl⟩,rfl⟩|⟨b,off,cap,val,rfl,hc,_⟩
 ·exact⟨_,_,rfl,Nat.le_refl _⟩
 ·exact⟨_,_,rfl,Nat.le_refl _⟩
 ·exact⟨_,_,rfl,hc⟩
def addr_add(b off n:Nat):(⟨b,off,none⟩:Addr).add n=⟨b,off+n,none⟩:=by
 unfold Addr.add;split<;>simp_all
def yp{x:V}(hx:x.isAgg=false):x.cells=[x]:=by
 cases x<;>first|rfl|simp [V.isAgg]at hx
def VH{x:V}{val:Nat→Value}(Z:∀j,j<x.cells.length→(val j).oneCell'=true)(h:∀(j:Nat) c,x.cells[j]? = some c→di M (val j) c):
 di M (bif x.isAgg then .agg ⟨(List.range x.cells.length).map val⟩else val 0) x:=by
 cases hx:x.isAgg with
 |false=>
  have:=yp hx
  simpa using h 0 x (by simp [this])
 |true=>
  cases x<;>simp [V.isAgg]at hx
  rename_i cs;refine .agg _ cs (by simp [V.cells]) ?_ ?_
  ·intro u hu;obtain⟨j,hj,rfl⟩:=List.mem_map.1 hu;exact Z j (by simpa using hj)
  ·intro i u c hu hc;simp only [List.getElem?_map,Option.map_eq_some_iff]at hu;obtain⟨j,hj,rfl⟩:=hu
   have:j=i:=by
    rw [List.getElem?_eq_some_iff]at hj;obtain⟨_,h⟩:=hj;simpa using h.symm
   subst this;exact h j c hc
def aeb{t:TypeId}{aU:eS}(r:Row P t aU)(yi:∀b o v,M b o=some v→w.cell? ⟨b,o,none⟩=some v){x:V}(ax:cE M β v (.e' x))(hx:x.isAgg=aU.k.isAgg)(hs:x.cells.length=aU.size):
 ∃u,(Instr.loadAt t v).run P w = .ok u w∧di M u x:=by
 obtain⟨b,off,val,rfl,c8,Z,h⟩:=GN ax;refine⟨_,?_,VH Z h⟩
 have ae:∀j,j<aU.size→w.cell? ((⟨b,off,none⟩:Addr).add j)=some (val j):=λj hj=>by rw [addr_add];exact yi _ _ _ (c8 j (by omega))
 cases ha:x.isAgg with
 |true=>
  rw [ha]at hx;simp [Instr.loadAt,Instr.sureAddr,loadVar,r.yo,←hx,r.run_sizeOf,run_loadCells w ⟨b,off,none⟩ aU.size val ae,hs]
 |false=>
  rw [ha]at hx;have h0:=c8 0 (by rw [yp ha];simp)
  have:=yi _ _ _ h0
  simp [Instr.loadAt,Instr.sureAddr,loadVar,r.yo,←hx,run_load];simp at this
  rw [this]
def VI{t:TypeId}{aU:eS}(r:Row P t aU){b off:Nat}{vs:List Value}{T:TypeId}{f:Nat×Nat}(bJ:w.heap[b]? = some (.cells ⟨vs⟩ T f))(hle:off+aU.size≤vs.length)(ha:aU.k.isAgg=true):
 (Instr.loadAt t (.pointer (some ⟨b,off,none⟩))).run P w = .ok (.agg ⟨(vs.drop off).take aU.size⟩) w:=by
 have hlen:((vs.drop off).take aU.size).length=aU.size:=by simp;omega
 have:=run_loadCells_list (P:=P) w ⟨b,off,none⟩ ((vs.drop off).take aU.size) (λj u hj=>by
  rw [addr_add,cell_of_heap bJ];rw [List.getElem?_take]at hj;split at hj
  ·simpa using hj
  ·cases hj)
 rw [hlen]at this;simp [Instr.loadAt,Instr.sureAddr,loadVar,r.yo,ha,r.run_sizeOf,this]
def Nr{t:TypeId}{aU:eS}(r:Row P t aU){b off:Nat}{u:Value}(hc:w.cell? ⟨b,off,none⟩=some u)(ha:aU.k.isAgg=false):
 (Instr.loadAt t (.pointer (some ⟨b,off,none⟩))).run P w = .ok u w:=by
 simp [Instr.loadAt,Instr.sureAddr,loadVar,r.yo,ha,run_load,hc]
def Ns{t:TypeId}{aU:eS}(r:Row P t aU){cD:List (Nat×TypeId×Nat)}(hk:aU.k = .ch cD):∃gs:Array Field,r.desc = .struct gs∧cD=gs.toList.map λf=>(f.offset,f.type,P.cellsOf f.type):=by
 have:=r.hk
 rw [hk]at this;cases hd:r.desc<;>simp [hd,lN]at this
 exact⟨_,rfl,this.symm⟩
def pW{t:TypeId}{aU:eS}(r:Row P t aU){e:TypeId}(hk:aU.k = .bS e):r.desc = .slice e:=by
 have:=r.hk
 rw [hk]at this;cases hd:r.desc<;>simp [hd,lN]at this
 rw [this]
def qS{t:TypeId}{aU:eS}(r:Row P t aU)(hk:aU.k = .str):r.desc = .string:=by
 have:=r.hk
 rw [hk]at this;cases hd:r.desc<;>simp [hd,lN]at this;rfl
def BP{t:TypeId}{aU:eS}(r:Row P t aU){k:IntKind}(hk:aU.k = .int k):r.desc = .int k:=by
 have:=r.hk
 rw [hk]at this;cases hd:r.desc<;>simp [hd,lN]at this
 rw [this]
def aec{t:TypeId}{aU:eS}(r:Row P t aU){n:Nat}{e:TypeId}(hk:aU.k = .arr n e):r.desc = .array n e:=by
 have:=r.hk
 rw [hk]at this;cases hd:r.desc<;>simp [hd,lN]at this
 rw [this.1,this.2]
def VJ{s:TypeId}{aU:eS}(r:Row P s aU){cD:List (Nat×TypeId×Nat)}(hk:aU.k = .ch cD){f dU h' fG:Nat}(b5:cD[f]? = some (dU,h',fG))(ew:1≤fG)(b off:Nat):
 (Instr.fieldAt s (.pointer (some ⟨b,off,none⟩)) f).run P w = .ok (.pointer (some ⟨b,off+dU,none⟩)) w:=by
 obtain⟨gs,hd,rfl⟩:=Ns r hk;simp only [List.getElem?_map,Option.map_eq_some_iff]at b5;obtain⟨fd,kv,he⟩:=b5;simp only [Prod.mk.injEq]at he;obtain⟨rfl,rfl,rfl⟩:=he;have GO:gs[f]? = some fd:=by simpa using kv
 have hs:(sizeOf fd.type).run P w = .ok (P.cellsOf fd.type) w:=by
  cases hi:P.info? fd.type with
  |none=>simp [Program.cellsOf,hi]at ew
  |some i=>exact Go.run_sizeOf w hi
 have dQ:P.cellsOf fd.type≠0:=by omega
 simp [Instr.fieldAt,r.run_underlying,hd,GO,Instr.sureAddr,fieldPlace,hs,dQ,addr_add]
def VK{s:TypeId}{aU:eS}(r:Row P s aU){cD:List (Nat×TypeId×Nat)}(hk:aU.k = .ch cD){f dU h' fG:Nat}(b5:cD[f]? = some (dU,h',fG)){yq:eS}(r2:Row P h' yq)(vs:List Value)(hle:dU+fG≤vs.length):
 (yq.k.isAgg=true→(Instr.field s (.agg ⟨vs⟩) f).run P w = .ok (.agg ⟨(vs.drop dU).take fG⟩) w)∧
 (yq.k.isAgg=false→∀u,vs[dU]? = some u→(Instr.field s (.agg ⟨vs⟩) f).run P w = .ok u w):=by
 obtain⟨gs,hd,rfl⟩:=Ns r hk;simp only [List.getElem?_map,Option.map_eq_some_iff]at b5;obtain⟨fd,kv,he⟩:=b5;simp only [Prod.mk.injEq]at he;obtain⟨rfl,rfl,rfl⟩:=he;have GO:gs[f]? = some fd:=by simpa using kv
 have ew:=r2.cellsOf;refine⟨λha=>?_,λha u hu=>?_⟩
 ·simp [Instr.field,r.run_underlying,hd,GO,asAgg,part,r2.yo,ha,r2.run_sizeOf,ew,List.extract_eq_take_drop]
 ·simp [Instr.field,r.run_underlying,hd,GO,asAgg,part,r2.yo,ha,hu]
def aed{t:TypeId}{aU:eS}(r:Row P t aU){e:TypeId}(hk:aU.k = .bS e){cr:eS}(d':Row P e cr){k:IntKind}{j:Int}{b off n cap:Nat}(h0:0≤j)(Z:j<n):
 (Instr.indexAt t (.slice (some ⟨b,off,none⟩) n cap) (.int k j)).run P w = .ok (.pointer (some ⟨b,off+j.toNat*cr.size,none⟩)) w:=by
 simp [Instr.indexAt,asIntOf,r.run_underlying,pW r hk,h0,Z,d'.run_sizeOf,addr_add]
def aee{t:TypeId}{aU:eS}(r:Row P t aU)(hk:aU.k = .str){k:IntKind}{j:Int}{l:arY}(h0:0≤j)(Z:j<l.length):
 (Instr.index t (.string ⟨⟨l⟩⟩) (.int k j)).run P w = .ok (.int .u8 (l.getD j.toNat 0).toNat) w:=by
 have bO:j.toNat<l.length:=by omega
 have GP:j.toNat<(ByteArray.mk ⟨l⟩).size:=bO;have hs:(ByteArray.mk ⟨l⟩)[j.toNat]? = some l[j.toNat]:=by rw [getElem?_pos (ByteArray.mk ⟨l⟩) j.toNat GP];rfl
 simp [Instr.index,asIntOf,r.run_underlying,qS r hk,h0,hs,List.getElem?_eq_getElem bO]
def GQ(l:arY):(⟨⟨l⟩⟩:ByteArray).toList=l:=by
 rw [ByteArray.toList_eq]
end
section
variable {P:Program} {K:Ctx} {N:Nat} {M:Mem} {β:Nat→Option Nat} {g:dz} {tmps:Array Value} {w:World} {o:Oper} {f:lH} {p:Path} {tt:dT} {co:gL} {ops:List Oper}
def after(g:dz)(f:lH):aO:={env:=hD f.hP g.env,H:=f.hs++g.H,aZ:=g.aZ+f.nx}
def bX(P:Program)(K:Ctx)(M:Mem)(β:Nat→Option Nat)(g:dz)(f:lH)(tmps:Array Value)(v:Value)(w':World):Prop:=
 ∃M' β',M.le M'∧(∀r b,β r=some b→β' r=some b)∧(∀r b,β' r=some b→β r=some b∨(look f.hs r).isSome=true)∧bV P K M' β' (after g f) tmps w'∧
  ∀e,f.e=some e→cE M' β' v e.d∧∀T l0,e.own=some T→nj P K M' β' (after g f) tmps w' l0 v T
def Yields(P:Program)(K:Ctx)(M:Mem)(β:Nat→Option Nat)(g:dz)(f:lH)(o:Oper)(tmps:Array Value)(w:World):Prop:=
 (∃v w',(execOp (Act.eval ⟨tmps,[]⟩) o).run P w = .ok (.value v) w'∧bX P K M β g f tmps v w')∨
 (f.e=none∧∃w',(execOp (Act.eval ⟨tmps,[]⟩) o).run P w = .ok .skip w'∧bX P K M β g f tmps undef w')∨
 (∃fn vs,(execOp (Act.eval ⟨tmps,[]⟩) o).run P w = .ok (.enter fn vs) w∧Calls P fn vs w λe w'=>∃v,e = .returned v∧bX P K M β g f tmps v w')
def fb(h:fX P K N M β g tmps w){v:Value}{d:D}(ai:(execOp (Act.eval ⟨tmps,[]⟩) o).run P w = .ok (.value v) w)(hd:cE M β v d){rs:List fB}{a7:List Prop}:
 Yields P K M β g {e:=some {d},rs,a7} o tmps w:=
 .inl ⟨v,w,ai,M,β,Mem.le_refl _,λ_ _ h=>h,λ_ _ h=>.inl h,h.bF,λe he=>by cases he;exact⟨hd,by simp⟩⟩
def jI(x:Sem Value){v:Value}{w':World}(h:x.run P w = .ok v w'):(do pure (.value (←x)):Sem Next).run P w = .ok (.value v) w':=by
 simp [h]
def GR(h:fX P K N M β g tmps w)(hp:f8 tmps p){x:Operand}(aw:o.op = .move x∨o.op = .assign x){d:D}(hx:rd g.env g.ca p tt o.type x=some d):
 Yields P K M β g {e:=some {d},rs:=g.rs} o tmps w:=
 fb h (v:=(⟨tmps,[]⟩:Act).eval x) (by rcases aw with aw|aw<;>simp [execOp,aw]) (er h hp hx)
def VL(h:fX P K N M β g tmps w)(hp:f8 tmps p){t:Nat}(aw:o.op = .move (.tmp t)∨o.op = .assign (.tmp t)){d:D}(hx:rd g.env g.ca p tt o.type (.tmp t)=some d)
 {s:TypeId} (hs:pP g (.tmp t)=some s) {rs:List fB}:Yields P K M β g {e:=some {d,own:=some s},hP:=[t],rs} o tmps w:=by
 refine .inl ⟨(⟨tmps,[]⟩:Act).eval (.tmp t),w,by rcases aw with aw|aw<;>simp [execOp,aw],M,β,Mem.le_refl _,λ_ _ h=>h,λ_ _ h=>.inl h,?_,λe he=>?_⟩
 ·have:=h.bF.hP [t];exact this
 ·cases he;refine⟨er h hp hx,λT l0 aL=>?_⟩
  cases aL;simp only [pP,Option.bind_eq_some_iff]at hs;obtain⟨e,he,hs⟩:=hs;exact h.bF.hand he hs l0
def aef(h:fX P K N M β g tmps w)(hp:f8 tmps p)(aw:o.op = .assign (.const (.slice none 0 0))){d:D}(hx:rd g.env g.ca p tt o.type (.const (.slice none 0 0))=some d)(s:TypeId):
 Yields P K M β g {e:=some {d,own:=some s},rs:=g.rs} o tmps w:=by
 refine .inl ⟨.slice none 0 0,w,by simp [execOp,aw,Act.eval],M,β,Mem.le_refl _,λ_ _ h=>h,λ_ _ h=>.inl h,h.bF,λe he=>?_⟩
 cases he;exact⟨er (ds:=[]) h hp hx,λT l0 _=>Nk l0 T⟩
def aeg(h:fX P K N M β g tmps w)(hp:f8 tmps p){c:Nat}{a b:Operand}(aw:o.op = .pick (.tmp c) a b){tx BG qO:Bool}(hc:rd g.env g.ca p tt o.type (.tmp c)=some (.v (.bool tx)))
 (ha:rd g.env g.ca ((c,true)::p) tt o.type a=some (.v (.bool BG))) (hb:rd g.env g.ca ((c,false)::p) tt o.type b=some (.v (.bool qO))):
 Yields P K M β g {e:=some {d:=.v (.bool (bif tx then BG else qO))},rs:=g.rs} o tmps w:=by
 have ku:(⟨tmps,[]⟩:Act).eval (.tmp c) = .bool tx:=vD (er h hp hc);have VM:tmps.getD c undef = .bool tx:=ku;cases tx with
 |true=>
  refine fb h (v:=(⟨tmps,[]⟩:Act).eval a) (by simp [execOp,aw,ku,asBool]) ?_
  exact er h (p:=(c,true)::p) (λx hx=>by rcases List.mem_cons.1 hx with rfl|hx;exact VM;exact hp x hx) ha
 |false=>
  refine fb h (v:=(⟨tmps,[]⟩:Act).eval b) (by simp [execOp,aw,ku,asBool]) ?_
  exact er h (p:=(c,false)::p) (λx hx=>by rcases List.mem_cons.1 hx with rfl|hx;exact VM;exact hp x hx) hb
def bV.Nt{st:aO}(h:bV P K M β st tmps w)(o:Nat):M w.heap.size o=none:=by
 cases hm:M w.heap.size o with
 |none=>rfl
 |some v=>have:=lt_of_cell (h.mem _ _ _ hm);omega
def VN(h:fX P K N M β g tmps w){vs:List Value}{T:TypeId}{cs:List a'}(hlen:vs.length=cs.length)(jp:∀v,v∈vs→v.oneCell'=true)(hlies:lL P T vs.length cs)
 (ax:∀(i:Nat) v e,vs[i]? = some v→cs[i]? = some e→cE M β v e.d∧∀T,e.own=some T→v = .slice none 0 0)
 (ai:(execOp (Act.eval ⟨tmps,[]⟩) o).run P w = .ok (.value (.pointer (some ⟨w.heap.size,0,none⟩))) {w with heap:=w.heap.push (.cells ⟨vs⟩ T (0,0))}) {id nx:Nat} (hid:n8 g o=some (id,nx)):
 Yields P K M β g {e:=some {d:=.ptr id 0},hs:=[(id,cs)],nx,rs:=g.rs} o tmps w:=by
 have b5:(∀b,β id≠some b)∧id<g.aZ+nx:=by
  unfold n8 at hid;split at hid
  ·rename_i aqw ae;rw [Bool.cond_eq_ite]at hid;split at hid<;>cases hid
   rename_i hc;simp only [Bool.and_eq_true,Option.isNone_iff_eq_none,Nat.blt_eq]at hc;rw [Option.bind_eq_some_iff]at ae;obtain⟨s,_,ae⟩:=ae;exact⟨h.fresh s _ ae hc.1,by omega⟩
  ·cases hid;exact⟨λb hb=>by have:=h.bF.lt _ b hb;simp at this,by omega⟩
 refine .inl ⟨_,_,ai,M,_,Mem.le_refl _,?_,?_,h.bF.adY (n':=g.aZ+nx) b5.1 b5.2 (by simp) (T:=T) hlen jp hlies ax,λe he=>?_⟩
 ·intro r b hb;have dQ:r≠id:=λe=>b5.1 b (e ▸ hb)
  simp [dQ,hb]
 ·intro r b hb;by_cases dQ:r=id
  ·exact .inr (by simp [ee,dQ])
  ·simp [dQ]at hb;exact .inl hb
 ·cases he;exact⟨.ptr _ _ _ (by simp),by simp⟩
def VO{α:Type}:∀(l:List α) (n i:Nat),(cZ n l)[i]? = (l[i]?).map (n+i,·)
 |[],n,i=>by simp [cZ]
 |x::l,n,0=>by simp [cZ]
 |x::l,n,i+1=>by simp [cZ,VO l (n+1) i];congr 1;funext;congr 1;omega
def VP{α:Type}:∀(l:List α) (n:Nat),(cZ n l).length=l.length
 |[],n=>rfl
 |x::l,n=>by simp [cZ,VP l (n+1)]
def VQ{x:V}{t:Option TypeId}{T:TypeId}(h:GD x t=some T):∃k n get,x = .bS k n get:=by
 cases x<;>simp [GD]at h;exact⟨_,_,_,rfl⟩
def VR(jT:List (Nat×TypeId))(id i:Nat)(x:V):BE jT id i x = .v x∨(x = .eC∧∃u,BE jT id i x = .cA id i u∧(i,u)∈jT):=by
 unfold BE;split
 ·split
  ·rename_i y ck;right
   have Z:=List.find?_some ck;have ab:=List.mem_of_find?_eq_some ck;obtain⟨j,u⟩:=y;obtain rfl:j=i:=by simpa using Z
   exact⟨rfl,u,rfl,ab⟩
  ·exact .inl rfl
 ·exact .inl rfl
def aeh{t:TypeId}{id:Nat}{z:List a'}(h:GE tt t id=some z):∃aU,look tt t=some aU∧z.length=aU.zero.length∧
 ∀(i:Nat) e,z[i]? = some e→∃x,aU.zero[i]? = some x∧(e.d = .v x∨(x = .eC∧∃u,e.d = .cA id i u∧(i,u)∈aU.jT))∧∀T,e.own=some T→∃k n get,x = .bS k n get:=by
 unfold GE at h;split at h<;>simp at h
 ·rename_i e fG kO zero ib ae;subst h;refine⟨_,ae,by simp,λi bp he=>?_⟩
  simp only [List.getElem?_map,Option.map_eq_some_iff]at he;obtain⟨x,hx,rfl⟩:=he;exact⟨x,hx,.inl rfl,λT aL=>VQ aL⟩
 ·rename_i cD fG kO zero ib ae;subst h;refine⟨_,ae,by simp [VP],λi bp he=>?_⟩
  simp only [List.getElem?_map,Option.map_eq_some_iff,VO]at he;obtain⟨_,⟨x,hx,rfl⟩,rfl⟩:=he;simp only [Nat.zero_add];exact⟨x,hx,VR ib id i x,λT aL=>VQ aL⟩
 ·rename_i k fG kO zero ib _ _ ae;subst h;refine⟨_,ae,by simp,λi bp he=>?_⟩
  simp only [List.getElem?_map,Option.map_eq_some_iff]at he;obtain⟨x,hx,rfl⟩:=he;exact⟨x,hx,.inl rfl,by simp⟩
def aei(h:fX P K N M β g tmps w)(cF:fH P tt=true){t:TypeId}(aw:o.op = .alloc t){z:List a'}{id nx:Nat}(cX:GE tt t id=some z)(hid:n8 g o=some (id,nx)):
 Yields P K M β g {e:=some {d:=.ptr id 0},hs:=[(id,z)],nx,rs:=g.rs} o tmps w:=by
 obtain⟨aU,ae,hlen,VS⟩:=aeh cX;obtain⟨r⟩:=eO cF ae;obtain⟨Z,ab,aq⟩:=yn (M:=M) r.BO;refine VN h (vs:=r.z.cells.toList) (T:=t) (by omega) ab (λe he q off u hd=>?_) (λi v e ax he=>?_) ?_ hid
 ·obtain⟨i,hi,rfl⟩:=List.getElem_of_mem he;obtain⟨x,hx,kP,_⟩:=VS i z[i] (List.getElem?_eq_getElem hi);rcases kP with kP|⟨_,aqx,kP,hm⟩
  ·rw [kP]at hd;cases hd
  ·rw [kP]at hd;cases hd;have:=List.all_eq_true.1 r.jT _ hm
   have ew:=r.Np;rw [show r.z.cells.toList.length=aU.size by omega]
   exact this
 ·obtain⟨x,hx,hd,gt⟩:=VS i e he;obtain⟨aN,bn⟩:=aq i v x ax hx
  refine⟨by
   rcases hd with hd|⟨rfl,u,hd,_⟩
   ·rw [hd];exact .v _ _ aN
   ·rw [hd];cases aN;exact .l6 _ _ _,λT aL=>?_⟩
  obtain⟨k,n,get,rfl⟩:=gt T aL;unfold vA at bn;split at bn<;>simp_all
 ·simp [execOp,aw,Instr.alloc,r.GL,newVar,newRow]
def Nu(tt:dT)(aU:eS)(id:Nat):∀(l:List D) (i j:Nat),(qN tt aU id i l)[j]? = (l[j]?).map (yf tt aU id (i+j))
 |[],i,j=>by simp [qN]
 |d::l,i,0=>by simp [qN]
 |d::l,i,j+1=>by
  simp only [qN,List.getElem?_cons_succ];rw [Nu tt aU id l (i+1) j,show i+1+j=i+(j+1)by omega]
def Nv(tt:dT)(aU:eS)(id:Nat):∀(l:List D) (i:Nat),(qN tt aU id i l).length=l.length
 |[],i=>rfl
 |d::l,i=>by simp only [qN,List.length_cons,Nv tt aU id l (i+1)]
def VT{M:Mem}{β:Nat→Option Nat}(tt:dT)(aU:eS)(id i:Nat)(d:D)(tF:∀r o u,d ≠ .cA r o u){v:Value}(h:cE M β v d):
 cE M β v (yf tt aU id i d).d∧(∀T,(yf tt aU id i d).own=some T→v = .slice none 0 0)∧∀r o u,(yf tt aU id i d).d = .cA r o u→(o,u)∈aU.jT:=by
 unfold yf;split
 ·rcases VR aU.jT id i .eC with Z|⟨_,u,Z,ab⟩
  ·simp only [Z];exact⟨h,(λT aL=>by cases aL),(λr o u e=>by cases e)⟩
  ·simp only [Z]
   cases h with|v u x hx=>cases hx with
    |eC=>exact⟨.l6 _ _ _,(λT aL=>by cases aL),(λr o u e=>by cases e;exact ab)⟩
 ·split
  ·cases h with|v u x hx=>cases hx with
    |oW=>exact⟨.v _ _ (.mP _ _),λ_ _=>rfl,λr o u e=>by cases e⟩
  ·exact⟨h,(λT aL=>by cases aL),(λr o u e=>by cases e)⟩
 ·exact⟨h,(λT aL=>by cases aL),λr o u e=>absurd e (tF r o u)⟩
def aej(h:fX P K N M β g tmps w)(hp:f8 tmps p){t:TypeId}{x:Operand}(aw:o.op = .box t x){d:D}(hx:rd g.env g.ca p tt o.type x=some d)(aA:rR d=false)(tF:tw (cellsD d)=true)(cF:fH P tt=true){aU:eS}(ae:look tt t=some aU)(ew:(cellsD d).length=aU.size){id nx:Nat}(hid:n8 g o=some (id,nx)):
 Yields P K M β g {e:=some {d:=.ptr id 0},hs:=[(id,qN tt aU id 0 (cellsD d))],nx,rs:=g.rs} o tmps w:=by
 obtain⟨r⟩:=eO cF ae;obtain⟨Z,ab,aq⟩:=(er (ds:=[]) h hp hx).cells aA;refine VN h (vs:=((⟨tmps,[]⟩:Act).eval x).cells.toList) (T:=t) (by rw [Nv];simpa using Z) ab (λe he q off u hd=>?_) (λi v e ax he=>?_) ?_ hid
 ·obtain⟨i,hi,rfl⟩:=List.getElem_of_mem he;have hg:(qN tt aU id 0 (cellsD d))[i]? = some _:=List.getElem?_eq_getElem hi;rw [Nu,Option.map_eq_some_iff]at hg;obtain⟨c,hc,Nw⟩:=hg;rw [←Nw]at hd;have Nx:i<((⟨tmps,[]⟩:Act).eval x).cells.toList.length:=by rw [Nv]at hi;omega
  have:=(VT tt aU id (0+i) c (GG tF c (List.mem_of_getElem? hc)) (aq i _ c (List.getElem?_eq_getElem Nx) hc)).2.2 q off u hd
  have hb:=List.all_eq_true.1 r.jT _ this;rw [Z,ew];exact hb
 ·rw [Nu,Option.map_eq_some_iff]at he;obtain⟨c,hc,rfl⟩:=he;obtain⟨g1,g2,_⟩:=VT tt aU id (0+i) c (GG tF c (List.mem_of_getElem? hc)) (aq i v c ax hc);exact⟨g1,g2⟩
 ·simp [execOp,aw,Instr.box,newVar,newRow]
end
def r6{α:Type}:∀(cs:List α) (off:Nat) (xs:List α),off+xs.length≤cs.length→(setAt cs off xs).length=cs.length∧∀(i:Nat),(setAt cs off xs)[i]? = if off≤i∧i<off+xs.length then xs[i-off]? else cs[i]?
 |[],0,[],_=>by simp [setAt]
 |[],0,x::xs,h=>by simp at h
 |[],n+1,xs,h=>by simp at h
 |c::cs,0,[],_=>by
  refine⟨by simp [setAt],λi=>?_⟩
  simp only [setAt,List.length_nil];rw [if_neg (by omega)]
 |c::cs,0,x::xs,h=>by
  obtain⟨Z,ab⟩:=r6 cs 0 xs (by simp at h ⊢;omega)
  refine⟨by simp [setAt,Z],λi=>?_⟩
  cases i with
  |zero=>simp [setAt]
  |succ i=>
   simp only [setAt,List.getElem?_cons_succ,ab i,Nat.zero_add,List.length_cons];by_cases hi:i<xs.length<;>simp [hi]
 |c::cs,n+1,xs,h=>by
  obtain⟨Z,ab⟩:=r6 cs n xs (by simp at h ⊢;omega)
  refine⟨by simp [setAt,Z],λi=>?_⟩
  cases i with
  |zero=>simp [setAt]
  |succ i=>
   simp only [setAt,List.getElem?_cons_succ,ab i];by_cases hi:n≤i∧i<n+xs.length
   ·rw [if_pos hi,if_pos (by omega)];congr 1;omega
   ·rw [if_neg hi,if_neg (by omega)]
def Ny(off:Nat):∀(l:List Value) (k:Nat) (cs:Array Value),off+k+l.length≤cs.size→
 ((l.zipIdx k).foldl (λcs (x:Value×Nat)=>cs.setIfInBounds (off+x.2) x.1) cs).size=cs.size∧
 ∀(i:Nat),((l.zipIdx k).foldl (λcs (x:Value×Nat)=>cs.setIfInBounds (off+x.2) x.1) cs)[i]? = if off+k≤i∧i<off+k+l.length then l[i-(off+k)]? else cs[i]?
 |[],k,cs,h=>by
  refine⟨rfl,λi=>?_⟩
  simp only [List.zipIdx_nil,List.foldl_nil,List.length_nil];rw [if_neg (by omega)]
 |x::l,k,cs,h=>by
  obtain⟨Z,ab⟩:=Ny off l (k+1) (cs.setIfInBounds (off+k) x) (by simp at h ⊢;omega)
  simp only [List.zipIdx_cons,List.foldl_cons];refine⟨by simpa using Z,λi=>?_⟩
  rw [ab i];simp only [List.length_cons]at h ⊢;by_cases aq:off+(k+1)≤i∧i<off+(k+1)+l.length
  ·rw [if_pos aq,if_pos (by omega)]
   obtain⟨j,rfl⟩:∃j,i=off+k+1+j:=⟨i-(off+k+1),by omega⟩
   rw [show off+k+1+j-(off+(k+1))=j by omega,show off+k+1+j-(off+k)=j+1 by omega]
   simp
  ·rw [if_neg aq];by_cases aN:i=off+k
   ·subst aN;rw [if_pos (by omega)]
    have:off+k<cs.size:=by omega
    simp [this]
   ·rw [if_neg (by omega)]
    rw [Array.getElem?_setIfInBounds_ne (Ne.symm aN)]
section
variable {P:Program} {K:Ctx} {N:Nat} {M:Mem} {β:Nat→Option Nat} {g:dz} {tmps:Array Value} {w:World} {o:Oper} {f:lH} {p:Path} {tt:dT} {co:gL} {ops:List Oper}
structure Cells(M:Mem)(β:Nat→Option Nat)(vs:List Value)(cs:List D):Prop where
 len:vs.length=cs.length
 one:∀v,v∈vs→v.oneCell'=true
 rep:∀(i:Nat) v c,vs[i]? = some v→cs[i]? = some c→cE M β v c
def GS{vs:List Value}(h:∀v,v∈vs→v.oneCell'=true){i:Nat}{v:Value}(hi:vs[i]? = some v):v.oneCell'=true:=h v (List.mem_of_getElem? hi)
def VU{vs:List Value}(h:∀(i:Nat) v,vs[i]? = some v→v.oneCell'=true):∀v,v∈vs→v.oneCell'=true:=λv ax=>by
 obtain⟨i,hi⟩:=List.getElem?_of_mem ax;exact h i v hi
def Cells.set{vs:List Value}{cs:List D}(h:Cells M β vs cs){ws:List Value}{ds:List D}(cN:Cells M β ws ds){off:Nat}(hle:off+ds.length≤cs.length){vs':List Value}(hlen:vs'.length=vs.length)
 (je:∀(i:Nat),vs'[i]? = if off≤i∧i<off+ws.length then ws[i-off]? else vs[i]?):Cells M β vs' (setAt cs off ds):=by
 obtain⟨Z,ab⟩:=r6 cs off ds hle;refine⟨by rw [hlen,Z,h.len],VU λi v ax=>?_,λi v c ax hc=>?_⟩
 ·rw [je i]at ax;split at ax
  ·exact GS cN.one ax
  ·exact GS h.one ax
 ·rw [je i]at ax;rw [ab i]at hc;by_cases hi:off≤i∧i<off+ds.length
  ·rw [if_pos hi]at hc;rw [if_pos (by rw [cN.len];exact hi)]at ax
   exact cN.rep _ v c ax hc
  ·rw [if_neg hi]at hc;rw [if_neg (by rw [cN.len];exact hi)]at ax
   exact h.rep _ v c ax hc
def Nz{place:Nat→Option (Nat×Nat)}:∀{bI:List (Nat×D)} {vs:List (Nat×Value)} {cs cs':List D} {cells:Array Value},vs.length=bI.length→
 (∀(i:Nat) a b,bI[i]? = some a→vs[i]? = some b→a.1=b.1∧cE M β b.2 a.2)→Cells M β cells.toList cs→rS place cs bI=some cs'→
 ∃jW,Instr.fill place cells vs=some jW∧Cells M β jW.toList cs'
 |[],[],cs,cs',cells,_,_,hc,h=>by simp [rS]at h;subst h;exact⟨cells,rfl,hc⟩
 |[],_::_,_,_,_,h,_,_,_=>by simp at h
 |_::_,[],_,_,_,h,_,_,_=>by simp at h
 |(i,d)::bI,(j,v)::vs,cs,cs',cells,hn,ai,hc,h=>by
  obtain⟨r7,hd⟩:=ai 0 (i,d) (j,v) (by simp) (by simp)
  simp only at r7 hd
  subst r7;simp only [rS]at h;split at h
  ·cases h
  ·rename_i off size qT;rw [Bool.cond_eq_ite]at h;split at h
   case isFalse=>cases h
   rename_i hb;simp only [Bool.and_eq_true,Nat.beq_eq,Nat.ble_eq,Bool.not_eq_true']at hb;obtain⟨⟨du,f7⟩,NA⟩:=hb;obtain⟨Z,ab,aq⟩:=hd.cells NA;have ew:cells.size=cs.length:=by simpa using hc.len
   have ev:v.cells.size=size:=by simpa [du]using Z
   have b5:=Ny off v.cells.toList 0 cells (by simp [ev];omega)
   have NB:v.cells.zipIdx.foldl (λcs (x:Value×Nat)=>cs.setIfInBounds (off+x.2) x.1) cells=(v.cells.toList.zipIdx 0).foldl (λcs (x:Value×Nat)=>cs.setIfInBounds (off+x.2) x.1) cells:=by
    rw [←Array.foldl_toList,Array.toList_zipIdx]
   have ku:Cells M β (v.cells.zipIdx.foldl (λcs (x:Value×Nat)=>cs.setIfInBounds (off+x.2) x.1) cells).toList (setAt cs off (cellsD d)):=by
    rw [NB];refine hc.set ⟨Z,ab,aq⟩ (by omega) (by simpa using b5.1) (λk=>?_)
    have:=b5.2 k
    simp only [Nat.add_zero]at this;rw [Array.getElem?_toList,this];simp only [Array.getElem?_toList]
   obtain⟨jW,BQ,r8⟩:=Nz (place:=place) (by simpa using hn) (λk a b ha hb=>ai (k+1) a b (by simpa using ha) (by simpa using hb)) ku h
   refine⟨jW,?_,r8⟩
   simp only [Instr.fill,qT];rw [if_neg (by simp;omega)]
   exact BQ
def tG{α dq:Type}{f:α→Option dq}:∀{l:List α} {cQ:List dq},mapM' f l=some cQ→cQ.length=l.length∧∀(i:Nat) a b,l[i]? = some a→cQ[i]? = some b→f a=some b
 |[],cQ,h=>by simp [mapM']at h;subst h;simp
 |x::l,cQ,h=>by
  simp only [mapM']at h;split at h<;>simp at h
  rename_i y ys ck aek;subst h;obtain⟨Z,ab⟩:=tG aek;refine⟨by simp [Z],λi a b ha hb=>?_⟩
  cases i with
  |zero=>simp at ha hb;subst ha;subst hb;exact ck
  |succ i=>simp at ha hb;exact ab i a b ha hb
def Row.VV{t:TypeId}{aU:eS}(r:Row P t aU):Cells M β r.z.cells.toList (aU.zero.map .v):=by
 obtain⟨Z,ab,aq⟩:=yn (M:=M) r.BO;refine⟨by simpa using Z,ab,λi v c ax hc=>?_⟩
 simp only [List.getElem?_map,Option.map_eq_some_iff]at hc;obtain⟨x,hx,rfl⟩:=hc;exact .v _ _ (aq i v x ax hx).1
def ael{M:Mem}{v:Value}{x:V}(h:vA v x=true):di M v (M_ x):=by
 have h0:=(No (M:=M) h).1;unfold vA at h;split at h<;>first|exact h0|skip
 ·rename_i k n g;have:n=0:=by simpa using h
  subst this;exact .oW _ _
 ·cases h
def Row.aem{t:TypeId}{aU:eS}(r:Row P t aU):Cells M β r.z.cells.toList (aU.zero.map λx=>.v (M_ x)):=by
 obtain⟨Z,ab,aq⟩:=yn (M:=M) r.BO;refine⟨by simpa using Z,ab,λi v c ax hc=>?_⟩
 simp only [List.getElem?_map,Option.map_eq_some_iff]at hc;obtain⟨x,hx,rfl⟩:=hc;exact .v _ _ (ael (aq i v x ax hx).2)
def NC(h:fX P K N M β g tmps w)(hp:f8 tmps p){ty:Nat→TypeId}{parts:Array (Nat×Operand)}{bI:List (Nat×D)}(gv:mapM' (fun(x:Nat×Operand)=>(rd g.env g.ca p tt (ty x.1) x.2).map λd=>(x.1,d)) parts.toList=some bI):
 ((parts.map fun(x:Nat×Operand)=>(x.1,(⟨tmps,[]⟩:Act).eval x.2)).toList).length=bI.length∧
 ∀(i:Nat) a b,bI[i]? = some a→(parts.map fun(x:Nat×Operand)=>(x.1,(⟨tmps,[]⟩:Act).eval x.2)).toList[i]? = some b→a.1=b.1∧cE M β b.2 a.2:=by
 obtain⟨Z,ab⟩:=tG gv;refine⟨by simpa using Z.symm,λi a b ha hb=>?_⟩
 simp only [Array.toList_map,List.getElem?_map,Option.map_eq_some_iff]at hb;obtain⟨x,hx,rfl⟩:=hb;have:=ab i x a hx ha
 simp only [Option.map_eq_some_iff]at this;obtain⟨d,hd,rfl⟩:=this;exact⟨rfl,er h hp hd⟩
def run_places{cD:Array Field}{l:List (Nat×TypeId×Nat)}(ae:l=cD.toList.map λf=>(f.offset,f.type,P.cellsOf f.type))(hs:∀f,f∈cD.toList→1≤P.cellsOf f.type):
 (cD.mapM λf=>(do pure (f.offset,←sizeOf f.type):Sem (Nat×Nat))).run P w = .ok (cD.map λf=>(f.offset,P.cellsOf f.type)) w:=by
 obtain⟨mV⟩:=cD;rw [List.mapM_toArray]
 have key:∀(l:List Field),(∀f,f∈l→1≤P.cellsOf f.type)→(l.mapM λf=>(do pure (f.offset,←sizeOf f.type):Sem (Nat×Nat))).run P w = .ok (l.map λf=>(f.offset,P.cellsOf f.type)) w:=by
  intro l;induction l with
  |nil=>intro _;rfl
  |cons f l aR=>
   intro b5;have h0:=b5 f (by simp)
   have Z:(sizeOf f.type).run P w = .ok (P.cellsOf f.type) w:=by
    cases hi:P.info? f.type with
    |none=>simp [Program.cellsOf,hi]at h0
    |some i=>exact Go.run_sizeOf w hi
   simp only [List.mapM_cons,Sem.run_bind,Z,Result.andThen_ok,Sem.run_pure,aR (λf h=>b5 f (by simp [h])),List.map_cons]
 simp only [Sem.run_map,key mV (by simpa using hs),Result.andThen_ok]
 simp
def VW(h:fX P K N M β g tmps w)(hp:f8 tmps p)(cF:fH P tt=true){t:TypeId}{aU:eS}(ae:look tt t=some aU){cD:List (Nat×TypeId×Nat)}(hk:aU.k = .ch cD)(nl:cD.all (λf=>Nat.ble 1 f.2.2)=true)
 {parts:Array (Nat×Operand)} (aw:o.op = .build t parts) {bI:List (Nat×D)} (gv:mapM' (fun(x:Nat×Operand)=>(rd g.env g.ca p tt (rW tt t x.1) x.2).map λd=>(x.1,d)) parts.toList=some bI)
 {zs:List D} (vF:∀(r:Row P t aU),Cells M β r.z.cells.toList zs) {cs:List D} (b5:rS (fun(i:Nat)=>(cD[i]?).map fun(f:Nat×TypeId×Nat)=>(f.1,f.2.2)) zs bI=some cs) {rs:List fB}:
 Yields P K M β g {e:=some {d:=qK cs},rs} o tmps w:=by
 obtain⟨r⟩:=eO cF ae;obtain⟨gs,hd,ND⟩:=Ns r hk;obtain⟨Z,ab⟩:=NC h hp gv;obtain⟨cells,BQ,hc⟩:=Nz Z ab (vF r) b5
 have GT:∀f,f∈gs.toList→1≤P.cellsOf f.type:=by
  intro fd kv;rw [List.all_eq_true]at nl;have:=nl (fd.offset,fd.type,P.cellsOf fd.type) (by rw [ND];exact List.mem_map.2 ⟨fd,kv,rfl⟩)
  simpa using this
 have qT:(fun(i:Nat)=>(gs.map λf=>(f.offset,P.cellsOf f.type))[i]?)=fun(i:Nat)=>(cD[i]?).map fun(f:Nat×TypeId×Nat)=>(f.1,f.2.2):=by
  funext i
  rw [ND];cases hi:gs[i]? <;> simp [hi]
 refine fb h (v:=.agg cells) ?_ ?_
 ·simp only [execOp,aw];refine jI _ ?_;have aen:=run_places (P:=P) (w:=w) ND GT;simp only [Instr.build,Sem.run_bind,r.GL,Result.andThen_ok,r.run_underlying,hd,aen,qT];have:Instr.fill (fun(i:Nat)=>(cD[i]?).map fun(f:Nat×TypeId×Nat)=>(f.1,f.2.2)) r.z.cells (parts.map fun(x:Nat×Operand)=>(x.1,(⟨tmps,[]⟩:Act).eval x.2)).toList=some cells:=BQ
  rw [this];rfl
 ·have:=GM hc.len hc.one hc.rep
  simpa using this
def aeo(h:fX P K N M β g tmps w)(hp:f8 tmps p)(cF:fH P tt=true){t:TypeId}{aU:eS}(ae:look tt t=some aU){n:Nat}{e:TypeId}(hk:aU.k = .arr n e){cr:eS}(eY:look tt e=some cr)
 {parts:Array (Nat×Operand)} (aw:o.op = .build t parts) {bI:List (Nat×D)} (gv:mapM' (fun(x:Nat×Operand)=>(rd g.env g.ca p tt (rW tt t x.1) x.2).map λd=>(x.1,d)) parts.toList=some bI)
 {cs:List D} (b5:rS (λi=>some (i*cr.size,cr.size)) (aU.zero.map .v) bI=some cs):
 Yields P K M β g {e:=some {d:=qK cs},rs:=g.rs} o tmps w:=by
 obtain⟨r⟩:=eO cF ae;obtain⟨r2⟩:=eO cF eY;obtain⟨Z,ab⟩:=NC h hp gv;obtain⟨cells,BQ,hc⟩:=Nz Z ab (r.VV (β:=β)) b5;refine fb h (v:=.agg cells) ?_ ?_
 ·simp only [execOp,aw];refine jI _ ?_;simp only [Instr.build,Sem.run_bind,r.GL,Result.andThen_ok,r.run_underlying,aec r hk,r2.run_sizeOf];have:Instr.fill (λi=>some (i*cr.size,cr.size)) r.z.cells (parts.map fun(x:Nat×Operand)=>(x.1,(⟨tmps,[]⟩:Act).eval x.2)).toList=some cells:=BQ
  rw [this];rfl
 ·have:=GM hc.len hc.one hc.rep
  simpa using this
end
section
variable {P:Program} {K:Ctx} {N:Nat} {M:Mem} {β:Nat→Option Nat} {g:dz} {tmps:Array Value} {w:World} {o:Oper} {f:lH} {p:Path} {tt:dT} {co:gL} {ops:List Oper}
def jq(M:Mem)(b:Nat)(lo:Nat)(vs:List Value):Mem:=λbR o=>if bR=b∧lo≤o∧o<lo+vs.length then vs[o-lo]? else M bR o
def NE{b lo:Nat}{vs:List Value}(h:∀o,lo≤o→M b o=none):M.le (jq M b lo vs):=by
 intro bR o v ax;unfold jq;split
 ·rename_i hc;obtain⟨rfl,Z,ab⟩:=hc;rw [h o Z]at ax;cases ax
 ·exact ax
def GU{b lo:Nat}{vs:List Value}{i:Nat}{v:Value}(h:vs[i]? = some v):jq M b lo vs b (lo+i)=some v:=by
 have hi:i<vs.length:=(List.getElem?_eq_some_iff.1 h).1;unfold jq;rw [if_pos ⟨rfl,by omega,by omega⟩,show lo+i-lo=i by omega,h]
def aep{k:Nat}{n:Nat}{cells:List Value}(ae:cells.length=n*k){i j:Nat}(hi:i<n)(hj:j<k):cells[i*k+j]? = some (cells.getD (i*k+j) undef):=by
 have:i*k+j<cells.length:=by
  have Z:(i+1)*k≤n*k:=Nat.mul_le_mul_right k hi;rw [Nat.add_mul]at Z;omega
 simp [List.getD,List.getElem?_eq_getElem this]
def bV.newRow{st:aO}(h:bV P K M β st tmps w){vs:List Value}{T:TypeId}{n:Nat}{w':World}(hw:w'.heap=w.heap.push (.cells ⟨vs⟩ T (0,0)))(o1:(w'.os,w'.output)=(w.os,w.output):=by rfl):
 bV P K (jq M w.heap.size 0 (vs.take n)) β st tmps w'∧M.le (jq M w.heap.size 0 (vs.take n)):=by
 have c8:M.le (jq M w.heap.size 0 (vs.take n)):=NE λo _=>h.Nt o
 refine⟨h.free w.heap.size ?_ ?_ ?_ ?_ c8 ?_ ?_ o1,c8⟩
 ·cases d9:K.F w.heap.size with
  |none=>rfl
  |some a7=>have:=lt_of_heap (h.frame _ a7 d9).1;omega
 ·intro r cs ai hb;have:=h.BL ai hb;omega
 ·intro l e T ae aL hb;have:=(h.own l e T ae aL).lt hb;omega
 ·intro bR _ b2;rw [hw];simp [Array.getElem?_push,Nat.ne_of_lt b2]
 ·intro bR o b2;simp [jq,b2]
 ·intro o v ax;unfold jq at ax;split at ax
  ·rename_i hc;simp only [Nat.sub_zero]at ax;rw [List.getElem?_take]at ax;split at ax
   ·have:w'.heap[w.heap.size]? = some (.cells ⟨vs⟩ T (0,0)):=by rw [hw];simp
    rw [cell_of_heap this,ax]
   ·cases ax
  ·rw [h.Nt o]at ax;cases ax
def NF{st:aO}(h:bV P K M β st tmps w){l0:Loc}{T:TypeId}{vs:List Value}{T':TypeId}(r9:T'=T){n cap:Nat}{w':World}(hw:w'.heap=w.heap.push (.cells ⟨vs⟩ T' (0,0)))(hn:n≤cap)
 (hcap:cap*P.cellsOf T≤vs.length):nj P K (jq M w.heap.size 0 (vs.take (n*P.cellsOf T))) β st tmps w' l0 (.slice (some ⟨w.heap.size,0,none⟩) n cap) T:=by
 have vG:w'.heap[w.heap.size]? = some (.cells ⟨vs⟩ T' (0,0)):=by rw [hw];simp
 refine⟨.inr ⟨w.heap.size,n,cap,vs,T',rfl,hn,vG,hcap,λo aw=>?_,?_,r9⟩,?_,?_⟩
 ·have hle:n*P.cellsOf T≤vs.length:=Nat.le_trans (Nat.mul_le_mul_right _ hn) hcap;unfold jq;rw [if_neg,h.Nt o]
  rintro ⟨_,_,aq⟩
  simp only [List.length_take]at aq;omega
 ·cases d9:K.F w.heap.size with
  |none=>rfl
  |some a7=>have:=lt_of_heap (h.frame _ a7 d9).1;omega
 ·intro l e pU b ae aL _ hb b2;simp [ia]at hb;subst hb
  have hold:cB tmps w' β l=cB tmps w β l:=by
   cases l with
   |slot s=>rfl
   |cell r i=>
    simp only [aO.at]at ae;cases ai:look st.H r with
    |none=>simp [ai]at ae
    |some cs=>
     obtain⟨df,lb,hF,du,bJ,_⟩:=h.box r cs ai;simp only [cB,du];rw [rZ (w:=w) (by rw [hw];simp [Array.getElem?_push,Nat.ne_of_lt (lt_of_heap bJ)])]
  rw [hold]at b2;have:=(h.own l e pU ae aL).lt b2
  omega
 ·intro b r cs hb ai b2;simp [ia]at hb;subst hb;have:=h.BL ai b2
  omega
def VX{size:Nat}:∀(l:List (Nat×Value)) (m:Nat) (cells:Array Value),(∀(i:Nat) x,l[i]? = some x→x.1=m+i∧x.2.cells.size=size)→(m+l.length)*size≤cells.size→
 ∃jW,Instr.fill (λi=>some (i*size,size)) cells l=some jW∧jW.size=cells.size∧(∀i,i<m*size→jW[i]? = cells[i]?)∧
  ∀(i:Nat) x (j:Nat) u,l[i]? = some x→x.2.cells[j]? = some u→jW[(m+i)*size+j]? = some u
 |[],m,cells,_,_=>⟨cells,rfl,rfl,λ_ _=>rfl,by simp⟩
 |(a,v)::l,m,cells,ae,hle=>by
  obtain⟨ha,ew⟩:=ae 0 (a,v) (by simp)
  simp only [Nat.add_zero]at ha;simp only at ew
  subst ha
  have aqy:a*size+size≤cells.size:=by
   have Z:(a+1)*size≤(a+((a,v)::l).length)*size:=Nat.mul_le_mul_right _ (by simp)
   rw [Nat.add_mul,Nat.one_mul]at Z;omega
  have b5:=Ny (a*size) v.cells.toList 0 cells (by simp [ew];omega)
  have NB:v.cells.zipIdx.foldl (λcs (x:Value×Nat)=>cs.setIfInBounds (a*size+x.2) x.1) cells=(v.cells.toList.zipIdx 0).foldl (λcs (x:Value×Nat)=>cs.setIfInBounds (a*size+x.2) x.1) cells:=by
   rw [←Array.foldl_toList,Array.toList_zipIdx]
  rw [←NB]at b5;generalize kw:v.cells.zipIdx.foldl (λcs (x:Value×Nat)=>cs.setIfInBounds (a*size+x.2) x.1) cells=c1 at b5
  obtain⟨jW,Z,ab,aq,aN⟩:=VX l (a+1) c1 (λi x hx=>by
   obtain⟨Z,ab⟩:=ae (i+1) x (by simpa using hx)
   exact⟨by omega,ab⟩) (by rw [b5.1];simpa [Nat.add_assoc,Nat.add_comm 1]using hle)
  refine⟨jW,?_,by rw [ab,b5.1],λi hi=>?_,λi x j u hx hu=>?_⟩
  ·simp only [Instr.fill];rw [if_neg (by simp [ew];omega)]
   have:v.cells.zipIdx.foldl (λcs (c,j)=>cs.setIfInBounds (a*size+j) c) cells=c1:=kw
   rw [this];exact Z
  ·rw [aq i (by rw [Nat.add_mul];omega),b5.2 i,if_neg (by omega)]
  ·cases i with
   |zero=>
    simp at hx;subst hx
    simp only at hu
    have hj:j<size:=by rw [←ew];exact(Array.getElem?_eq_some_iff.1 hu).1
    rw [Nat.add_zero,aq _ (by rw [Nat.add_mul,Nat.one_mul];omega),b5.2,if_pos (by simp [ew];omega)]
    simpa using hu
   |succ i=>
    have:=aN i x j u (by simpa using hx) hu
    rw [show a+(i+1)=a+1+i by omega];exact this
def VY{VZ:Bool}{size:Nat}:∀{bI:List (Nat×D)} {n:Nat} {xs:List V},elems VZ size n bI=some xs→xs.length=bI.length∧
 ∀(i:Nat) y x,bI[i]? = some y→xs[i]? = some x→y=(n+i,.v x)∧x.cells.length=size∧x.isAgg=VZ
 |[],n,xs,h=>by simp [elems]at h;subst h;simp
 |(j,d)::bI,n,xs,h=>by
  cases d<;>simp only [elems]at h<;>try cases h
  rename_i r';rw [Bool.cond_eq_ite]at h;split at h
  case isFalse=>cases h
  rename_i hb;simp only [Bool.and_eq_true,Nat.beq_eq,beq_iff_eq]at hb;obtain⟨⟨du,f7⟩,NA⟩:=hb;simp only [Option.map_eq_some_iff]at h;obtain⟨ys,ck,rfl⟩:=h;obtain⟨Z,ab⟩:=VY ck;refine⟨by simp [Z],λi y x hi hx=>?_⟩
  cases i with
  |zero=>simp at hi hx;subst hi;subst hx;exact⟨by simp [du],f7,NA⟩
  |succ i=>
   simp at hi hx
   obtain⟨aq,aN⟩:=ab i y x hi hx;exact⟨by rw [aq];simp;omega,aN⟩
def aeq(h:fX P K N M β g tmps w)(hp:f8 tmps p)(cF:fH P tt=true){t e:TypeId}{aU cr:eS}(ae:look tt t=some aU)(hk:aU.k = .bS e)(eY:look tt e=some cr){len:Nat}
 {parts:Array (Nat×Operand)} (aw:o.op = .buildSlice t len parts) {bI:List (Nat×D)} (gv:mapM' (fun(x:Nat×Operand)=>(rd g.env g.ca p tt (rW tt t x.1) x.2).map λd=>(x.1,d)) parts.toList=some bI)
 {xs:List V} (hx:elems cr.k.isAgg cr.size 0 bI=some xs) (hlen:xs.length=len) (_hs:1≤cr.size) (hb:len*cr.size≤16777216) {x:V} (ax:hC (.bS cr.size len λi=>xs.getD i .eC) x) {rs:List fB} {a7:List Prop}:
 Yields P K M β g {e:=some {d:=.v x,own:=some e},rs,a7} o tmps w:=by
 obtain⟨r⟩:=eO cF ae;obtain⟨d'⟩:=eO cF eY;obtain⟨Z,ab⟩:=NC h hp gv;obtain⟨qU,mw⟩:=VY hx;generalize r_:(parts.map fun(x:Nat×Operand)=>(x.1,(⟨tmps,[]⟩:Act).eval x.2))=pa at Z ab
 generalize nm:pa.toList=vs at Z ab
 have qT:vs.length=len:=by omega
 have iv:∀(i:Nat) b,vs[i]? = some b→∃x,xs[i]? = some x∧b.1=i∧di M b.2 x∧x.cells.length=cr.size:=by
  intro i b hi;have Ng:i<vs.length:=(List.getElem?_eq_some_iff.1 hi).1;have ha:bI[i]? = some bI[i]:=List.getElem?_eq_getElem (by omega)
  have mW:xs[i]? = some xs[i]:=List.getElem?_eq_getElem (by omega)
  obtain⟨aq,aN,_⟩:=mw i _ _ ha mW;obtain⟨bn,cd⟩:=ab i _ b ha hi;rw [aq]at bn cd;exact⟨_,mW,by simpa using bn.symm,oc cd,aN⟩
 have r8:∀(i:Nat) b,vs[i]? = some b→∃x,xs[i]? = some x∧b.1=i∧b.2.cells.size=cr.size∧(∀u,u∈b.2.cells.toList→u.oneCell'=true)∧∀(j:Nat) u c,b.2.cells.toList[j]? = some u→x.cells[j]? = some c→di M u c:=by
  intro i b hi;obtain⟨x,aq,aN,bn,cd⟩:=iv i b hi;obtain⟨ep,ek,iG⟩:=(cE.v (β:=β) _ _ bn).cells rfl;refine⟨x,aq,aN,by simp [cellsD]at ep;omega,ek,λj u c hu hc=>?_⟩
  exact oc (iG j u (.v c) hu (by simp [cellsD,hc]))
 obtain⟨jW,yr,qV,aqz,aer⟩:=VX (size:=cr.size) vs 0 ((Array.range (len*cr.size)).map λi=>d'.z.cells[i % d'.z.cells.size]!) (λi x hi=>by
  obtain⟨y,aq,aN,bn,_⟩:=r8 i x hi;exact⟨by omega,bn⟩) (by simp [qT])
 have ew:jW.size=len*cr.size:=by rw [qV];simp
 have je:∀i j,i<len→j<cr.size→∃b u,vs[i]? = some b∧b.2.cells.toList[j]? = some u∧jW.toList[i*cr.size+j]? = some u:=by
  intro i j hi hj;have fa:vs[i]? = some vs[i]:=List.getElem?_eq_getElem (by omega)
  obtain⟨y,aq,aN,bn,_⟩:=r8 i _ fa;have hu:vs[i].2.cells[j]? = some vs[i].2.cells[j]:=Array.getElem?_eq_getElem (by omega)
  refine⟨vs[i],vs[i].2.cells[j],fa,(Array.getElem?_toList ..).trans hu,?_⟩
  have:=aer i _ j _ fa hu
  simpa using this
 have fi:(execOp (Act.eval ⟨tmps,[]⟩) o).run P w = .ok (.value (.slice (some ⟨w.heap.size,0,none⟩) len len)) {w with heap:=w.heap.push (.cells ⟨jW.toList⟩ e (0,0))}:=by
  simp only [execOp,aw];refine jI _ ?_;have b2:¬ (16777216<len*cr.size):=by omega
  have aes:(parts.map fun(x:Nat×Operand)=>match x with|(i,x)=>(i,(⟨tmps,[]⟩:Act).eval x))=pa:=r_
  rw [aes];simp only [Instr.buildSlice,Sem.run_bind,r.run_underlying,pW r hk,Result.andThen_ok,d'.run_sizeOf];by_cases h0:len*cr.size=0
  ·have cc:∀f:Nat→Value,(Array.range (len*cr.size)).map f = #[]:=by intro f;rw [h0];simp
   rw [cc]at yr;have e1:∀f:Nat→Value,(Array.range 0).map f = #[]:=by intro f;simp
   simp [h0,nm,e1,yr,newRow]
  ·simp [h0,b2,d'.GL,nm,yr,newRow]
 obtain⟨cT,hle⟩:=h.bF.newRow (w':={w with heap:=w.heap.push (.cells ⟨jW.toList⟩ e (0,0))}) (T:=e) (vs:=jW.toList) (n:=len*cr.size) rfl;have BR:jW.toList.take (len*cr.size)=jW.toList:=List.take_of_length_le (by simp [ew])
 refine .inl ⟨_,_,fi,_,β,hle,λ_ _ h=>h,λ_ _ h=>.inl h,cT,λe1 he=>?_⟩
 cases he;refine⟨.v _ _ (ax _ _ (.bS _ 0 cr.size len len _ (λi j=>jW.toList.getD (i*cr.size+j) undef) (Nat.le_refl _) ?_ ?_ ?_ ?_)),λT l0 aL=>?_⟩
 ·intro i hi;have mW:xs[i]? = some xs[i]:=List.getElem?_eq_getElem (by omega)
  have ha:bI[i]? = some bI[i]:=List.getElem?_eq_getElem (by omega)
  simp only [List.getD,mW,Option.getD_some];exact(mw i _ _ ha mW).2.1
 ·intro i j hi hj;obtain⟨b,u,_,_,hu⟩:=je i j hi hj;rw [BR,Nat.zero_add];have:=GU (M:=M) (b:=w.heap.size) (lo:=0) hu
  simpa [List.getD,hu]using this
 ·intro i j hi hj;obtain⟨b,u,du,NG,hu⟩:=je i j hi hj;obtain⟨y,_,_,_,cd,_⟩:=r8 i b du;simp only [List.getD,hu,Option.getD_some];exact GS cd NG
 ·intro i j c hi hc;have mW:xs[i]? = some xs[i]:=List.getElem?_eq_getElem (by omega)
  simp only [List.getD,mW,Option.getD_some]at hc
  have hj:j<cr.size:=by
   have ha:bI[i]? = some bI[i]:=List.getElem?_eq_getElem (by omega)
   rw [←(mw i _ _ ha mW).2.1];exact(List.getElem?_eq_some_iff.1 hc).1
  obtain⟨b,u,du,NG,hu⟩:=je i j hi hj;obtain⟨y,ck,_,_,_,ep⟩:=r8 i b du;rw [mW]at ck;cases ck;simp only [List.getD,hu,Option.getD_some];exact(ep j u c NG hc).mono hle
 ·cases aL;have:=NF (l0:=l0) (T:=e) h.bF (vs:=jW.toList) (T':=e) (n:=len) (cap:=len) (w':={w with heap:=w.heap.push (.cells ⟨jW.toList⟩ e (0,0))}) rfl rfl (Nat.le_refl _) (by rw [d'.cellsOf];simp [ew])
  rw [d'.cellsOf]at this;exact this
end
section
variable {P:Program} {K:Ctx} {N:Nat} {M:Mem} {β:Nat→Option Nat} {g:dz} {tmps:Array Value} {w:World} {o:Oper} {f:lH} {p:Path} {tt:dT} {co:gL} {ops:List Oper}
def aet(h:fX P K N M β g tmps w)(hp:f8 tmps p)(cF:fH P tt=true){t:TypeId}{aU:eS}(ae:look tt t=some aU){a:Operand}(aw:o.op = .load t a){q off:Nat}(ha:rd g.env g.ca p tt o.type a=some (.ptr q off))
 {cs:List a'} (ao:look g.H q=some cs) (jX:aU.k.isAgg=true) (hle:off+aU.size≤cs.length):
 Yields P K M β g {e:=some {d:=qK (((cs.drop off).take aU.size).map (·.d))},rs:=g.rs} o tmps w:=by
 obtain⟨r⟩:=eO cF ae;obtain⟨b,hb,ax⟩:=r5 (er (ds:=[]) h hp ha);obtain⟨bR,vs,T,b2,bJ,hlen,_,_,jp,mR⟩:=h.bF.box q cs ao;rw [hb]at b2;cases b2;have fi:=VI (P:=P) (w:=w) r (off:=off) bJ (by omega) jX
 refine fb h (v:=.agg ⟨(vs.drop off).take aU.size⟩) ?_ ?_
 ·simp only [execOp,aw];rw [ax];exact jI _ fi
 ·refine GM (by simp;omega) (λv ax=>jp v (List.mem_of_mem_drop (List.mem_of_mem_take ax))) (λi v c ax hc=>?_)
  rw [List.getElem?_map,Option.map_eq_some_iff]at hc;obtain⟨e,he,rfl⟩:=hc;rw [List.getElem?_take]at ax he;split at ax
  ·rename_i hi;rw [if_pos hi,List.getElem?_drop]at he;rw [List.getElem?_drop]at ax;have:=h.bF.fC (.cell q (off+i)) e (by simp [aO.at,ao,he])
   simpa [cB,hb,cell_of_heap bJ,ax]using this
  ·cases ax
def aeu(h:fX P K N M β g tmps w)(hp:f8 tmps p)(cF:fH P tt=true){t:TypeId}{aU:eS}(ae:look tt t=some aU){a:Operand}(aw:o.op = .load t a){q off:Nat}(ha:rd g.env g.ca p tt o.type a=some (.ptr q off))
 {cs:List a'} (ao:look g.H q=some cs) (jX:aU.k.isAgg=false) {e:a'} (he:cs[off]? = some e):
 Yields P K M β g {e:=some {d:=e.d},rs:=g.rs} o tmps w:=by
 obtain⟨r⟩:=eO cF ae;obtain⟨b,hb,ax⟩:=r5 (er (ds:=[]) h hp ha);obtain⟨bR,vs,T,v,b2,bJ,fa,cx⟩:=Nf h.bF ao he;rw [hb]at b2;cases b2;have hc:w.cell? ⟨b,off,none⟩=some v:=by rw [cell_of_heap bJ,fa]
 refine fb h (v:=v) ?_ ?_
 ·simp only [execOp,aw];rw [ax];exact jI _ (Nr (P:=P) r hc jX)
 ·have:=h.bF.fC (.cell q off) e (by simp [aO.at,ao,he])
  rwa [cx]at this
def V0{cs:List a'}{off:Nat}{e:a'}(bO:off<cs.length)(i:Nat):(setAt cs off [e])[i]? = if i=off then some e else cs[i]? := by
 rw [(r6 cs off [e] (by simp;omega)).2 i]
 by_cases hi:i=off
 ·subst hi;simp
 ·rw [if_neg (by simp;omega),if_neg hi]
def aev(h:fX P K N M β g tmps w)(hp:f8 tmps p)(cF:fH P tt=true){t:TypeId}{aU:eS}(ae:look tt t=some aU){a:Operand}(aw:o.op = .load t a){q off:Nat}(ha:rd g.env g.ca p tt o.type a=some (.ptr q off))
 {cs:List a'} (ao:look g.H q=some cs) (jX:aU.k.isAgg=false) {e:a'} (he:cs[off]? = some e) {s:TypeId} (hs:e.own=some s) {rs:List fB}:
 Yields P K M β g {e:=some e,hs:=[(q,setAt cs off [{d:=e.d}])],rs} o tmps w:=by
 obtain⟨r⟩:=eO cF ae;obtain⟨b,hb,ax⟩:=r5 (er (ds:=[]) h hp ha);obtain⟨bR,vs,T,v,b2,bJ,fa,cx⟩:=Nf h.bF ao he;rw [hb]at b2;cases b2;have hc:w.cell? ⟨b,off,none⟩=some v:=by rw [cell_of_heap bJ,fa]
 have bO:off<cs.length:=(List.getElem?_eq_some_iff.1 he).1
 have mS:=λl0=>h.bF.VC ao he hs (cs':=setAt cs off [{d:=e.d}]) (r6 cs off _ (by simp;omega)).1 (λj bp hj=>by
  rw [V0 bO]at hj;by_cases NH:j=off
  ·subst NH;simp at hj;subst hj;exact⟨e,he,rfl,by simp⟩
  ·rw [if_neg NH]at hj;exact⟨bp,hj,rfl,λT aL=>⟨aL,NH⟩⟩) l0
 refine .inl ⟨v,w,?_,M,β,Mem.le_refl _,λ_ _ h=>h,λ_ _ h=>.inl h,(mS (.slot 0)).1,λe1 sa=>?_⟩
 ·simp only [execOp,aw];rw [ax];exact jI _ (Nr (P:=P) r hc jX)
 ·cases sa;refine⟨?_,λT l0 aL=>?_⟩
  ·have:=h.bF.fC (.cell q off) e (by simp [aO.at,ao,he])
   rwa [cx]at this
  ·rw [hs]at aL;cases aL;have:=(mS l0).2
   rwa [cx]at this
def aew(h:fX P K N M β g tmps w)(hp:f8 tmps p)(cF:fH P tt=true){t:TypeId}{aU:eS}(ae:look tt t=some aU){a:Operand}(aw:o.op = .load t a){x:V}(ha:rd g.env g.ca p tt o.type a=some (.e' x))
 (jX:x.isAgg=aU.k.isAgg) (hs:x.cells.length=aU.size):Yields P K M β g {e:=some {d:=.v x},rs:=g.rs} o tmps w:=by
 obtain⟨r⟩:=eO cF ae;obtain⟨u,Z,ab⟩:=aeb (w:=w) r h.bF.mem (er (ds:=[]) h hp ha) jX hs;exact fb h (v:=u) (by simp only [execOp,aw];exact jI _ Z) (.v _ _ ab)
def V1{t:TypeId}{aU:eS}(r:Row P t aU){b off:Nat}{vs:List Value}{T:TypeId}(bJ:w.heap[b]? = some (.cells ⟨vs⟩ T (0,0))){v:Value}(hs:v.cells.size=aU.size)(jp:∀u,u∈v.cells.toList→u.oneCell'=true)
 (hle:off+aU.size≤vs.length):(Instr.storeAt t (.pointer (some ⟨b,off,none⟩)) v).run P w = .ok () (w.setRow b (vs.take off++v.cells.toList++vs.drop (off+aU.size)).toArray):=by
 have:=run_storeCells_at P b off T v.cells.toList 0 ⟨vs⟩ w bJ (by simpa [hs]using hle) jp
 simp only [Nat.add_zero,Array.length_toList,hs]at this;simp [Instr.storeAt,Instr.sureAddr,storeVar,r.run_sizeOf,hs,this]
def NI{vs us:List Value}{off:Nat}(hle:off+us.length≤vs.length)(i:Nat):(vs.take off++us++vs.drop (off+us.length))[i]? = if off≤i∧i<off+us.length then us[i-off]? else vs[i]? := by
 have aA:(vs.take off).length=off:=by simp;omega
 by_cases Z:i<off
 ·rw [if_neg (by omega),List.append_assoc,List.getElem?_append_left (by omega),List.getElem?_take,if_pos Z]
 ·by_cases ab:i<off+us.length
  ·rw [if_pos (by omega),List.append_assoc,List.getElem?_append_right (by omega),aA,List.getElem?_append_left (by omega)]
  ·rw [if_neg (by omega),List.getElem?_append_right (by simp;omega),List.getElem?_drop]
   congr 1
   simp;omega
def BS{vs us:List Value}{off:Nat}(hle:off+us.length≤vs.length):(vs.take off++us++vs.drop (off+us.length)).length=vs.length:=by
 simp;omega
def V2{vs us:List Value}{off:Nat}(Z:∀v,v∈vs→v.oneCell'=true)(ab:∀v,v∈us→v.oneCell'=true):∀v,v∈vs.take off++us++vs.drop (off+us.length)→v.oneCell'=true:=by
 intro v ax;rcases List.mem_append.1 ax with ax|ax
 ·rcases List.mem_append.1 ax with ax|ax
  ·exact Z v (List.mem_of_mem_take ax)
  ·exact ab v ax
 ·exact Z v (List.mem_of_mem_drop ax)
def V3{v:Value}{t:TypeId}{a x:Operand}(aw:o.op = .store t a x)(hx:(⟨tmps,[]⟩:Act).eval x=v){h1:Value}(ha:(⟨tmps,[]⟩:Act).eval a=h1){w':World}(h:(Instr.storeAt t h1 v).run P w = .ok () w'):
 (execOp (Act.eval ⟨tmps,[]⟩) o).run P w = .ok .skip w':=by
 simp only [execOp,aw,hx,ha];simp [h]
def lL.set{T:TypeId}{n:Nat}{cs ds:List a'}{off:Nat}(h:lL P T n cs)(hn:∀e,e∈ds→∀r o u,e.d ≠ .cA r o u)(hle:off+ds.length≤cs.length):lL P T n (setAt cs off ds):=λe he r o u hd=>by
 obtain⟨i,hi,rfl⟩:=List.getElem_of_mem he;have hg:(setAt cs off ds)[i]? = some (setAt cs off ds)[i]:=List.getElem?_eq_getElem hi;rw [(r6 cs off ds hle).2 i]at hg;split at hg
 ·exact absurd hd (hn _ (List.mem_of_getElem? hg) r o u)
 ·exact h _ (List.mem_of_getElem? hg) r o u hd
def aex(h:fX P K N M β g tmps w)(hp:f8 tmps p)(cF:fH P tt=true){t:TypeId}{aU:eS}(ae:look tt t=some aU){a x:Operand}(aw:o.op = .store t a x){q off:Nat}(ha:rd g.env g.ca p tt o.type a=some (.ptr q off))
 {cs:List a'} (ao:look g.H q=some cs) {d:D} (hx:rd g.env g.ca p tt t x=some d) (aA:rR d=false) (tF:tw (cellsD d)=true) (hs:(cellsD d).length=aU.size) (hle:off+aU.size≤cs.length):
 Yields P K M β g {e:=none,hs:=[(q,setAt cs off ((cellsD d).map λd=>{d}))],rs:=g.rs} o tmps w:=by
 obtain⟨r⟩:=eO cF ae;obtain⟨b,hb,ax⟩:=r5 (er (ds:=[]) h hp ha);obtain⟨bR,vs,T,b2,bJ,hlen,_,_,jp,mR⟩:=h.bF.box q cs ao;rw [hb]at b2;cases b2;obtain⟨Z,ab,aq⟩:=(er (ds:=[]) h hp hx).cells aA;generalize hu:(⟨tmps,[]⟩:Act).eval x=u at Z ab aq
 have V4:u.cells.size=aU.size:=by simp at Z;omega
 have vH:u.cells.toList.length=aU.size:=by simpa using V4
 have fi:=V1 (P:=P) r (off:=off) bJ V4 ab (by omega)
 rw [←vH]at fi;refine .inr (.inl ⟨rfl,_,V3 aw hu ax fi,M,β,Mem.le_refl _,λ_ _ h=>h,λ_ _ h=>.inl h,?_,λe he=>by cases he⟩)
 have yt:=r6 cs off ((cellsD d).map λd=>({d}:a')) (by simp;omega)
 refine h.bF.Nh ao hb bJ (vs':=vs.take off++u.cells.toList++vs.drop (off+u.cells.toList.length)) (by rw [BS (by omega),yt.1,hlen]) (V2 jp ab) (λ_=>by
  rw [BS (by omega)]
  refine mR.set (λe he=>?_) (by simp;omega)
  obtain⟨c,hc,rfl⟩:=List.mem_map.1 he;exact GG tF c hc) yt.1
  (setRow_heap w b _ _ T (0,0) bJ) (λbR dQ=>setRow_other w b bR _ dQ) cs.length (λi v e fa mX=>?_)
 rw [NI (by omega)]at fa
 rw [yt.2]at mX;simp only [List.length_map]at mX;by_cases hi:off≤i∧i<off+aU.size
 ·rw [if_pos (by omega)]at fa
  rw [if_pos (by omega),List.getElem?_map,Option.map_eq_some_iff]at mX
  obtain⟨c,hc,rfl⟩:=mX;exact⟨aq _ v c fa hc,by simp⟩
 ·rw [if_neg (by omega)]at fa
  rw [if_neg (by omega)]at mX
  have aqA:i<cs.length:=(List.getElem?_eq_some_iff.1 mX).1;refine⟨?_,λT aL=>.inl ⟨by omega,⟨e,mX,aL⟩,fa⟩⟩
  have:=h.bF.fC (.cell q i) e (by simp [aO.at,ao,mX])
  simpa [cB,hb,cell_of_heap bJ,fa]using this
def V5(ty:Nat→Option TypeId):∀(l:List a') (n:Nat),(qM ty n l).length=l.length∧∀(i:Nat) bp,(qM ty n l)[i]? = some bp→∃e,l[i]? = some e∧((e.d=bp.d∧∀T,bp.own=some T→e.own=some T)∨∃k g,e.d = .v (.oW k g)∧bp.d = .v (.bS k 0 g))
 |[],n=>by simp [qM]
 |e::l,n=>by
  obtain⟨Z,ab⟩:=V5 ty l (n+1);refine⟨by simp [qM,Z],λi bp he=>?_⟩
  cases i with
  |zero=>
   simp only [qM,List.getElem?_cons_zero,Option.some.injEq]at he;refine⟨e,rfl,?_⟩
   split at he
   ·rename_i k g hd;subst he;exact .inr ⟨k,g,hd,rfl⟩
   ·subst he;exact .inl ⟨rfl,λ_ h=>h⟩
  |succ i=>simp only [qM,List.getElem?_cons_succ]at he ⊢;exact ab i bp he
def aey(h:fX P K N M β g tmps w)(hp:f8 tmps p)(cF:fH P tt=true){t:TypeId}{aU:eS}(ae:look tt t=some aU){a x:Operand}(aw:o.op = .store t a x){q off:Nat}(ha:rd g.env g.ca p tt o.type a=some (.ptr q off))
 {cs:List a'} (ao:look g.H q=some cs) {d:D} (hx:rd g.env g.ca p tt t x=some d) (aA:rR d=false) (tF:tw (cellsD d)=true) (hs:(cellsD d).length=aU.size) (hle:off+aU.size≤cs.length) (ty:Nat→Option TypeId):
 Yields P K M β g {e:=none,hs:=[(q,qM ty 0 (setAt cs off ((cellsD d).map λd=>{d})))],rs:=g.rs} o tmps w:=by
 have up:∀{M':Mem} {β':Nat→Option Nat} {v:Value} {w':World},bX P K M β g {e:=none,hs:=[(q,setAt cs off ((cellsD d).map λd=>{d}))],rs:=g.rs} tmps v w'→
  bX P K M β g {e:=none,hs:=[(q,qM ty 0 (setAt cs off ((cellsD d).map λd=>{d})))],rs:=g.rs} tmps v w':=by
  rintro M' β' v w' ⟨BT,BU,Z,ab,aq,aN,_⟩
  refine⟨BT,BU,Z,ab,λr b hb=>?_,?_,λe he=>by cases he⟩
  ·rcases aq r b hb with bn|bn
   ·exact .inl bn
   ·right
    simp only [ee]at bn ⊢;split at bn
    ·rename_i vI;simp [vI]
    ·cases bn
  ·obtain⟨g1,g2⟩:=V5 ty (setAt cs off ((cellsD d).map λd=>({d}:a'))) 0
   refine aN.adW rfl (λl bp dR=>?_) (λr cs' ai=>?_)
   ·cases l with
    |slot s=>exact⟨bp,dR,.inl ⟨rfl,λ_ h=>h⟩⟩
    |cell r i=>
     simp only [aO.at,after,List.cons_append,List.nil_append,ee]at dR ⊢;by_cases vI:q=r
     ·simp only [vI,if_true,Option.bind_some]at dR ⊢;exact g2 i bp dR
     ·simp only [vI,if_false]at dR ⊢;exact⟨bp,dR,.inl ⟨rfl,λ_ h=>h⟩⟩
   ·simp only [after,List.cons_append,List.nil_append,ee]at ai ⊢;by_cases vI:q=r
    ·simp only [vI,if_true,Option.some.injEq]at ai ⊢;subst ai;exact⟨_,rfl,g1.symm⟩
    ·simp only [vI,if_false]at ai ⊢;exact⟨cs',ai,rfl⟩
 rcases aex h hp cF ae aw ha ao hx aA tF hs hle with⟨v,w',Z,ab⟩|⟨h0,w',Z,ab⟩|⟨fn,vs,Z,ab⟩
 ·exact .inl ⟨v,w',Z,up (M':=M) (β':=β) ab⟩
 ·exact .inr (.inl ⟨h0,w',Z,up (M':=M) (β':=β) ab⟩)
 ·exact .inr (.inr ⟨fn,vs,Z,ab.mono λe w' ⟨v,aq,aN⟩=>⟨v,aq,up (M':=M) (β':=β) aN⟩⟩)
def V6(h:fX P K N M β g tmps w)(hp:f8 tmps p)(cF:fH P tt=true){t:TypeId}{aU:eS}(ae:look tt t=some aU){a x:Operand}(aw:o.op = .store t a x){q off:Nat}(ha:rd g.env g.ca p tt o.type a=some (.ptr q off))
 {cs:List a'} (ao:look g.H q=some cs) {k n:Nat} {get:Nat→V} (hx:rd g.env g.ca p tt t x=some (.v (.bS k n get))) (hs:aU.size=1) (hle:off+aU.size≤cs.length) {s:TypeId} {l:List Nat}
 (gt:nj P K M β {env:=hD l g.env,H:=g.H,aZ:=g.aZ} tmps w (.cell q off) ((⟨tmps,[]⟩:Act).eval x) s):
 Yields P K M β g {e:=none,hP:=l,hs:=[(q,setAt cs off [{d:=.v (.bS k n get),own:=some s}])],rs:=g.rs} o tmps w:=by
 obtain⟨r⟩:=eO cF ae;obtain⟨b,hb,ax⟩:=r5 (er (ds:=[]) h hp ha);have o3:=h.bF.hP l;obtain⟨bR,vs,T,b2,bJ,hlen,_,_,jp,mR⟩:=h.bF.box q cs ao;rw [hb]at b2;cases b2;have lO:=er (ds:=[]) h hp hx;generalize hu:(⟨tmps,[]⟩:Act).eval x=u at lO gt
 have BV:u.cells = #[u]∧u.oneCell'=true:=by
  obtain⟨a,cap,rfl,_⟩:=vE lO;exact⟨rfl,rfl⟩
 have fi:=V1 (P:=P) r (off:=off) bJ (v:=u) (by rw [BV.1,hs];rfl) (by rw [BV.1];simpa using BV.2) (by omega)
 rw [BV.1,hs]at fi;have bO:off<cs.length:=by omega
 refine .inr (.inl ⟨rfl,_,V3 aw hu ax fi,M,β,Mem.le_refl _,λ_ _ h=>h,λ_ _ h=>.inl h,?_,λe he=>by cases he⟩)
 refine o3.Nh (st:={env:=hD l g.env,H:=g.H,aZ:=g.aZ}) ao hb bJ (vs':=vs.take off++[u]++vs.drop (off+1)) (by rw [show off+1=off+[u].length by rfl,BS (by simp;omega),(r6 cs off _ (by simp;omega)).1,hlen])
  (V2 (us:=[u]) jp (by simpa using BV.2)) (λ_=>by
   rw [show off+1=off+[u].length by rfl,BS (by simp;omega)]
   refine mR.set (λe he=>?_) (by simp;omega)
   obtain rfl:=List.mem_singleton.1 he;exact λ_ _ _ e=>by cases e) (r6 cs off _ (by simp;omega)).1 (setRow_heap w b _ _ T (0,0) bJ) (λbR dQ=>setRow_other w b bR _ dQ) off (λi v e fa mX=>?_)
 rw [show off+1=off+[u].length by rfl,NI (by simp;omega)]at fa
 rw [V0 bO]at mX;by_cases hi:i=off
 ·subst hi;simp at fa mX
  subst fa;subst mX;refine⟨lO,λT aL=>.inr ⟨rfl,?_⟩⟩
  cases aL;exact gt
 ·rw [if_neg hi]at mX;rw [if_neg (by simp;omega)]at fa
  refine⟨?_,λT aL=>.inl ⟨hi,⟨e,mX,aL⟩,fa⟩⟩
  have:=h.bF.fC (.cell q i) e (by simp [aO.at,ao,mX])
  simpa [cB,hb,cell_of_heap bJ,fa]using this
end
section
variable {P:Program} {K:Ctx} {N:Nat} {M:Mem} {β:Nat→Option Nat} {g:dz} {tmps:Array Value} {w:World} {o:Oper} {f:lH} {p:Path} {tt:dT} {co:gL} {ops:List Oper}
structure lP(M:Mem)(k m:Nat)(get:Nat→V)(news:List Value):Prop where
 len:news.length=m*k
 hk:∀i,i<m→(get i).cells.length=k
 one:∀u,u∈news→u.oneCell'=true
 rep:∀(i j:Nat) c u,i<m→(get i).cells[j]? = some c→news[i*k+j]? = some u→di M u c
def flat(k m:Nat)(val:Nat→Nat→Value):List Value:=(List.range (m*k)).map λq=>val (q / k) (q % k)
def qW(k m:Nat)(val:Nat→Nat→Value):(flat k m val).length=m*k:=by simp [flat]
def aez{k m:Nat}{val:Nat→Nat→Value}{i j:Nat}(hi:i<m)(hj:j<k):(flat k m val)[i*k+j]? = some (val i j):=by
 have bO:i*k+j<m*k:=by
  have Z:(i+1)*k≤m*k:=Nat.mul_le_mul_right k hi;rw [Nat.add_mul]at Z;omega
 have Z:(i*k+j) / k=i:=by rw [Nat.mul_comm,Nat.mul_add_div (by omega),Nat.div_eq_of_lt hj];omega
 have ab:(i*k+j) % k=j:=by rw [Nat.mul_comm,Nat.mul_add_mod,Nat.mod_eq_of_lt hj]
 simp [flat,bO,Z,ab]
def V7{k m:Nat}{val:Nat→Nat→Value}{q:Nat}{u:Value}(h:(flat k m val)[q]? = some u):q / k<m∧q % k<k∧q=q / k*k+q % k∧u=val (q / k) (q % k):=by
 have ao:q<m*k:=by have:=(List.getElem?_eq_some_iff.1 h).1;rwa [qW]at this
 have hk:0<k:=by
  rcases Nat.eq_zero_or_pos k with rfl|h;· simp at ao
  ·exact h
 refine⟨(Nat.div_lt_iff_lt_mul hk).2 ao,Nat.mod_lt _ hk,(Nat.div_add_mod' q k).symm,?_⟩
 simp [flat,ao]at h;exact h.symm
def NJ{v:Value}{k n:Nat}{get:Nat→V}(h:cE M β v (.v (.bS k n get))):((v = .slice none 0 0∨∃a,v = .slice (some a) 0 0)∧n=0)∨
 ∃(b off cap:Nat) (eP:List Value),v = .slice (some ⟨b,off,none⟩) n cap∧n≤cap∧lP M k n get eP∧∀(q:Nat) u,eP[q]? = some u→M b (off+q)=some u:=by
 rcases tE h with h|⟨b,off,cap,val,rfl,hc,hk,c8,Z,ai⟩
 ·exact .inl h
 ·refine .inr ⟨b,off,cap,flat k n val,rfl,hc,⟨qW k n val,hk,?_,?_⟩,?_⟩
  ·refine VU λq u hu=>?_
   obtain⟨ab,aq,_,rfl⟩:=V7 hu;exact Z _ _ ab aq
  ·intro i j c u hi hc hu;have hj:j<k:=by rw [←hk i hi];exact(List.getElem?_eq_some_iff.1 hc).1
   rw [aez hi hj]at hu;cases hu;exact ai i j c hi hc
  ·intro q u hu;obtain⟨ab,aq,aN,rfl⟩:=V7 hu;have:=c8 _ _ ab aq
   rwa [Nat.add_assoc,←aN]at this
def yu(k:Nat)(get:Nat→V):lP M k 0 get []:=⟨by simp,by simp,by simp,by simp⟩
def lP.app{k n m:Nat}{get mr:Nat→V}{eP news:List Value}(h:lP M k n get eP)(ab:lP M k m mr news):lP M k (n+m) (λi=>bif Nat.blt i n then get i else mr (i-n)) (eP++news):=by
 have hb:∀i,(bif Nat.blt i n then get i else mr (i-n))=if i<n then get i else mr (i-n):=by
  intro i;by_cases hi:i<n
  ·have:Nat.blt i n=true:=by simpa using hi
   simp [this,hi]
  ·have:Nat.blt i n=false:=by rw [Bool.eq_false_iff];simpa using hi
   simp [this,hi]
 refine⟨by simp [h.len,ab.len,Nat.add_mul],λi hi=>?_,λu hu=>?_,λi j c u hi hc hu=>?_⟩
 ·rw [hb];split
  ·exact h.hk i (by assumption)
  ·exact ab.hk _ (by omega)
 ·rcases List.mem_append.1 hu with hu|hu
  ·exact h.one u hu
  ·exact ab.one u hu
 ·rw [hb]at hc;by_cases hin:i<n
  ·rw [if_pos hin]at hc;have hj:j<k:=by rw [←h.hk i hin];exact(List.getElem?_eq_some_iff.1 hc).1
   have bO:i*k+j<eP.length:=by
    rw [h.len];have Z:(i+1)*k≤n*k:=Nat.mul_le_mul_right k hin;rw [Nat.add_mul]at Z;omega
   rw [List.getElem?_append_left bO]at hu;exact h.rep i j c u hin hc hu
  ·rw [if_neg hin]at hc;have aqB:n*k≤i*k:=Nat.mul_le_mul_right k (by omega)
   rw [List.getElem?_append_right (by rw [h.len];omega),h.len]at hu
   have:i*k+j-n*k=(i-n)*k+j:=by rw [Nat.sub_mul];omega
   rw [this]at hu;exact ab.rep (i-n) j c u (by omega) hc hu
def lP.mono{M':Mem}(c8:M.le M'){k n:Nat}{get:Nat→V}{eP:List Value}(h:lP M k n get eP):lP M' k n get eP:=
 ⟨h.len,h.hk,h.one,λi j c u hi hc hu=>(h.rep i j c u hi hc hu).mono c8⟩
def lP.bS{k n cap b off:Nat}{get:Nat→V}{eP:List Value}(h:lP M k n get eP)(hc:n≤cap)(c8:∀(q:Nat) u,eP[q]? = some u→M b (off+q)=some u):
 di M (.slice (some ⟨b,off,none⟩) n cap) (.bS k n get):=by
 have hin:∀i j,i<n→j<k→eP[i*k+j]? = some (eP.getD (i*k+j) undef):=λi j hi hj=>aep h.len hi hj
 refine .bS b off k n cap get (λi j=>eP.getD (i*k+j) undef) hc h.hk (λi j hi hj=>?_) (λi j hi hj=>GS h.one (hin i j hi hj)) (λi j c hi l7=>?_)
 ·rw [Nat.add_assoc];exact c8 _ _ (hin i j hi hj)
 ·have hj:j<k:=by rw [←h.hk i hi];exact(List.getElem?_eq_some_iff.1 l7).1
  exact h.rep i j c _ hi l7 (hin i j hi hj)
def aeA(t hQ ty e:TypeId)(i:TypeInfo)(aA:P.underlying t=some (.slice e))(hi:P.info? e=some i)(b vJ l8:Nat)(x:Value)(n:Nat)(news:List Value)(hs:Src P i.size hQ x n news w)
 (fI:vJ+n≤l8) {vs:List Value} {T:TypeId} (bJ:w.heap[b]? = some (.cells ⟨vs⟩ T (0,0))) (hle:vJ*i.size+news.length≤vs.length):
 (Builtin.append_ #[t,hQ] ty #[.slice (some ⟨b,0,none⟩) vJ l8,x]).run P w = .ok (.slice (some ⟨b,0,none⟩) (vJ+n) l8) (w.setRow b (vs.take (vJ*i.size)++news++vs.drop (vJ*i.size+news.length)).toArray):=by
 have dC:=run_storeCells_at P b (vJ*i.size) T news 0 ⟨vs⟩ w bJ (by simpa using hle) hs.one
 simp only [Nat.add_zero]at dC;rcases hs.kind with⟨bp,hk⟩|hk<;>simp [Builtin.append_,run_underlying aA,run_underlying hk,sizeOf,typeInfo,hi,hs.len,fI,hs.cells,addr_add,dC]
def aeB(t hQ ty e:TypeId)(i:TypeInfo)(aA:P.underlying t=some (.slice e))(hi:P.info? e=some i)(x:Value)(news:List Value)(hs:Src P i.size hQ x 0 news w):
 (Builtin.append_ #[t,hQ] ty #[.slice none 0 0,x]).run P w = .ok (.slice none 0 0) w:=by
 rcases hs.kind with⟨bp,hk⟩|hk<;>simp [Builtin.append_,run_underlying aA,run_underlying hk,sizeOf,typeInfo,hi,hs.len,hs.cells]
def GV{t hQ:TypeId}{a x:Operand}{c:Call}(aw:o.op = .call c)(hc:c.callee = .builtin .append)(e7:c.args.toList=[a,x])(ho:c.argTypes.toList[0]? = some t)(o4:c.argTypes.toList[1]? = some hQ)
 {h1 NK:Value} (ha:(⟨tmps,[]⟩:Act).eval a=h1) (hx:(⟨tmps,[]⟩:Act).eval x=NK) {v:Value} {w':World}
 (h:∀ty,(Builtin.append_ #[t,hQ] ty #[h1,NK]).run P w = .ok v w'):
 (execOp (Act.eval ⟨tmps,[]⟩) o).run P w = .ok (.value v) w':=by
 have vK:c.args = #[a,x]:=by apply Array.ext';simpa using e7
 have NL:∀ty,(Builtin.append_ c.argTypes ty #[h1,NK]).run P w = .ok v w':=by
  intro ty;have h0:c.argTypes[0]? = some t:=by simpa using ho
  have Z:c.argTypes[1]? = some hQ:=by simpa using o4
  have:=h ty
  simp only [Builtin.append_,h0,Z]at this ⊢;exact this
 simp only [execOp,aw,resolve,hc,vK,Sem.run_bind,Sem.run_pure,Result.andThen_ok,invoke,builtin,List.map_toArray,List.map_cons,List.map_nil,ha,hx];simp [NL]
def aeC(h:fX P K N M β g tmps w)(hp:f8 tmps p)(cF:fH P tt=true){t hQ e:TypeId}{aU cr:eS}(ae:look tt t=some aU)(hk:aU.k = .bS e)(eY:look tt e=some cr){s:Nat}{x:Operand}{c:Call}
 (aw:o.op = .call c) (hc:c.callee = .builtin .append) (e7:c.args.toList=[.tmp s,x]) (ho:c.argTypes.toList[0]? = some t) (o4:c.argTypes.toList[1]? = some hQ)
 {n m:Nat} {get mr:Nat→V} (hs:rd g.env g.ca p tt o.type (.tmp s)=some (.full cr.size n get)) (BW:1≤cr.bytes) (hm:1≤m)
 {news:List Value} (jY:Src P cr.size hQ ((⟨tmps,[]⟩:Act).eval x) m news w) (l9:lP M cr.size m mr news) (fI:(n+m)*cr.bytes≤140737488355328)
 {y:V} (ck:hC (.bS cr.size (n+m) λi=>bif Nat.blt i n then get i else mr (i-n)) y) {rs:List fB} {a7:List Prop}:
 Yields P K M β g {e:=some {d:=.v y,own:=some e},hP:=[s],rs,a7} o tmps w:=by
 obtain⟨r⟩:=eO cF ae;obtain⟨d'⟩:=eO cF eY;have o3:=h.bF.hP [s];have eZ:=er (ds:=[]) h hp hs;have BX:P.underlying t=some (.slice e):=by rw [r.hd,pW r hk]
 have vL:(⟨tmps,[]⟩:Act).eval (.tmp s)=tmps.getD s undef:=rfl;rw [vL]at eZ
 have pX:∃base,tmps.getD s undef = .slice base n n∧di M (.slice base n n) (.bS cr.size n get):=by
  generalize tmps.getD s undef=h1 at eZ
  cases eZ with
  |full base k n get h=>exact⟨base,rfl,h⟩
 obtain⟨base,ax,gR⟩:=pX;have bO:n<n+m:=by omega
 have vM:∃eP:List Value,lP M cr.size n get eP∧∀w':World,w'.heap=w.heap→(Builtin.firstCells cr.size n (.slice base n n)).run P w' = .ok eP.toArray w':=by
  rcases NJ (cE.v _ _ gR:cE M β _ _) with⟨tH|⟨a,tH⟩,kx⟩|⟨b,off,cap,eP,tH,hcap,holds,hold⟩
  ·simp only [Value.slice.injEq]at tH;obtain⟨rfl,rfl,_⟩:=tH;exact⟨[],yu _ _,λw' _=>run_firstCells_none w' cr.size 0 0 0⟩
  ·simp only [Value.slice.injEq]at tH;obtain⟨rfl,rfl,_⟩:=tH;refine⟨[],yu _ _,λw' oa=>?_⟩
   exact run_firstCells_some (P:=P) w' cr.size 0 a 0 0 [] (by simp) (λj u hj=>by simp at hj)
  ·simp only [Value.slice.injEq]at tH;obtain⟨rfl,_,rfl⟩:=tH;refine⟨eP,holds,λw' oa=>?_⟩
   refine run_firstCells_some (P:=P) w' cr.size n ⟨b,off,none⟩ n n eP (by rw [holds.len]) (λj u hj=>?_)
   rw [addr_add,rZ (w:=w) (by rw [oa])]
   exact h.bF.mem _ _ _ (hold j u hj)
 obtain⟨eP,holds,vM⟩:=vM
 have NM:((n+m:Nat):Int)≤9223372036854775807:=by
  have:n+m≤(n+m)*cr.bytes:=Nat.le_mul_of_pos_right _ BW
  omega
 have NN:=growslice_fits (need:=n+m) (old:=n) (bytes:=cr.bytes) bO fI;have hcap:=grownCap_ge w (n+m) n e;have sb:=holds.app l9
 have vN:d'.z.cells.size=cr.size:=by
  obtain⟨ni,_⟩:=yn (M:=M) d'.BO;have:=d'.Np
  simp at ni;omega
 generalize vF:(Builtin.zeroCells d'.z.cells (grownCap w (n+m) n e-(n+m))).toList=zs
 have NO:Builtin.zeroCells d'.z.cells (grownCap w (n+m) n e-(n+m))=zs.toArray:=by rw [←vF]
 have NP:zs.length=(grownCap w (n+m) n e-(n+m))*cr.size:=by
  rw [←vF];simp [Builtin.zeroCells,vN]
 have fi:∀ty,(Builtin.append_ #[t,hQ] ty #[tmps.getD s undef,(⟨tmps,[]⟩:Act).eval x]).run P w =
  .ok (.slice (some ⟨w.heap.size,0,none⟩) (n+m) (grownCap w (n+m) n e)) (w.drew.alloc (.cells ⟨eP++news++zs⟩ e (0,0))):=by
  intro ty;have:=run_append_grow_src (P:=P) w t hQ ty e d'.info d'.z BX d'.hi d'.cX base n n eP (by rw [d'.size];exact vM w.drew rfl) _ m news (by rw [d'.size];exact jY) bO NM (by rw [d'.bytes];exact NN)
  rw [ax,this,NO];simp
 have oa:(w.drew.alloc (.cells ⟨eP++news++zs⟩ e (0,0))).heap=w.heap.push (.cells ⟨eP++news++zs⟩ e (0,0)):=rfl
 have NQ:(eP++news++zs).length=grownCap w (n+m) n e*cr.size:=by
  rw [List.length_append,sb.len,NP,←Nat.add_mul];congr 1;omega
 obtain⟨cT,hle⟩:=o3.newRow (vs:=eP++news++zs) (T:=e) (n:=(n+m)*cr.size) oa
 have BR:(eP++news++zs).take ((n+m)*cr.size)=eP++news:=by
  rw [List.take_append_of_le_length (by rw [sb.len];exact Nat.le_refl _),List.take_of_length_le (by rw [sb.len];exact Nat.le_refl _)]
 refine .inl ⟨_,_,GV aw hc e7 ho o4 vL rfl fi,_,β,hle,λ_ _ h=>h,λ_ _ h=>.inl h,cT,λe1 he=>?_⟩
 cases he;refine⟨.v _ _ (ck _ _ ((sb.mono hle).bS hcap λq u hu=>?_)),λT l0 aL=>?_⟩
 ·rw [BR];exact GU hu
 ·cases aL;have:=NF (l0:=l0) (T:=e) o3 (vs:=eP++news++zs) (T':=e) (n:=n+m) (cap:=grownCap w (n+m) n e) rfl oa hcap (by rw [d'.cellsOf,NQ];exact Nat.le_refl _)
  rw [d'.cellsOf]at this;exact this
def V8(h:fX P K N M β g tmps w)(hp:f8 tmps p)(cF:fH P tt=true){t hQ e:TypeId}{aU cr:eS}(ae:look tt t=some aU)(hk:aU.k = .bS e)(eY:look tt e=some cr){s:Nat}{x:Operand}{c:Call}
 (aw:o.op = .call c) (hc:c.callee = .builtin .append) (e7:c.args.toList=[.tmp s,x]) (ho:c.argTypes.toList[0]? = some t) (o4:c.argTypes.toList[1]? = some hQ)
 {n m:Nat} {get mr:Nat→V} (hs:rd g.env g.ca p tt o.type (.tmp s)=some (.v (.bS cr.size n get))) {NR:a'} (BY:look g.env s=some NR) (gt:NR.own=some e) (BW:1≤cr.bytes)
 {news:List Value} (jY:Src P cr.size hQ ((⟨tmps,[]⟩:Act).eval x) m news w) (l9:lP M cr.size m mr news) (fI:(n+m)*cr.bytes≤140737488355328)
 {y:V} (ck:hC (.bS cr.size (n+m) λi=>bif Nat.blt i n then get i else mr (i-n)) y) {rs:List fB} {a7:List Prop}:
 Yields P K M β g {e:=some {d:=.v y,own:=some e},hP:=[s],rs,a7} o tmps w:=by
 obtain⟨r⟩:=eO cF ae;obtain⟨d'⟩:=eO cF eY;have o3:=h.bF.hP [s];have eZ:=er (ds:=[]) h hp hs;have BX:P.underlying t=some (.slice e):=by rw [r.hd,pW r hk]
 have vL:(⟨tmps,[]⟩:Act).eval (.tmp s)=tmps.getD s undef:=rfl;rw [vL]at eZ;have NS:=h.bF.own (.slot s) NR e BY gt;simp only [cB]at NS;have BZ:=h.bF.hand BY gt
 -- l' row aeD is grown
 have V9:∀(base:Option Addr) (l8:Nat) (eP:List Value),tmps.getD s undef = .slice base n l8→lP M cr.size n get eP→
  (∀w':World,w'.heap=w.heap→(Builtin.firstCells cr.size n (.slice base n l8)).run P w' = .ok eP.toArray w')→l8<n+m→
  Yields P K M β g {e:=some {d:=.v y,own:=some e},hP:=[s],rs,a7} o tmps w:=by
  intro base l8 eP ax holds vM bO
  have NM:((n+m:Nat):Int)≤9223372036854775807:=by
   have:n+m≤(n+m)*cr.bytes:=Nat.le_mul_of_pos_right _ BW
   omega
  have NN:=growslice_fits (need:=n+m) (old:=l8) (bytes:=cr.bytes) bO fI;have hcap:=grownCap_ge w (n+m) l8 e;have sb:=holds.app l9
  have vN:d'.z.cells.size=cr.size:=by
   obtain⟨ni,_⟩:=yn (M:=M) d'.BO;have:=d'.Np
   simp at ni;omega
  generalize vF:(Builtin.zeroCells d'.z.cells (grownCap w (n+m) l8 e-(n+m))).toList=zs
  have NO:Builtin.zeroCells d'.z.cells (grownCap w (n+m) l8 e-(n+m))=zs.toArray:=by rw [←vF]
  have NP:zs.length=(grownCap w (n+m) l8 e-(n+m))*cr.size:=by
   rw [←vF];simp [Builtin.zeroCells,vN]
  have fi:∀ty,(Builtin.append_ #[t,hQ] ty #[tmps.getD s undef,(⟨tmps,[]⟩:Act).eval x]).run P w =
   .ok (.slice (some ⟨w.heap.size,0,none⟩) (n+m) (grownCap w (n+m) l8 e)) (w.drew.alloc (.cells ⟨eP++news++zs⟩ e (0,0))):=by
   intro ty;have:=run_append_grow_src (P:=P) w t hQ ty e d'.info d'.z BX d'.hi d'.cX base n l8 eP (by rw [d'.size];exact vM w.drew rfl) _ m news (by rw [d'.size];exact jY) bO NM (by rw [d'.bytes];exact NN)
   rw [ax,this,NO];simp
  have oa:(w.drew.alloc (.cells ⟨eP++news++zs⟩ e (0,0))).heap=w.heap.push (.cells ⟨eP++news++zs⟩ e (0,0)):=rfl
  have NQ:(eP++news++zs).length=grownCap w (n+m) l8 e*cr.size:=by
   rw [List.length_append,sb.len,NP,←Nat.add_mul];congr 1;omega
  obtain⟨cT,hle⟩:=o3.newRow (vs:=eP++news++zs) (T:=e) (n:=(n+m)*cr.size) oa
  have BR:(eP++news++zs).take ((n+m)*cr.size)=eP++news:=by
   rw [List.take_append_of_le_length (by rw [sb.len];exact Nat.le_refl _),List.take_of_length_le (by rw [sb.len];exact Nat.le_refl _)]
  refine .inl ⟨_,_,GV aw hc e7 ho o4 vL rfl fi,_,β,hle,λ_ _ h=>h,λ_ _ h=>.inl h,cT,λe1 he=>?_⟩
  cases he;refine⟨.v _ _ (ck _ _ ((sb.mono hle).bS hcap λq u hu=>?_)),λT l0 aL=>?_⟩
  ·rw [BR];exact GU hu
  ·cases aL;have:=NF (l0:=l0) (T:=e) o3 (vs:=eP++news++zs) (T':=e) (n:=n+m) (cap:=grownCap w (n+m) l8 e) rfl oa hcap (by rw [d'.cellsOf,NQ];exact Nat.le_refl _)
   rw [d'.cellsOf]at this;exact this
 have b3:(tmps.getD s undef = .slice none 0 0∧n=0)∨∃(b off cap:Nat) (eP:List Value),tmps.getD s undef = .slice (some ⟨b,off,none⟩) n cap∧n≤cap∧lP M cr.size n get eP∧∀(q:Nat) u,eP[q]? = some u→M b (off+q)=some u:=by
  rcases NJ eZ with⟨ax|⟨a,ax⟩,kx⟩|hx
  ·exact .inl ⟨ax,kx⟩
  ·subst kx;rcases NS with h0|⟨bR,n',V',vs,T',Z,_⟩
   ·exact .inl ⟨h0,rfl⟩
   ·rw [ax]at Z;simp only [Value.slice.injEq,Option.some.injEq]at Z;obtain⟨rfl,rfl,rfl⟩:=Z;exact .inr ⟨bR,0,0,[],ax,Nat.le_refl _,yu _ _,λq u hu=>by simp at hu⟩
  ·exact .inr hx
 rcases b3 with⟨ax,kx⟩|⟨b,off,cap,eP,ax,hcap,holds,hold⟩
 ·subst kx;by_cases hm:m=0
  ·subst hm;refine .inl ⟨_,_,GV aw hc e7 ho o4 (vL.trans ax) rfl (λty=>aeB (w:=w) t hQ ty e d'.info BX d'.hi _ news (by rw [d'.size];exact jY)),M,β,Mem.le_refl _,λ_ _ h=>h,λ_ _ h=>.inl h,o3,λe1 he=>?_⟩
   cases he;exact⟨.v _ _ (ck _ _ (.mP _ _)),λT l0 _=>Nk l0 T⟩
  ·refine V9 none 0 [] ax (yu _ _) (λw' _=>run_firstCells_none w' cr.size 0 0 0) (by omega)
 ·by_cases bO:cap<n+m
  ·refine V9 (some ⟨b,off,none⟩) cap eP ax holds (λw' oa=>?_) bO
   refine run_firstCells_some (P:=P) w' cr.size n ⟨b,off,none⟩ n cap eP (by rw [holds.len]) (λj u hj=>?_)
   rw [addr_add,rZ (w:=w) (by rw [oa])]
   exact h.bF.mem _ _ _ (hold j u hj)
  · -- there is room
   rcases NS with h0|⟨bR,n',V',vs,T',Z,aqC,bJ,nm,kQ,d9,r9⟩
   ·rw [ax]at h0;simp at h0
   ·rw [ax]at Z;simp only [Value.slice.injEq,Option.some.injEq,Addr.mk.injEq,and_true]at Z;obtain⟨⟨rfl,rfl⟩,rfl,rfl⟩:=Z;rw [d'.cellsOf]at nm kQ
    have hlen:n*cr.size+news.length≤vs.length:=by
     rw [l9.len,←Nat.add_mul];exact Nat.le_trans (Nat.mul_le_mul_right _ (by omega)) nm
    have fi:∀ty,(Builtin.append_ #[t,hQ] ty #[tmps.getD s undef,(⟨tmps,[]⟩:Act).eval x]).run P w =
     .ok (.slice (some ⟨b,0,none⟩) (n+m) cap) (w.setRow b (vs.take (n*cr.size)++news++vs.drop (n*cr.size+news.length)).toArray):=by
     intro ty;have:=aeA (P:=P) (w:=w) t hQ ty e d'.info BX d'.hi b n cap _ m news (by rw [d'.size];exact jY) (by omega) bJ (by rw [d'.size];exact hlen)
     rw [d'.size]at this;rw [ax,this]
    generalize V_:vs.take (n*cr.size)++news++vs.drop (n*cr.size+news.length)=vs' at fi
    have aeE:vs'.length=vs.length:=by rw [←V_,BS hlen]
    have vG:(w.setRow b vs'.toArray).heap[b]? = some (.cells ⟨vs'⟩ T' (0,0)):=setRow_heap w b _ _ T' (0,0) bJ;have hle:M.le (jq M b (n*cr.size) news):=NE kQ;have kN:ia (tmps.getD s undef)=some b:=by rw [ax];rfl
    have cT:bV P K (jq M b (n*cr.size) news) β {env:=hD [s] g.env,H:=g.H,aZ:=g.aZ} tmps (w.setRow b vs'.toArray):=by
     refine o3.free b d9 (λr cs ai hb=>(BZ (.slot s)).unbox b r cs kN ai hb) (λl e1 hF fc tI=>?_) (λbR dQ _=>setRow_other w b bR _ dQ) hle (λbR o' dQ=>?_) (λo' mY o5=>?_)
     ·by_cases GW:l = .slot s
      ·subst GW;simp only [aO.at,ob,List.mem_singleton,if_true,Option.map_eq_some_iff]at fc;obtain⟨_,_,rfl⟩:=fc;simp at tI
      ·exact(BZ (.slot s)).apart l e1 hF b fc tI GW kN
     ·simp [jq,dQ]
     ·rw [cell_of_heap vG,←V_,NI hlen];unfold jq at o5;split at o5
      ·rename_i ku;rw [if_pos ⟨ku.2.1,ku.2.2⟩];exact o5
      ·rename_i ku;rw [if_neg (λB0=>ku ⟨rfl,B0.1,B0.2⟩)]
       have:=h.bF.mem _ _ _ o5
       rwa [cell_of_heap bJ]at this
    refine .inl ⟨_,_,GV aw hc e7 ho o4 vL rfl fi,_,β,hle,λ_ _ h=>h,λ_ _ h=>.inl h,cT,λe1 he=>?_⟩
    cases he;refine⟨.v _ _ (ck _ _ (((holds.app l9).mono hle).bS (by omega) λq u hu=>?_)),λT l0 aL=>?_⟩
    ·by_cases ao:q<eP.length
     ·rw [List.getElem?_append_left ao]at hu;exact hle _ _ _ (hold q u hu)
     ·rw [List.getElem?_append_right (by omega)]at hu
      have:=GU (M:=M) (b:=b) (lo:=n*cr.size) hu
      rw [holds.len]at this;rw [Nat.zero_add];have pY:n*cr.size+(q-n*cr.size)=q:=by rw [holds.len]at ao;omega
      rwa [pY]at this
    ·cases aL;refine⟨.inr ⟨b,n+m,cap,vs',T',rfl,by omega,vG,by rw [d'.cellsOf,aeE];exact nm,λo' la=>?_,d9,r9⟩,λl e1 hF df fc tI _ du=>?_,λdf r cs du ai=>?_⟩
     ·rw [d'.cellsOf,Nat.add_mul]at la;unfold jq;rw [if_neg (λB0=>by rw [l9.len]at B0;omega)]
      exact kQ o' (by omega)
     ·simp [ia]at du;subst du
      have GW:l ≠ .slot s:=by
       rintro rfl
       simp only [after,aO.at,ob,List.mem_singleton,if_true,Option.map_eq_some_iff]at fc;obtain⟨_,_,rfl⟩:=fc;simp at tI
      have aeF:cB tmps (w.setRow b vs'.toArray) β l=cB tmps w β l:=by
       cases l with
       |slot tD=>rfl
       |cell r i=>
        have eY:=fc;simp only [after,aO.at]at eY;cases ai:look g.H r with
        |none=>simp [ai]at eY
        |some cs=>
         obtain⟨hG,aeG,pU,f7,Wa,_⟩:=h.bF.box r cs ai;have dQ:hG≠b:=by rintro rfl;exact(BZ (.slot s)).unbox hG r cs kN ai f7
         simp only [cB,f7];rw [rZ (w:=w) (setRow_other w b hG _ dQ)]
      rw [aeF];exact(BZ (.slot s)).apart l e1 hF b fc tI GW kN
     ·simp [ia]at du;subst du;exact(BZ (.slot s)).unbox b r cs kN ai
def Wb(h:bV P K M β {env:=g.env,H:=g.H,aZ:=g.aZ} tmps w)(cF:fH P tt=true){hQ e2:TypeId}{aU:eS}(ae:look tt hQ=some aU)(hk:aU.k = .bS e2){v:Value}{k m:Nat}{get:Nat→V}
 (ax:cE M β v (.v (.bS k m get))):∃news,Src P k hQ v m news w∧lP M k m get news:=by
 obtain⟨r⟩:=eO cF ae;have hu:P.underlying hQ=some (.slice e2):=by rw [r.hd,pW r hk]
 rcases NJ ax with⟨rfl|⟨a,rfl⟩,rfl⟩|⟨b,off,cap,eP,rfl,_,l9,hold⟩
 ·exact⟨[],Src.ofNil w hu 0,yu _ _⟩
 ·exact⟨[],Src.ofSlice w hu a 0 0 [] (by simp) (λj u hj=>by simp at hj) (by simp),yu _ _⟩
 ·have hc:∀(j:Nat) u,eP[j]? = some u→w.cell? ((⟨b,off,none⟩:Addr).add j)=some u:=λj u hj=>by rw [addr_add];exact h.mem _ _ _ (hold j u hj)
  exact⟨eP,Src.ofSlice w hu _ m cap eP l9.len hc l9.one,l9⟩
def aeH(cF:fH P tt=true){hQ:TypeId}{aU:eS}(ae:look tt hQ=some aU)(hk:aU.k = .str)(l:arY)(M:Mem):
 ∃news,Src P 1 hQ (.string ⟨⟨l⟩⟩) l.length news w∧lP M 1 l.length (λi=>.int .u8 (l.getD i 0).toNat) news:=by
 obtain⟨r⟩:=eO cF ae;have hu:P.underlying hQ=some .string:=by rw [r.hd,qS r hk]
 refine⟨byteCells ⟨⟨l⟩⟩,Src.ofString w hu ⟨⟨l⟩⟩,⟨by simp [byteCells],λi _=>rfl,λu hu=>?_,λi j c u hi hc hu=>?_⟩⟩
 ·obtain⟨_,_,rfl⟩:=List.mem_map.1 hu;rfl
 ·cases j with
  |succ j=>simp [V.cells]at hc
  |zero=>
   simp [V.cells]at hc;subst hc;simp only [byteCells,Nat.mul_one,Nat.add_zero,List.getElem?_map,Option.map_eq_some_iff]at hu;obtain⟨a,ha,rfl⟩:=hu;have:l[i]? = some a:=ha
   simp [this];exact .int _ _
end
end Go.Ab

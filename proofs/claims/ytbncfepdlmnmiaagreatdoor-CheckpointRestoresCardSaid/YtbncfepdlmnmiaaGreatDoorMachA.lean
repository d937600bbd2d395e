/- The abstract machine: a step of code over plain data, proved against the model. -/
import Derived.Orders
import Derived.KernelRfl
import Derived.Laws.Sem
import Derived.Laws.Entries
import Derived.ChangeKeysEq
import Derived.Laws.Cells
import Derived.Laws.CopyRow
import Derived.Laws.Slices
import Derived.Laws.Strings2
import Derived.Deep.AppendSrc
set_option linter.all false
namespace Go.Ab
abbrev auJ:=List UInt8
inductive V where
 |int (k:IntKind) (n:Int)
 |bool (b:Bool)
 |str (s:auJ)
 |agg (cs:List V)
 |bT (k n:Nat) (get:Nat→V)
 |iface (t:TypeId) (x:V)
 |gW |jE |i8
 |any
 |o1 (k:Nat) (get:Nat→V)
def V.cells:V→List V
 |.agg cs=>cs
 |x=>[x]
inductive D where
 |v (x:V)
 |ptr (r off:Nat)
 |cK (r off:Nat) (u:TypeId)
 |fg (x:V)
 |full (k n:Nat) (get:Nat→V)
 |fn (f:FuncId) (fq:List D)
 |agg (cs:List D)
 |bU (cs:List D)
structure aZ where
 d:D
 own:Option TypeId:=none
structure aK where
 env:List (Nat×aZ)
 H:List (Nat×List aZ)
 a1:Nat
inductive mu where
 |int (k:IntKind) |bool |str
 |ea (cM:List (Nat×TypeId×Nat))
 |bT (e:TypeId) |arr (n:Nat) (e:TypeId) |ptr |yl |p2
deriving DecidableEq
structure en where
 k:mu
 size:Nat
 bytes:Nat
 zero:List V
 jY:List (Nat×TypeId):=[]
abbrev dS:=List (TypeId×en)
def look{α:Type}:List (Nat×α)→Nat→Option α
 |[],_=>none
 |(j,x)::l,i=>bif Nat.beq j i then some x else look l i
def del{α:Type}:List (Nat×α)→Nat→List (Nat×α)
 |[],_=>[]
 |(j,x)::l,i=>bif Nat.beq j i then del l i else(j,x)::del l i
def mu.isAgg:mu→Bool
 |.ea _ |.arr _ _=>true
 |_=>false
abbrev Path:=List (Nat×Bool)
def Path.has(p:Path)(x:Nat×Bool):Bool:=p.any λy=>Nat.beq y.1 x.1&&(y.2 == x.2)
def Path.sub(q p:Path):Bool:=q.all p.has
inductive Out where
 |ret (d:D) (own:Option TypeId)
 |bj (x:V)
inductive fw where
 |val (x:V)
 |raw
 |own
 |marks (c:Nat)
 |call (o:Out) (H:Option (List (List aZ))) (os:List Nat)
def aN(i:Int)(n:Nat):Bool:=decide (0≤i)&&decide (i<n)
def hE(i:Int)(n:Nat):Bool:=decide (0≤i)&&decide (i≤n)
def lF(a b:Int)(n:Nat):Bool:=decide (0≤a)&&(decide (a≤b)&&decide (b≤n))
def p3(a:Int):Bool:=!decide (a=0)
def room(n b:Nat):Bool:=decide (n*b≤140737488355328)
def cq(n:Nat):Bool:=decide (n≤9223372036854775807)
structure dt where
 env:List (Nat×aZ)
 ca:List (Nat×Path×D)
 H:List (Nat×List aZ)
 a1:Nat
 rs:List fw
 bc:List Prop
 ids:List (Nat×Nat):=[]
def Nl:Value→Option V
 |.int k n=>some (.int k n)
 |.bool b=>some (.bool b)
 |.string s=>some (.str s.data.toList)
 |.pointer none=>some .gW
 |.nilIface=>some .jE
 |.nilFunc=>some .i8
 |_=>none
def rd(env:List (Nat×aZ))(ca:List (Nat×Path×D))(p:Path)(tt:dS)(ty:TypeId):Operand→Option D
 |.tmp t=>match look ca t with
  |some (q,d)=>bif q.sub p then some d else none
  |none=>(look env t).map (·.d)
 |.const (.slice none 0 0)=>match look tt ty with
  |some {k:=.bT _,zero:=[.bT k 0 get],..}=>some (.v (.bT k 0 get))
  |_=>none
 |.const v=>(Nl v).map .v
 |.func f=>some (.fn f [])
 |.global _=>none
def l8(f:TypeId→Operand→Option D):List Operand→List TypeId→Option (List D)
 |[],_=>some []
 |x::xs,t::ts=>match f t x,l8 f xs ts with
  |some d,some ds=>some (d::ds)
  |_,_=>none
 |_::_,[]=>none
def B4:List D→Option (List V)
 |[]=>some []
 |.v x::l=>(B4 l).map (x :: ·)
 |_::_=>none
def mT(cs:List D):D:=match B4 cs with|some vs=>.v (.agg vs)|none=>.agg cs
def cellsD:D→List D
 |.v x=>x.cells.map .v
 |.agg cs=>cs
 |d=>[d]
def sh:List D→Bool
 |[]=>true
 |.cK _ _ _::_=>false
 |_::l=>sh l
def q0:D→Bool
 |.bU _=>true
 |_=>false
def setAt{α:Type}:List α→Nat→List α→List α
 |cs,0,[]=>cs
 |_::cs,0,x::xs=>x::setAt cs 0 xs
 |c::cs,n+1,xs=>c::setAt cs n xs
 |[],_,_=>[]
def si(place:Nat→Option (Nat×Nat))(cells:List D):List (Nat×D)→Option (List D)
 |[]=>some cells
 |(i,d)::rest=>match place i with
  |none=>none
  |some (off,size)=>
   bif Nat.beq (cellsD d).length size&&Nat.ble (off+size) cells.length && !q0 d then si place (setAt cells off (cellsD d)) rest else none
abbrev Mem:=Nat→Nat→Option Value
def Mem.le(M M':Mem):Prop:=∀b o v,M b o=some v→M' b o=some v
def Mem.le_refl(M:Mem):M.le M:=λ_ _ _ h=>h
def Mem.le_trans{A B C:Mem}(h:A.le B)(cO:B.le C):A.le C:=λb o v e=>cO b o v (h b o v e)
inductive dw(M:Mem):Value→V→Prop where
 |int (k:IntKind) (n:Int):dw M (.int k n) (.int k n)
 |bool (b:Bool):dw M (.bool b) (.bool b)
 |str (l:auJ):dw M (.string ⟨⟨l⟩⟩) (.str l)
 |agg (vs:List Value) (cs:List V) (hn:vs.length=cs.length) (Z:∀v,v∈vs→v.oneCell'=true)
  (h:∀(i:Nat) v c,vs[i]? = some v→cs[i]? = some c→dw M v c):dw M (.agg ⟨vs⟩) (.agg cs)
 |mv (k:Nat) (get:Nat→V):dw M (.slice none 0 0) (.bT k 0 get)
 |p4 (a:Addr) (k:Nat) (get:Nat→V):dw M (.slice (some a) 0 0) (.bT k 0 get)
 |bT (b off k n cap:Nat) (get:Nat→V) (val:Nat→Nat→Value) (hc:n≤cap)
  (hk:∀i,i<n→(get i).cells.length=k)
  (db:∀i j,i<n→j<k→M b (off+i*k+j)=some (val i j)) (Z:∀i j,i<n→j<k→(val i j).oneCell'=true)
  (h:∀(i j:Nat) c,i<n→(get i).cells[j]? = some c→dw M (val i j) c):dw M (.slice (some ⟨b,off,none⟩) n cap) (.bT k n get)
 |iface (t:TypeId) (v:Value) (x:V) (h:dw M v x):dw M (.iface t v) (.iface t x)
 |gW:dw M (.pointer none) .gW
 |jE:dw M .nilIface .jE
 |i8:dw M .nilFunc .i8
 |any (v:Value) (Z:v.oneCell'=true):dw M v .any
 |o1 (k:Nat) (get:Nat→V):dw M (.slice none 0 0) (.o1 k get)
def hK(raw x:V):Prop:=∀(M:Mem) (v:Value),dw M v raw→dw M v x
def p5(k:IntKind)(a b:Int):Int:=k.wrap (BitVec.ofInt k.bits a &&& BitVec.ofInt k.bits b).toNat
def tH(k:IntKind)(a b:Int):Int:=k.wrap (BitVec.ofInt k.bits a |||BitVec.ofInt k.bits b).toNat
def o2(k:IntKind)(a b:Int):Int:=k.wrap (BitVec.ofInt k.bits a ^^^ BitVec.ofInt k.bits b).toNat
def Nm(k:IntKind)(a b:Int):Int:=k.wrap (BitVec.ofInt k.bits a &&& ~~~BitVec.ofInt k.bits b).toNat
def sj(k:IntKind)(x y:Int):Int:=k.wrap (x*2 ^ min y.toNat k.bits)
def tI(k:IntKind)(x y:Int):Int:=x.fdiv (2 ^ min y.toNat k.bits)
def o3(y:Int):Bool:=decide (0≤y)
def Nn(op:BinOp)(k:IntKind)(x y:Int):Option (V×List Prop):=
 match op with
 |.shl=>some (.int k (sj k x y),[o3 y=true])
 |.shr=>some (.int k (tI k x y),[o3 y=true])
 |_=>none
def No(op:BinOp)(k:IntKind)(a b:Int):Option (V×List Prop):=
 match op with
 |.add=>some (.int k (k.wrap (a+b)),[])
 |.sub=>some (.int k (k.wrap (a-b)),[])
 |.mul=>some (.int k (k.wrap (a*b)),[])
 |.quo=>some (.int k (k.wrap (a.tdiv b)),[p3 b=true])
 |.rem=>some (.int k (a.tmod b),[p3 b=true])
 |.eql=>some (.bool (decide (a=b)),[])
 |.neq=>some (.bool (!decide (a=b)),[])
 |.lss=>some (.bool (decide (a<b)),[])
 |.leq=>some (.bool (decide (a≤b)),[])
 |.gtr=>some (.bool (decide (b<a)),[])
 |.geq=>some (.bool (decide (b≤a)),[])
 |.and=>some (.int k (p5 k a b),[])
 |.or=>some (.int k (tH k a b),[])
 |.xor=>some (.int k (o2 k a b),[])
 |.andNot=>some (.int k (Nm k a b),[])
 |_=>none
def Np(op:BinOp)(a b:auJ):Option (V×List Prop):=
 match op with
 |.add=>some (.str (a++b),[cq (a.length+b.length)=true])
 |.eql=>some (.bool (decide (a=b)),[])
 |.neq=>some (.bool (!decide (a=b)),[])
 |.lss=>some (.bool (Op.bytesLess a b),[])
 |.leq=>some (.bool (Op.bytesLess a b||decide (a=b)),[])
 |.gtr=>some (.bool (!(Op.bytesLess a b||decide (a=b))),[])
 |.geq=>some (.bool (!Op.bytesLess a b),[])
 |_=>none
def isNil:mu→D→Option Bool
 |.ptr,.v .gW=>some true
 |.ptr,.ptr _ _=>some false
 |.ptr,.fg _=>some false
 |.p2,.v .jE=>some true
 |.p2,.v (.iface _ _)=>some false
 |.yl,.v .i8=>some true
 |.yl,.fn _ _=>some false
 |_,_=>none
def GI:mu→D→Bool
 |.ptr,.v .gW=>true
 |.p2,.v .jE=>true
 |.yl,.v .i8=>true
 |_,_=>false
def jo:List (Option mu)→List V→List V→Option Bool
 |[],[],[]=>some true
 |some (.int _)::ks,.int k a::l,.int k' b::m=>bif decide (k=k') then(jo ks l m).map λr=>decide (a=b)&&r else none
 |some .str::ks,.str a::l,.str b::m=>(jo ks l m).map λr=>decide (a=b)&&r
 |some .bool::ks,.bool a::l,.bool b::m=>(jo ks l m).map λr=>(a == b)&&r
 |_,_,_=>none
def mU(tt:dS):Nat→List (Nat×TypeId×Nat)→List (Option mu)
 | 0,cM=>cM.map λf=>(look tt f.2.1).map (·.k)
 |d+1,cM=>cM.flatMap λf=>match look tt f.2.1 with
  |some {k:=.ea gs,..}=>mU tt d gs
  |o=>[o.map (·.k)]
def Wt(k:Option mu)(afI:Bool)(op:BinOp)(a b:D):Option (V×List Prop):=
 match a,b with
 |.v (.int k x),.v (.int k' y)=>match Nn op k x y with
  |some z=>some z
  |none=>bif decide (k=k')then No op k x y else none
 |.v (.str x),.v (.str y)=>Np op x y
 |.v (.bool x),.v (.bool y)=>match k,op with
  |some .bool,.eql=>some (.bool (x == y),[])
  |some .bool,.neq=>some (.bool (!(x == y)),[])
  |_,_=>none
 |a,b=>match k with
  |some k=>bif GI k b&&afI then match isNil k a,op with
   |some t,.eql=>some (.bool t,[])
   |some t,.neq=>some (.bool (!t),[])
   |_,_=>none
   else none
  |none=>none
def isConst:Operand→Bool
 |.const _=>true
 |_=>false
def Wu(op:UnOp)(a:V):Option V:=
 match op,a with
 |.not,.bool b=>some (.bool (!b))
 |.neg,.int k n=>some (.int k (k.wrap (0-n)))
 |_,_=>none
def B5(env:List (Nat×aZ))(ca:List (Nat×Path×D))(t:Nat):Option Bool:=
 match look ca t with
 |some (_,.v (.bool b))=>some b
 |some _=>none
 |none=>match look env t with
  |some ⟨.v (.bool b),_⟩=>some b
  |_=>none
def under(g:dt):Path→Prop→Prop
 |[],q=>q
 |(t,w)::p,q=>match B5 g.env g.ca t with
  |some b=>b=w→under g p q
  |none=>under g p q
structure lG where
 e:Option aZ
 hF:List Nat:=[]
 hs:List (Nat×List aZ):=[]
 nx:Nat:=0
 rs:List fw
 bc:List Prop:=[]
def o4(g:dt):Operand→Option TypeId
 |.tmp t=>(look g.env t).bind (·.own)
 |_=>none
def afJ(t:Nat)(o:Oper):Bool:=
 match o.op with
 |.assign (.tmp u)=>Nat.beq u t
 |.store _ _ (.tmp u)=>Nat.beq u t
 |.call {callee:=.builtin .append,args,..}=>match args.toList with
  |.tmp u::_=>Nat.beq u t
  |_=>false
 |_=>false
def afK(ops:List Oper)(dst:Option Nat):Bool:=
 match dst with
 |some t=>ops.any (afJ t)
 |none=>false
def refs:D→List Nat
 |.ptr r _=>[r]
 |.cK r _ _=>[r]
 |.fn _ fq=>fq.flatMap fun |.ptr r _=>[r] |_=>[]
 |.agg cs=>cs.flatMap fun |.ptr r _=>[r] |.cK r _ _=>[r] |.fn _ fq=>(fq.flatMap fun |.ptr r _=>[r] |_=>[]) |_=>[]
 |_=>[]
def idx(l:List Nat)(r:Nat):Option Nat:=
 match l with
 |[]=>none
 |x::l=>bif Nat.beq x r then some 0 else(idx l r).map (· + 1)
def dedup:List Nat→List Nat
 |[]=>[]
 |x::l=>bif (dedup l).any (Nat.beq x)then dedup l else x::dedup l
mutual
def eP(f:Nat→Option Nat):D→Option D
 |.v x=>some (.v x)
 |.ptr r off=>(f r).map (.ptr · off)
 |.cK r off u=>(f r).map (.cK · off u)
 |.fg x=>some (.fg x)
 |.full k n get=>some (.full k n get)
 |.fn g fq=>(lH f fq).map (.fn g)
 |.agg cs=>(lH f cs).map .agg
 |.bU cs=>(lH f cs).map .bU
def lH(f:Nat→Option Nat):List D→Option (List D)
 |[]=>some []
 |d::l=>match eP f d,lH f l with
  |some eA,some cR=>some (eA::cR)
  |_,_=>none
end
def GJ(f:Nat→Option Nat)(e:aZ):Option aZ:=(eP f e.d).map λd=>{d,own:=e.own}
def nm(f:Nat→Option Nat):List aZ→Option (List aZ)
 |[]=>some []
 |e::l=>match GJ f e,nm f l with
  |some a7,some cR=>some (a7::cR)
  |_,_=>none
def kt(f:Nat→Option Nat):List (List aZ)→Option (List (List aZ))
 |[]=>some []
 |b::l=>match nm f b,kt f l with
  |some bM,some cR=>some (bM::cR)
  |_,_=>none
def boxes(H:List (Nat×List aZ)):List Nat→Option (List (List aZ))
 |[]=>some []
 |r::l=>match look H r,boxes H l with
  |some b,some bs=>some (b::bs)
  |_,_=>none
def da{α:Type}:Nat→List α→List (Nat×α)
 |_,[]=>[]
 |n,x::l=>(n,x)::da (n+1) l
def lI:List Nat→List (List aZ)→List (Nat×List aZ)
 |r::l,b::bs=>(r,b)::lI l bs
 |_,_=>[]
def mapM'{α β:Type}(f:α→Option β):List α→Option (List β)
 |[]=>some []
 |x::l=>match f x,mapM' f l with
  |some y,some ys=>some (y::ys)
  |_,_=>none
structure gJ where
 call:FuncId→List D→List (Nat×TypeId)→List (List aZ)→Out→List (List aZ)→Prop
 eq:TypeId→Bool
inductive ob where
 |go (e:lG)
 |bj (x:V) (hs:List (Nat×List aZ)) (bc:List Prop)
def o5(H:List (Nat×List aZ)):Nat→List Nat→List Nat
 | 0,l=>l
 |n+1,l=>o5 H n (dedup (l++l.flatMap λr=>((look H r).getD []).flatMap λe=>refs e.d))
def nn:List Nat→Bool
 |[]=>true
 |x::l=>!l.any (Nat.beq x)&&nn l
def handed(tt:dS)(g:dt)(xs:List Operand)(ts:List TypeId):List Nat→Option (List (Nat×Option Nat×TypeId))
 |[]=>some []
 |i::os=>match xs[i]?,handed tt g xs ts os with
  |some (.tmp t),some l=>match look g.env t with
   |some ⟨_,some e⟩=>bif (look g.ca t).isNone&&l.all (λx=>!(match x.2.1 with |some u=>Nat.beq u t |none=>false) && !Nat.beq x.1 i)then some ((i,some t,e)::l)else none
   |_=>none
  |some (.const (.slice none 0 0)),some l=>match(ts[i]?).bind (look tt) with
   |some {k:=.bT e,..}=>bif l.all (λx=>!Nat.beq x.1 i)then some ((i,none,e)::l)else none
   |_=>none
  |_,_=>none
def ym(cx:gJ)(tt:dS)(g:dt)(p:Path)(xs:List Operand)(ts:List TypeId)(f:FuncId)(args:List D):Option ob:=
 let ρ:=o5 g.H 2 (dedup (args.flatMap refs))
 match g.rs with
 |.call out cm os::rs=>
  match lH (idx ρ) args,(boxes g.H ρ).bind (kt (idx ρ)),handed tt g xs ts os with
  |some jZ,some H1,some hd=>bif !nn ρ || !(p.isEmpty||os.isEmpty)then none else
   let eb:=hd.map λx=>(x.1,x.2.2)
   let hF:=hd.filterMap λx=>x.2.1
   match out,cm with
   |.ret d own,none=>(eP (λj=>ρ[j]?) d).map λeA=>.go {e:=some {d:=eA,own},hF,rs,bc:=[cx.call f jZ eb H1 out H1]}
   |.ret d own,some cm=>match eP (λj=>ρ[j]?) d,kt (λj=>ρ[j]?) cm with
    |some eA,some i'=>bif Nat.beq cm.length ρ.length then some (.go {e:=some {d:=eA,own},hF,hs:=lI ρ i',rs,bc:=[cx.call f jZ eb H1 out cm]})else none
    |_,_=>none
   |.bj x,none=>some (.bj x [] [cx.call f jZ eb H1 out H1])
   |.bj x,some cm=>match kt (λj=>ρ[j]?) cm with
    |some i'=>bif Nat.beq cm.length ρ.length then some (.bj x (lI ρ i') [cx.call f jZ eb H1 out cm])else none
    |none=>none
  |_,_,_=>none
 |_=>none
def GK:V→Option TypeId→Option TypeId
 |.bT _ _ _,t=>t
 |_,_=>none
def Wv(tt:dS):Nat→List (Nat×TypeId×Nat)→Nat→Option TypeId
 | 0,_,_=>none
 |d+1,cM,j=>match cM.find? λf=>Nat.ble f.1 j&&Nat.blt j (f.1+f.2.2) with
  |some f=>match look tt f.2.1 with
   |some {k:=.bT e,..}=>some e
   |some {k:=.ea gs,..}=>Wv tt d gs (j-f.1)
   |_=>none
  |none=>none
def GL(tt:dS):mu→Nat→Option TypeId
 |.ea cM,j=>Wv tt 5 cM j
 |.bT e,0=>some e
 |_,_=>none
def Ww(tt:dS)(jY:List (Nat×TypeId))(k:mu)(i:Nat):Option TypeId:=
 match GL tt k i with
 |some e=>some e
 |none=>(jY.find? λy=>Nat.beq (y.1+1) i).bind λy=>match look tt y.2 with |some {k,..}=>GL tt k 1 |none=>none
def B6(jY:List (Nat×TypeId))(id i:Nat)(x:V):D:=
 match x with
 |.gW=>match jY.find? λy=>Nat.beq y.1 i with
  |some y=>.cK id i y.2
  |none=>.v x
 |_=>.v x
def GM(tt:dS)(t:TypeId)(id:Nat):Option (List aZ):=
 match look tt t with
 |some {k:=.bT e,zero,..}=>some (zero.map λx=>{d:=.v x,own:=GK x (some e)})
 |some {k:=.ea cM,zero,jY,..}=>some ((da 0 zero).map fun(i,x)=>
  {d:=B6 jY id i x,own:=GK x (Ww tt jY (.ea cM) i)})
 |some {zero,..}=>some (zero.map λx=>{d:=.v x})
 |none=>none
def V.isAgg:V→Bool
 |.agg _=>true
 |_=>false
def Nq:V→V
 |.bT k 0 g=>.o1 k g
 |x=>x
def p6(ty:Nat→Option TypeId):Nat→List aZ→List aZ
 |_,[]=>[]
 |i,e::l=>(match e.d with
  |.v (.o1 k g)=>{d:=.v (.bT k 0 g),own:=ty i}
  |_=>e)::p6 ty (i+1) l
def elems(isAgg:Bool)(size:Nat):Nat→List (Nat×D)→Option (List V)
 |_,[]=>some []
 |i,(j,.v x)::cS=>bif Nat.beq i j&&Nat.beq x.cells.length size&&(x.isAgg == isAgg) then(elems isAgg size (i+1) cS).map (x :: ·)else none
 |_,_=>none
def sk(tt:dS)(t:TypeId)(i:Nat):TypeId:=
 match look tt t with
 |some {k:=.ea cM,..}=>match cM[i]? with
  |some f=>f.2.1
  |none=>0
 |some {k:=.arr _ e,..}=>e
 |some {k:=.bT e,..}=>e
 |_=>0
def yn(tt:dS)(aJ:en)(id i:Nat)(d:D):aZ:=
 match d with
 |.v .gW=>{d:=B6 aJ.jY id i .gW}
 |.v (.o1 k g)=>match Ww tt aJ.jY aJ.k i with
  |some T=>{d:=.v (.bT k 0 g),own:=some T}
  |none=>{d}
 |d=>{d}
def q1(tt:dS)(aJ:en)(id:Nat):Nat→List D→List aZ
 |_,[]=>[]
 |i,d::l=>yn tt aJ id i d::q1 tt aJ id (i+1) l
def oc(g:dt)(o:Oper):Option (Nat×Nat):=
 match o.dst.bind (look g.ids) with
 |some id=>bif (look g.H id).isNone&&Nat.blt id g.a1 then some (id,0)else none
 |none=>some (g.a1,1)
def Wx:Nat→Nat→List (Nat×TypeId)
 | 0,_=>[]
 |f+1,c=>bif Nat.beq c 0 then[] else((c % 1000000-1) / 1000,(c % 1000000-1) % 1000)::Wx f (c / 1000000)
def marks(T:Nat):List (Nat×TypeId):=Wx 8 (T / 1000000)
def marksOf:Nat→List aZ→List (Nat×TypeId)
 |_,[]=>[]
 |i,e::l=>match e.own with
  |some T=>(i,T)::marksOf (i+1) l
  |none=>marksOf (i+1) l
def tJ:List (Nat×TypeId)→List (Nat×TypeId)→Bool
 |[],[]=>true
 |x::l,y::m=>Nat.beq x.1 y.1&&Nat.beq x.2 y.2&&tJ l m
 |_,_=>false
def yo:List (Nat×TypeId)→Nat→Option TypeId
 |[],_=>none
 |x::l,i=>bif Nat.beq x.1 i then some x.2 else yo l i
def Nr:D→Bool
 |.v (.agg _)=>true
 |.agg _=>true
 |_=>false
def p7(ms:List (Nat×TypeId)):Nat→List D→List aZ
 |_,[]=>[]
 |i,d::l=>{d,own:=yo ms i}::p7 ms (i+1) l
def step1(cx:gJ)(tt:dS)(ops:List Oper)(g:dt)(p:Path)(o:Oper):Option ob:=
 let r:=rd g.env g.ca p tt o.type
 let val (d:Option D):Option ob:=d.map λd=>.go {e:=some {d},rs:=g.rs}
 let B7 (x:Option (V×List Prop)):Option ob:=x.map fun(x,bc)=>.go {e:=some {d:=.v x},rs:=g.rs,bc}
 let GN (raw:V) (mk:V→D) (bc:List Prop):Option ob:=match g.rs with
  |.val x::rs=>some (.go {e:=some {d:=mk x},rs,bc:=hK raw x::bc})
  |.raw::rs=>some (.go {e:=some {d:=mk raw},rs,bc:=bc})
  |_=>none
 match o.op with
 |.move x=>match r x with
  |some d=>match o4 g x,x with
   |some e,.tmp t=>match g.rs with
    |.own::rs=>bif p.isEmpty then some (.go {e:=some {d,own:=some e},hF:=[t],rs})else none
    |_=>bif p.isEmpty&&afK ops o.dst then some (.go {e:=some {d,own:=some e},hF:=[t],rs:=g.rs})else some (.go {e:=some {d},rs:=g.rs})
   |_,_=>some (.go {e:=some {d},rs:=g.rs})
  |none=>none
 |.assign x=>match r x with
  |some d=>match o4 g x,x with
   |some e,.tmp t=>bif p.isEmpty then some (.go {e:=some {d,own:=some e},hF:=[t],rs:=g.rs})else some (.go {e:=some {d},rs:=g.rs})
   |_,.const (.slice none 0 0)=>match look tt o.type with
    |some {k:=.bT e,..}=>bif p.isEmpty then some (.go {e:=some {d,own:=some e},rs:=g.rs})else some (.go {e:=some {d},rs:=g.rs})
    |_=>none
   |_,_=>some (.go {e:=some {d},rs:=g.rs})
  |none=>none
 |.pick (.tmp c) a b=>match r (.tmp c),rd g.env g.ca ((c,true)::p) tt o.type a,rd g.env g.ca ((c,false)::p) tt o.type b with
  |some (.v (.bool tK)),some (.v (.bool B8)),some (.v (.bool q2))=>val (some (.v (.bool (bif tK then B8 else q2))))
  |_,_,_=>none
 |.alloc t=>match oc g o with
  |some (id,nx)=>match GM tt t id with
   |some z=>some (.go {e:=some {d:=.ptr id 0},hs:=[(id,z)],nx,rs:=g.rs})
   |none=>none
  |none=>none
 |.box t x=>match r x,oc g o,look tt t with
  |some d,some (id,nx),some aJ=>bif q0 d || !sh (cellsD d) || !Nat.beq (cellsD d).length aJ.size then none else some (.go {e:=some {d:=.ptr id 0},hs:=[(id,q1 tt aJ id 0 (cellsD d))],nx,rs:=g.rs})
  |_,_,_=>none
 |.build t parts=>match look tt t,mapM' (fun(i,x)=>(rd g.env g.ca p tt (sk tt t i) x).map λd=>(i,d)) parts.toList with
  |some {k:=.ea cM,zero,..},some cS=>bif cM.all (λf=>Nat.ble 1 f.2.2)then match g.rs with
   |.own::rs=>((si (λi=>(cM[i]?).map λf=>(f.1,f.2.2)) (zero.map λx=>.v (Nq x)) cS).map mT).map λd=>.go {e:=some {d},rs}
   |_=>val ((si (λi=>(cM[i]?).map λf=>(f.1,f.2.2)) (zero.map .v) cS).map mT)
   else none
  |some {k:=.arr _ e,zero,..},some cS=>match look tt e with
   |some {size,..}=>val ((si (λi=>some (i*size,size)) (zero.map .v) cS).map mT)
   |none=>none
  |_,_=>none
 |.buildSlice t len parts=>match look tt t,mapM' (fun(i,x)=>(rd g.env g.ca p tt (sk tt t i) x).map λd=>(i,d)) parts.toList with
  |some {k:=.bT e,..},some cS=>match look tt e with
   |some {k,size,..}=>
    match elems k.isAgg size 0 cS,g.rs with
    |some xs,.val x::rs=>bif Nat.ble (len*size) 16777216&&Nat.ble 1 size&&Nat.beq xs.length len then some (.go {e:=some {d:=.v x,own:=some e},rs,bc:=[hK (.bT size len λi=>xs.getD i .gW) x]})else none
    |_,_=>none
   |none=>none
  |_,_=>none
 |.load t a=>match r a,look tt t with
  |some (
   .ptr q off),some aJ=>match look g.H q with
   |some cs=>bif aJ.k.isAgg then
    bif Nat.ble (off+aJ.size) cs.length then match g.rs with
     |.marks c::rs=>bif p.isEmpty&&tJ (marks c) (marksOf 0 ((cs.drop off).take aJ.size)) then
      some (.go {e:=some {d:=mT (((cs.drop off).take aJ.size).map (·.d)),own:=some c},hs:=[(q,setAt cs off (((cs.drop off).take aJ.size).map λe=>{d:=e.d}))],rs})else none
     |_=>val (some (mT (((cs.drop off).take aJ.size).map (·.d))))else none
    else match cs[off]? with
     |some e=>match e.own,g.rs with
      |some _,.own::rs=>bif p.isEmpty then some (.go {e:=some e,hs:=[(q,setAt cs off [{d:=e.d}])],rs})else none
      |_,_=>val (some e.d)
     |none=>none
   |none=>none
  |some (.fg x),some aJ=>bif x.isAgg == aJ.k.isAgg&&Nat.beq x.cells.length aJ.size then val (some (.v x))else none
  |_,_=>none
 |.store t a x=>match r a,rd g.env g.ca p tt t x,look tt t with
  |some (
   .ptr q off),some d,some aJ=>match look g.H q with
   |some cs=>bif Nat.beq (cellsD d).length aJ.size&&Nat.ble (off+aJ.size) cs.length&&p.isEmpty && !q0 d&&sh (cellsD d) then
    match x,o4 g x,d with
    |.tmp u,some s,.v (.bT ..)=>some (.go {e:=none,hF:=[u],hs:=[(q,setAt cs off [{d,own:=some s}])],rs:=g.rs})
    |.const (.slice none 0 0),_,_=>match aJ.k with
     |.bT s=>some (.go {e:=none,hs:=[(q,setAt cs off [{d,own:=some s}])],rs:=g.rs})
     |_=>none
    |.tmp u,some s,_=>match g.rs with
     |.marks _::rs=>bif Nr d&&((marks s).all λx=>Nat.blt x.1 aJ.size)then some (.go {e:=none,hF:=[u],hs:=[(q,setAt cs off (p7 (marks s) 0 (cellsD d)))],rs})else none
     |_=>some (.go {e:=none,hs:=[(q,p6 (λi=>GL tt aJ.k (i-off)) 0 (setAt cs off ((cellsD d).map λd=>{d})))],rs:=g.rs})
    |_,_,_=>some (.go {e:=none,hs:=[(q,p6 (λi=>GL tt aJ.k (i-off)) 0 (setAt cs off ((cellsD d).map λd=>{d})))],rs:=g.rs})
    else none
   |none=>none
  |_,_,_=>none
 |.nilCheck x=>match r x with
  |some (.ptr q off)=>val (some (.ptr q off))
  |some (.fg x)=>val (some (.fg x))
  |_=>none
 |.binOp op t x y _=>match r x,r y with
  |some (.v (.agg xs)),some (.v (.agg ys))=>match look tt t with
   |some {k:=.ea cM,..}=>bif cx.eq t then match op,jo (mU tt 4 cM) xs ys with
    |.eql,some r=>val (some (.v (.bool r)))
    |.neq,some r=>val (some (.v (.bool (!r))))
    |_,_=>none
    else none
   |_=>none
  |some a,some b=>B7 (Wt ((look tt t).map (·.k)) (isConst y) op a b)
  |_,_=>none
 |.unOp op _ x=>match r x with
  |some (.v a)=>val ((Wu op a).map .v)
  |_=>none
 |.convert s t x=>match look tt s,look tt t,r x with
  |some {k:=.int _,..},some {k:=.int k,..},some (.v (.int _ n))=>val (some (.v (.int k (k.wrap n))))
  |some {k:=.str,..},some {k:=.str,..},some (.v (.str s))=>val (some (.v (.str s)))
  |some {k:=.bT e,..},some {k:=.str,..},some (.v (.bT 1 n get))=>match look tt e,g.rs with
   |some {k:=.int .u8,..},.val (.str l)::rs=>some (.go {e:=some {d:=.v (.str l)},rs,bc:=[l.length=n∧∀i,i<n→get i = .int .u8 ((l.getD i 0).toNat:Int)]})
   |_,_=>none
  |_,_,_=>none
 |.makeInterface t x=>match r x,look tt t with
  |some (.v x),some {k,..}=>match k with
   |.p2=>none
   |_=>val (some (.v (.iface t x)))
  |_,_=>none
 |.makeFunc (.func f) first fq=>bif first.isEmpty then(mapM' r fq.toList).map λds=>.go {e:=some {d:=.fn f ds},rs:=g.rs}else none
 |.slice t x lo hi ku=>match ku,look tt t with
  |none,some {k:=.str,..}=>match r x,lo.map r,hi.map r with
   |some (.v (.str s)),none,none=>val (some (.v (.str s)))
   |some (.v (.str s)),some (some (.v (.int _ a))),none=>B7 (some (.str (s.drop a.toNat),[hE a s.length=true]))
   |some (.v (.str s)),none,some (some (.v (.int _ b)))=>B7 (some (.str (s.take b.toNat),[hE b s.length=true]))
   |some (.v (.str s)),some (some (.v (.int _ a))),some (some (.v (.int _ b)))=>B7 (some (.str ((s.take b.toNat).drop a.toNat),[lF a b s.length=true]))
   |_,_,_=>none
  |none,some {k:=.bT e,..}=>match look tt e,r x,lo.map r,hi.map r with
   |some {size,..},some (.v (.bT k n get)),some (some (.v (.int _ a))),none=>bif Nat.beq k size then GN (.bT k (n-a.toNat) λi=>get (a.toNat+i)) .v [hE a n=true]else none
   |some {size,..},some (.v (.bT k n get)),none,some (some (.v (.int _ b)))=>bif Nat.beq k size then GN (.bT k b.toNat get) .v [hE b n=true]else none
   |some {size,..},some (.v (.bT k n get)),some (some (.v (.int _ a))),some (some (.v (.int _ b)))=>bif Nat.beq k size then GN (.bT k (b.toNat-a.toNat) λi=>get (a.toNat+i)) .v [lF a b n=true]else none
   |some {size,..},some (.v (.bT k n get)),none,none=>bif Nat.beq k size then val (some (.v (.bT k n get)))else none
   |_,_,_,_=>none
  |some _,some {k:=.bT e,..}=>match look tt e,r x,lo,hi.map r,ku.map r with
   |some {size,..},some (.v (.bT k n get)),none,some (some (.v (.int _ b))),some (some (.v (.int _ c)))=>bif Nat.beq k size then some (.go {e:=some {d:=.full k b.toNat get},rs:=g.rs,bc:=[b=c,hE b n=true]})else none
   |_,_,_,_,_=>none
  |_,_=>none
 |.fieldAddr s x f=>match r x,look tt s with
  |some (.ptr q off),some {k:=.ea cM,..}=>match cM[f]? with
   |some (c8,_,fN)=>bif Nat.ble 1 fN then val (some (.ptr q (off+c8)))else none
   |none=>none
  |some (
   .fg (.agg cs)),some {k:=.ea cM,..}=>match cM[f]? with
   |some (
    c8,ih,fN)=>match look tt ih with
    |some aJ=>bif Nat.ble 1 fN&&Nat.ble (c8+fN) cs.length then
     bif aJ.k.isAgg then val (some (.fg (.agg ((cs.drop c8).take fN))))else bif Nat.beq fN 1 then match cs[c8]? with
      |some c=>bif c.isAgg then none else val (some (.fg c))
      |none=>none
     else none
     else none
    |none=>none
   |none=>none
  |_,_=>none
 |.field s x f=>match r x,look tt s with
  |some (
   .v (.agg cs)),some {k:=.ea cM,..}=>match cM[f]? with
   |some (c8,ih,fN)=>match look tt ih with
    |some aJ=>bif Nat.ble (c8+fN) cs.length then bif aJ.k.isAgg then val (some (.v (.agg ((cs.drop c8).take fN))))else match cs[c8]? with
     |some c=>val (some (.v c))
     |none=>none
     else none
    |none=>none
   |none=>none
  |some (.agg cs),some {k:=.ea cM,..}=>match cM[f]? with
   |some (c8,ih,fN)=>match look tt ih,cs[c8]? with
    |some aJ,some c=>bif aJ.k.isAgg || !Nat.beq fN 1||q0 c then none else val (some c)
    |_,_=>none
   |none=>none
  |_,_=>none
 |.indexAddr t x i=>match r x,r i,look tt t with
  |some (.v (.bT k n get)),some (.v (.int _ j)),some {k:=.bT e,..}=>match look tt e with
   |some {size,..}=>bif Nat.beq k size&&Nat.ble 1 size then GN (get j.toNat) .fg [aN j n=true]else none
   |none=>none
  |_,_,_=>none
 |.index t x i=>match r x,r i,look tt t with
  |some (.v (.str s)),some (.v (.int _ j)),some {k:=.str,..}=>B7 (some (.int .u8 (s.getD j.toNat 0).toNat,[aN j s.length=true]))
  |_,_,_=>none
 |.typeAssert x _ t ok=>match r x,look tt t with
  |some (.v (.iface bp y)),some {k,..}=>match k with
   |.p2=>none
   |_=>bif Nat.beq bp t then val (some (bif ok then .bU [.v y,.v (.bool true)]else .v y))else none
  |_,_=>none
 |.extract x i=>match r x with
  |some (.bU ds)=>val ds[i]?
  |_=>none
 |.call c=>match c.callee with
  |.value x=>match r x,l8 (rd g.env g.ca p tt) c.args.toList c.argTypes.toList with
   |some (.fn f fq),some ds=>ym cx tt g p c.args.toList c.argTypes.toList f (ds++fq)
   |_,_=>none
  |.builtin .len=>match mapM' (λy=>r y) c.args.toList,(c.argTypes.toList[0]?).bind (look tt) with
   |some [.v (.str s)],some {k:=.str,..}=>val (some (.v (.int .i64 s.length)))
   |some [.v (.bT _ n _)],some {k:=.bT _,..}=>val (some (.v (.int .i64 n)))
   |_,_=>none
  |.builtin .append=>match c.args.toList,(c.argTypes.toList[0]?).bind (look tt),(c.argTypes.toList[1]?).bind (look tt) with
   |[.tmp t,x],some {k:=.bT e,..},some t2=>match look tt e,r (.tmp t),r x,look g.env t,g.rs with
    |some cA,some (.v (.bT k n get)),some d2,some ⟨_,some a7⟩,.val y::rs=>
     bif Nat.beq e a7&&Nat.beq k cA.size&&Nat.ble 1 cA.size&&Nat.ble 1 cA.bytes&&p.isEmpty then
      match d2,t2.k with
      |.v (.bT aj m mw),.bT _=>bif Nat.beq aj k then
       some (.go {e:=some {d:=.v y,own:=some e},hF:=[t],rs,bc:=[hK (.bT k (n+m) λi=>bif Nat.blt i n then get i else mw (i-n)) y,room (n+m) cA.bytes=true]})
       else none
      |.v (.str s),.str=>bif Nat.beq k 1 then
       some (.go {e:=some {d:=.v y,own:=some e},hF:=[t],rs,bc:=[hK (.bT k (n+s.length) λi=>bif Nat.blt i n then get i else .int .u8 (s.getD (i-n) 0).toNat) y,room (n+s.length) cA.bytes=true]})
       else none
      |_,_=>none
     else none
    |some cA,some (.full k n get),some d2,_,.val y::rs=>
     bif Nat.beq k cA.size&&Nat.ble 1 cA.size&&Nat.ble 1 cA.bytes&&p.isEmpty then
      match d2,t2.k with
      |.v (.bT aj m mw),.bT _=>bif Nat.beq aj k&&Nat.ble 1 m then
       some (.go {e:=some {d:=.v y,own:=some e},hF:=[t],rs,bc:=[hK (.bT k (n+m) λi=>bif Nat.blt i n then get i else mw (i-n)) y,room (n+m) cA.bytes=true]})
       else none
      |_,_=>none
     else none
    |_,_,_,_,_=>none
   |_,_,_=>none
  |.builtin .min=>match mapM' (λy=>r y) c.args.toList with
   |some [.v (.int k a),.v (.int aj b)]=>bif decide (k=aj)then val (some (.v (.int k (bif decide (b<a)then b else a))))else none
   |_=>none
  |.builtin .max=>match mapM' (λy=>r y) c.args.toList with
   |some [.v (.int k a),.v (.int aj b)]=>bif decide (k=aj)then val (some (.v (.int k (bif decide (a<b)then b else a))))else none
   |_=>none
  |_=>none
 |.panic x=>match r x with
  |some (.v (.iface t y))=>some (.bj (.iface t y) [] [])
  |_=>none
 |_=>none
def gX:List Nat→List (Nat×aZ)→List (Nat×aZ)
 |[],env=>env
 |t::l,env=>match look env t with
  |some e=>(t,{e with own:=none})::gX l env
  |none=>gX l env
inductive tL where
 |go (g:dt)
 |bj (x:V) (st:aK) (bc:List Prop)
def p8:List (Nat×aZ)→List (Nat×aZ)
 |[]=>[]
 |(t,e)::l=>(t,{d:=e.d})::p8 l
def p9(ops:List Oper)(g:dt)(o:Oper):Option Path:=
 match o.guard with
 |none=>some []
 |some (j,w)=>match(ops[j]?).bind (·.dst) with
  |some t=>match look g.ca t with
   |some (q,.v (.bool _))=>some (q++[(t,w)])
   |some _=>none
   |none=>match look g.env t with
    |some ⟨.v (.bool _),_⟩=>some [(t,w)]
    |_=>none
  |none=>none
def yp(ca:List (Nat×Path×D))(t:Nat):Bool:=ca.all λx=>Nat.beq x.1 t||x.2.1.all λy=>!Nat.beq y.1 t
def kv(
 cx:gJ) (tt:dS) (N:Nat) (ops:List Oper) (g:dt) (o:Oper):Option tL:=
 match p9 ops g o with
 |none=>none
 |some p=>
  match step1 cx tt ops g p o with
  |none=>none
  |some (.bj x hs bc)=>bif p.isEmpty then some (.bj x {env:=p8 g.env,H:=hs++g.H,a1:=g.a1} (bc++g.bc))else none
  |some (
   .go f)=>
   let fa:dt:={g with rs:=f.rs,bc:=f.bc.map (under g p)++g.bc}
   match o.dst with
   |none=>bif p.isEmpty then some (.go {fa with env:=gX f.hF g.env,H:=f.hs++g.H,a1:=g.a1+f.nx})else none
   |some t=>bif Nat.blt t N&&yp g.ca t then
    match p with
    |[]=>some (.go {fa with
     env:=match f.e with|some e=>(t,e)::gX f.hF g.env|none=>del (gX f.hF g.env) t
     ca:=del g.ca t,H:=f.hs++g.H,a1:=g.a1+f.nx})
    |_::_=>match f.e,f.hs,f.hF with
     |some e,[],[]=>bif p.all (λy=>!Nat.beq y.1 t)&&Nat.beq f.nx 0 then some (.go {fa with env:=del g.env t,ca:=(t,p,e.d)::del g.ca t})else none
     |_,_,_=>none
    else none
def tM(cx:gJ)(tt:dS)(N:Nat)(ops:List Oper):List Oper→dt→Option tL
 |[],g=>some (.go g)
 |o::l,g=>match kv cx tt N ops g o with
  |some (.go fa)=>tM cx tt N ops l fa
  |x=>x
mutual
def below(n:Nat):D→Bool
 |.v _ |.fg _ |.full _ _ _=>true
 |.ptr r _=>Nat.blt r n
 |.cK r _ _=>Nat.blt r n
 |.fn _ fq=>vp n fq
 |.agg cs |.bU cs=>vp n cs
def vp(n:Nat):List D→Bool
 |[]=>true
 |d::l=>below n d&&vp n l
end
def sl(n:Nat):List aZ→Bool
 |[]=>true
 |e::l=>below n e.d&&sl n l
def B9(env:List (Nat×aZ)):List Nat→Option (List (Nat×aZ))
 |[]=>some []
 |t::l=>match look env t,B9 env l with
  |some e,some cR=>some ((t,e)::cR)
  |_,_=>none
def B'(H:List (Nat×List aZ)):List Nat→Option (List (Nat×List aZ))
 |[]=>some []
 |r::l=>match look H r,B' H l with
  |some e,some cR=>some ((r,e)::cR)
  |_,_=>none
def vq(live:List Nat)(boxes:List Nat)(n:Nat)(env:List (Nat×aZ))(H:List (Nat×List aZ))(a1:Nat):Option aK:=
 match B9 env live,B' H boxes with
 |some od,some H'=>bif Nat.ble n a1&&od.all (λx=>below n x.2.d)&&H'.all (λx=>Nat.blt x.1 n&&sl n x.2)then some {env:=od,H:=H',a1:=n}else none
 |_,_=>none
inductive Fin where
 |go (st:aK) (bc:List Prop)
 |bj (x:V) (st:aK) (bc:List Prop)
def dw.mono{M M':Mem}(db:M.le M'){v:Value}{x:V}(h:dw M v x):dw M' v x:=by
 induction h with
 |int k n=>exact .int k n
 |bool b=>exact .bool b
 |str l=>exact .str l
 |agg vs cs hn Z _ aW=>exact .agg vs cs hn Z aW
 |mv k get=>exact .mv k get
 |p4 a k get=>exact .p4 a k get
 |bT b off k n cap get val hc hk hm Z _ aW=>exact .bT b off k n cap get val hc hk (λi j hi hj=>db _ _ _ (hm i j hi hj)) Z aW
 |iface t v x _ aW=>exact .iface t v x aW
 |gW=>exact .gW
 |jE=>exact .jE
 |i8=>exact .i8
 |any v Z=>exact .any v Z
 |o1 k get=>exact .o1 k get
inductive cE(M:Mem)(β:Nat→Option Nat):Value→D→Prop where
 |v (u:Value) (x:V) (h:dw M u x):cE M β u (.v x)
 |ptr (r off b:Nat) (h:β r=some b):cE M β (.pointer (some ⟨b,off,none⟩)) (.ptr r off)
 |l9 (r off:Nat) (u:TypeId):cE M β (.pointer none) (.cK r off u)
 |cK (r off b:Nat) (u:TypeId) (h:β r=some b):cE M β (.pointer (some ⟨b,off,none⟩)) (.cK r off u)
 |fg (b off:Nat) (x:V) (val:Nat→Value) (db:∀j,j<x.cells.length→M b (off+j)=some (val j)) (Z:∀j,j<x.cells.length→(val j).oneCell'=true)
  (h:∀(j:Nat) c,x.cells[j]? = some c→dw M (val j) c):cE M β (.pointer (some ⟨b,off,none⟩)) (.fg x)
 |full (base:Option Addr) (k n:Nat) (get:Nat→V) (h:dw M (.slice base n n) (.bT k n get)):cE M β (.slice base n n) (.full k n get)
 |fn (f:FuncId) (vs:List Value) (cs:List D) (hn:vs.length=cs.length)
  (h:∀(i:Nat) v c,vs[i]? = some v→cs[i]? = some c→cE M β v c):cE M β (.func (.func f) #[] ⟨vs⟩) (.fn f cs)
 |agg (vs:List Value) (cs:List D) (hn:vs.length=cs.length) (Z:∀v,v∈vs→v.oneCell'=true)
  (h:∀(i:Nat) v c,vs[i]? = some v→cs[i]? = some c→cE M β v c):cE M β (.agg ⟨vs⟩) (.agg cs)
 |bU (vs:List Value) (cs:List D) (hn:vs.length=cs.length)
  (h:∀(i:Nat) v c,vs[i]? = some v→cs[i]? = some c→cE M β v c):cE M β (.tuple ⟨vs⟩) (.bU cs)
def cE.mono{M M':Mem}{β:Nat→Option Nat}(db:M.le M'){v:Value}{d:D}(h:cE M β v d):cE M' β v d:=by
 induction h with
 |v u x h=>exact .v u x (h.mono db)
 |ptr r off b h=>exact .ptr r off b h
 |l9 r off u=>exact .l9 r off u
 |cK r off b u h=>exact .cK r off b u h
 |fg b off x val hm Z h=>exact .fg b off x val (λj hj=>db _ _ _ (hm j hj)) Z (λj c hc=>(h j c hc).mono db)
 |full b k n get h=>exact .full b k n get (h.mono db)
 |fn f vs cs hn _ aW=>exact .fn f vs cs hn aW
 |agg vs cs hn Z _ aW=>exact .agg vs cs hn Z aW
 |bU vs cs hn _ aW=>exact .bU vs cs hn aW
def tN{n:Nat}:∀{l:List D} {i:Nat} {d:D},vp n l=true→l[i]? = some d→below n d=true
 |[],_,_,_,h=>by simp at h
 |d::l,0,_,hb,h=>by simp [vp]at hb;simp at h;exact h ▸ hb.1
 |d::l,i+1,_,hb,h=>by simp [vp]at hb;simp at h;exact tN hb.2 h
def cE.Wy{M:Mem}{β β':Nat→Option Nat}{n:Nat}(hL:∀r,r<n→β' r=β r){v:Value}{d:D}(h:cE M β v d):Ab.below n d=true→cE M β' v d:=by
 induction h with
 |v u x h=>intro _;exact .v u x h
 |ptr r off b h=>intro hb;exact .ptr r off b (by rw [hL r (by simpa [Ab.below,Nat.blt_eq]using hb)];exact h)
 |l9 r off u=>intro hb;exact .l9 r off u
 |cK r off b u h=>intro hb;exact .cK r off b u (by rw [hL r (by simpa [Ab.below,Nat.blt_eq]using hb)];exact h)
 |fg b off x val hm Z h=>intro _;exact .fg b off x val hm Z h
 |full b k n get h=>intro _;exact .full b k n get h
 |fn f vs cs hn _ aW=>intro hb;exact .fn f vs cs hn λi v c ao hc=>aW i v c ao hc (tN (by simpa [Ab.below]using hb) hc)
 |agg vs cs hn Z _ aW=>intro hb;exact .agg vs cs hn Z λi v c ao hc=>aW i v c ao hc (tN (by simpa [Ab.below]using hb) hc)
 |bU vs cs hn _ aW=>intro hb;exact .bU vs cs hn λi v c ao hc=>aW i v c ao hc (tN (by simpa [Ab.below]using hb) hc)
def yq{f:Nat→Option Nat}:∀{l cR:List D},lH f l=some cR→l.length=cR.length∧∀(i:Nat) d,l[i]? = some d→∃eA,cR[i]? = some eA∧eP f d=some eA
 |[],cR,h=>by simp [lH]at h;subst h;simp
 |d::l,cR,h=>by
  simp only [lH]at h;split at h<;>simp at h
  rename_i eA i_ hd ae;subst h;obtain⟨Z,ad⟩:=yq ae;refine⟨by simp [Z],λi x hx=>?_⟩
  cases i with
  |zero=>simp at hx;subst hx;exact⟨eA,by simp,hd⟩
  |succ i=>simp at hx;simpa using ad i x hx
def cE.eP{M:Mem}{β β':Nat→Option Nat}{f:Nat→Option Nat}(hL:∀r s b,f r=some s→β r=some b→β' s=some b){v:Value}{d:D}(h:cE M β v d):
 ∀{eA},eP f d=some eA→cE M β' v eA:=by
 induction h with
 |v u x h=>intro eA hd;simp [Ab.eP]at hd;subst hd;exact .v u x h
 |ptr r off b h=>
  intro eA hd;simp only [Ab.eP,Option.map_eq_some_iff]at hd;obtain⟨s,hs,rfl⟩:=hd;exact .ptr s off b (hL r s b hs h)
 |l9 r off u=>
  intro eA hd;simp only [Ab.eP,Option.map_eq_some_iff]at hd;obtain⟨s,hs,rfl⟩:=hd;exact .l9 s off u
 |cK r off b u h=>
  intro eA hd;simp only [Ab.eP,Option.map_eq_some_iff]at hd;obtain⟨s,hs,rfl⟩:=hd;exact .cK s off b u (hL r s b hs h)
 |fg b off x val hm Z h=>intro eA hd;simp [Ab.eP]at hd;subst hd;exact .fg b off x val hm Z h
 |full b k n get h=>intro eA hd;simp [Ab.eP]at hd;subst hd;exact .full b k n get h
 |fn f vs cs hn _ aW=>
  intro eA hd;simp only [Ab.eP,Option.map_eq_some_iff]at hd;obtain⟨cs',ev,rfl⟩:=hd;obtain⟨Z,ad⟩:=yq ev;refine .fn f vs cs' (by omega) λi v c ao hc=>?_
  have hi:i<cs.length:=by have:=(List.getElem?_eq_some_iff.1 hc).1;omega
  obtain⟨d1,gK,ah⟩:=ad i cs[i] (List.getElem?_eq_getElem hi);rw [hc]at gK;cases gK;exact aW i v _ ao (List.getElem?_eq_getElem hi) ah
 |agg vs cs hn Z _ aW=>
  intro eA hd;simp only [Ab.eP,Option.map_eq_some_iff]at hd;obtain⟨cs',ev,rfl⟩:=hd;obtain⟨h0,ad⟩:=yq ev;refine .agg vs cs' (by omega) Z λi v c ao hc=>?_
  have hi:i<cs.length:=by have:=(List.getElem?_eq_some_iff.1 hc).1;omega
  obtain⟨d1,gK,ah⟩:=ad i cs[i] (List.getElem?_eq_getElem hi);rw [hc]at gK;cases gK;exact aW i v _ ao (List.getElem?_eq_getElem hi) ah
 |bU vs cs hn _ aW=>
  intro eA hd;simp only [Ab.eP,Option.map_eq_some_iff]at hd;obtain⟨cs',ev,rfl⟩:=hd;obtain⟨Z,ad⟩:=yq ev;refine .bU vs cs' (by omega) λi v c ao hc=>?_
  have hi:i<cs.length:=by have:=(List.getElem?_eq_some_iff.1 hc).1;omega
  obtain⟨d1,gK,ah⟩:=ad i cs[i] (List.getElem?_eq_getElem hi);rw [hc]at gK;cases gK;exact aW i v _ ao (List.getElem?_eq_getElem hi) ah
def cE.Ns{M:Mem}{β β':Nat→Option Nat}(hL:∀r b,β r=some b→β' r=some b){v:Value}{d:D}(h:cE M β v d):cE M β' v d:=by
 induction h with
 |v u x h=>exact .v u x h
 |ptr r off b h=>exact .ptr r off b (hL r b h)
 |l9 r off u=>exact .l9 r off u
 |cK r off b u h=>exact .cK r off b u (hL r b h)
 |fg b off x val hm Z h=>exact .fg b off x val hm Z h
 |full b k n get h=>exact .full b k n get h
 |fn f vs cs hn _ aW=>exact .fn f vs cs hn aW
 |agg vs cs hn Z _ aW=>exact .agg vs cs hn Z aW
 |bU vs cs hn _ aW=>exact .bU vs cs hn aW
def cE.afL{M:Mem}{β β':Nat→Option Nat}{n:Nat}(hL:∀r,r<n→∀b,β r=some b→β' r=some b){v:Value}{d:D}(h:cE M β v d):Ab.below n d=true→cE M β' v d:=by
 induction h with
 |v u x h=>intro _;exact .v u x h
 |ptr r off b h=>intro hb;exact .ptr r off b (hL r (by simpa [Ab.below,Nat.blt_eq]using hb) b h)
 |l9 r off u=>intro hb;exact .l9 r off u
 |cK r off b u h=>intro hb;exact .cK r off b u (hL r (by simpa [Ab.below,Nat.blt_eq]using hb) b h)
 |fg b off x val hm Z h=>intro _;exact .fg b off x val hm Z h
 |full b k n get h=>intro _;exact .full b k n get h
 |fn f vs cs hn _ aW=>intro hb;exact .fn f vs cs hn λi v c ao hc=>aW i v c ao hc (tN (by simpa [Ab.below]using hb) hc)
 |agg vs cs hn Z _ aW=>intro hb;exact .agg vs cs hn Z λi v c ao hc=>aW i v c ao hc (tN (by simpa [Ab.below]using hb) hc)
 |bU vs cs hn _ aW=>intro hb;exact .bU vs cs hn λi v c ao hc=>aW i v c ao hc (tN (by simpa [Ab.below]using hb) hc)
structure Ctx where
 vr:Mem
 F:Nat→Option Obj
 j':Nat→Option Nat
 h1:Os×Array (Nat×ByteArray)
 ds:List Deferred:=[]
inductive Loc where
 |slot (s:Nat)
 |cell (r i:Nat)
deriving DecidableEq
def aK.at(st:aK):Loc→Option aZ
 |.slot s=>look st.env s
 |.cell r i=>(look st.H r).bind (·[i]?)
def cn(tmps:Array Value)(w:World)(β:Nat→Option Nat):Loc→Value
 |.slot s=>tmps.getD s undef
 |.cell r i=>match β r with
  |some b=>(w.cell? ⟨b,i,none⟩).getD undef
  |none=>undef
def kw:Value→Option Nat
 |.slice (some a) _ _=>some a.block
 |_=>none
def l'(P:Program)(F:Nat→Option Obj)(M:Mem)(w:World)(T:TypeId)(v:Value):Prop:=
 v = .slice none 0 0∨∃b n cap vs T',v = .slice (some ⟨b,0,none⟩) n cap∧n≤cap∧w.heap[b]? = some (.cells ⟨vs⟩ T' (0,0))∧cap*P.cellsOf T≤vs.length∧
  (∀o,n*P.cellsOf T≤o→M b o=none)∧F b=none∧T'=T
def kx(P:Program)(F:Nat→Option Obj)(M:Mem)(w:World)(T:TypeId):Value→Prop
 |.agg cs=>(∀x,x∈marks T→l' P F M w x.2 (cs.getD x.1 undef))∧∀x,x∈marks T→∀y,y∈marks T→x.1≠y.1→∀b,kw (cs.getD x.1 undef)=some b→kw (cs.getD y.1 undef)≠some b
 |v=>l' P F M w T v
def jp(T:TypeId):Value→Nat→Prop
 |.agg cs,b=>∃x,x∈marks T∧kw (cs.getD x.1 undef)=some b
 |v,b=>kw v=some b
def Nt (P : Program) : List Nat := ["strconv.ErrSyntax", "strconv.ErrRange"].filterMap P.globalNamed
def Nu:Array Value:=((List.range 20).map λi=>Value.int .u64 ((10 ^ i:Nat):Int)).toArray
def sm(P:Program)(F:Nat→Option Obj):Prop:=
 (∀g,g∈Nt P→∃cs t lf fU,F g=some (.cells cs t lf)∧cs[0]? = some fU∧(fU = .nilIface∨∃cA sn,fU = .iface cA sn))∧
 ∀ g, P.globalNamed "internal/strconv.uint64pow10" = some g → ∃ t lf, F g = some (.cells Nu t lf)
def sm.mono{P:Program}{F tO:Nat→Option Obj}(h:sm P F)(dV:∀b bc,F b=some bc→tO b=some bc):sm P tO:=⟨λg hg=>by
 obtain⟨cs,t,lf,fU,Z,ad,am⟩:=h.1 g hg;exact⟨cs,t,lf,fU,dV _ _ Z,ad,am⟩,λg hg=>by
 obtain⟨t,lf,Z⟩:=h.2 g hg;exact⟨t,lf,dV _ _ Z⟩⟩
def lJ(P:Program)(T:TypeId)(n:Nat)(cs:List aZ):Prop:=∀e,e∈cs→∀r off u,e.d = .cK r off u→liesAt P P.depth T (n / P.cellsOf T) off u 1=true
def afM(P:Program)(T:TypeId)(vs:List Value)(cs:List aZ):Prop:=(∀v,v∈vs→v.oneCell'=true)∧lJ P T vs.length cs
def lJ.sub{P:Program}{T:TypeId}{n:Nat}{cs cs':List aZ}(h:lJ P T n cs)(hs:∀e,e∈cs'→∃bO,bO∈cs∧bO.d=e.d):lJ P T n cs':=λe he r off u hd=>by
 obtain⟨bO,Z,ad⟩:=hs e he;exact h bO Z r off u (ad.trans hd)
structure bR(P:Program)(K:Ctx)(M:Mem)(β:Nat→Option Nat)(st:aK)(tmps:Array Value)(w:World):Prop where
 fb:∀l e,st.at l=some e→cE M β (cn tmps w β l) e.d
 own:∀l e T,st.at l=some e→e.own=some T→kx P K.F M w T (cn tmps w β l)
 uniq:∀l cR e a7 T T' b,st.at l=some e→e.own=some T→st.at cR=some a7→a7.own=some T'→
  jp T (cn tmps w β l) b→jp T' (cn tmps w β cR) b→l=cR
 unbox:∀l e T b r cs,st.at l=some e→e.own=some T→jp T (cn tmps w β l) b→look st.H r=some cs→β r≠some b
 box:∀r cs,look st.H r=some cs→∃b vs T,β r=some b∧w.heap[b]? = some (.cells ⟨vs⟩ T (0,0))∧vs.length=cs.length∧(∀o,M b o=none)∧K.F b=none∧afM P T vs cs
 inj:∀r cT b cs cs',look st.H r=some cs→look st.H cT=some cs'→β r=some b→β cT=some b→r=cT
 lt:∀r b,β r=some b→r<st.a1
 mem:∀b o v,M b o=some v→w.cell? ⟨b,o,none⟩=some v
 m0:K.vr.le M
 frame:∀b bc,K.F b=some bc→w.heap[b]? = some bc∧∀o,M b o=K.vr b o
 iH:∀r b,K.j' r=some b→β r=some b
 jq:sm P K.F
 h1:(w.os,w.output)=K.h1
def aK.Nv{st:aK}{r i:Nat}{cs:List aZ}(h:look st.H r=some cs):st.at (.cell r i)=cs[i]? := by simp [aK.at,h]
def B_:∀{l:List D},sh l=true→∀d,d∈l→∀r off u,d ≠ .cK r off u
 |[],h,d,hd=>by cases hd
 |x::l,h,d,hd=>by
  have ad:sh l=true:=by cases x<;>first|exact h|cases h
  rcases List.mem_cons.1 hd with rfl|kQ
  ·intro r off u e;subst e;cases h
  ·exact B_ ad d kQ
def lJ.Nw{P:Program}{T:TypeId}{n r:Nat}{st b':aK}{cs cs':List aZ}(h:lJ P T n cs)(Z:look st.H r=some cs)(ad:look b'.H r=some cs')
 (he:∀l a7,b'.at l=some a7→∃e,st.at l=some e∧(e.d=a7.d∨∀q off u,a7.d ≠ .cK q off u)):lJ P T n cs':=λe hm q off u hd=>by
 obtain⟨i,hi,rfl⟩:=List.getElem_of_mem hm;obtain⟨bO,g1,g2⟩:=he (.cell r i) cs'[i] (by rw [aK.Nv ad];exact List.getElem?_eq_getElem hi)
 rw [aK.Nv Z]at g1;rcases g2 with g2|g2
 ·exact h bO (List.mem_of_getElem? g1) q off u (g2.trans hd)
 ·exact absurd hd (g2 q off u)
def dN{α:Type}(j:Nat)(x:α)(l:List (Nat×α))(i:Nat):look ((j,x)::l) i=if j=i then some x else look l i:=by
 by_cases h:j=i
 ·simp [look,h]
 ·have:Nat.beq j i=false:=by rw [Bool.eq_false_iff];simpa using h
  simp [look,h,this]
def q3{α:Type}(l:List (Nat×α))(t i:Nat):look (del l t) i=if t=i then none else look l i:=by
 induction l with
 |nil=>simp [del,look]
 |cons x l aW=>
  obtain⟨j,x⟩:=x;by_cases h:j=t
  ·subst h;have:Nat.beq j j=true:=by simp
   simp only [del,this,cond_true,aW,dN];by_cases ad:j=i<;>simp [ad]
  ·have cO:Nat.beq j t=false:=by rw [Bool.eq_false_iff];simpa using h
   simp only [del,cO,cond_false,dN,aW];by_cases ad:j=i
   ·subst ad;simp [Ne.symm h]
   ·simp [ad]
def cell_of_heap{w:World}{b o:Nat}{vs:List Value}{T:TypeId}{o6:Nat×Nat}(h:w.heap[b]? = some (.cells ⟨vs⟩ T o6)):w.cell? ⟨b,o,none⟩=vs[o]? := by
 simp [World.cell?,h]
def lt_of_heap{w:World}{b:Nat}{bc:Obj}(h:w.heap[b]? = some bc):b<w.heap.size:=by
 rcases Nat.lt_or_ge b w.heap.size with cO|cO
 ·exact cO
 ·simp [Array.getElem?_eq_none cO]at h
def lt_of_cell{w:World}{b o:Nat}{v:Value}(h:w.cell? ⟨b,o,none⟩=some v):b<w.heap.size:=by
 unfold World.cell? at h;split at h
 ·rename_i bB;exact lt_of_heap bB
 ·cases h
def so{w w':World}{b o:Nat}(h:w'.heap[b]? = w.heap[b]?):w'.cell? ⟨b,o,none⟩=w.cell? ⟨b,o,none⟩:=by
 simp [World.cell?,h]
section
variable {P:Program} {K:Ctx} {M M':Mem} {β β':Nat→Option Nat} {st b':aK} {tmps eB:Array Value} {w w':World}
def l'.lt{F:Nat→Option Obj}{T:TypeId}{v:Value}{b:Nat}(h:l' P F M w T v)(hb:kw v=some b):b<w.heap.size:=by
 rcases h with rfl|⟨bM,n,cap,vs,T',rfl,_,bB,_⟩
 ·simp [kw]at hb
 ·simp [kw]at hb;subst hb;exact lt_of_heap bB
def l'.free{F:Nat→Option Obj}{T:TypeId}{v:Value}{b:Nat}(h:l' P F M w T v)(hb:kw v=some b):F b=none:=by
 rcases h with rfl|⟨bM,n,cap,vs,T',rfl,_,bB,_,_,dV,_⟩
 ·simp [kw]at hb
 ·simp [kw]at hb;subst hb;exact dV
def l'.congr{F:Nat→Option Obj}{T:TypeId}{v:Value}(h:l' P F M w T v)(hw:∀b,kw v=some b→w'.heap[b]? = w.heap[b]?)(db:∀b o,kw v=some b→M' b o=M b o):
 l' P F M' w' T v:=by
 rcases h with rfl|⟨bM,n,cap,vs,T',rfl,Z,bB,ad,am,dV⟩
 ·exact .inl rfl
 ·exact .inr ⟨bM,n,cap,vs,T',rfl,Z,(hw bM rfl).trans bB,ad,λo aq=>(db bM o rfl).trans (am o aq),dV⟩
def l'.at{F:Nat→Option Obj}{T:TypeId}{v:Value}(h:l' P F M w T v):kx P F M w T v:=by
 rcases h with rfl|⟨bM,n,cap,vs,T',rfl,Z,bB,ad,am,dV⟩
 ·exact .inl rfl
 ·exact .inr ⟨bM,n,cap,vs,T',rfl,Z,bB,ad,am,dV⟩
def l'.yr{F tO:Nat→Option Obj}{T:TypeId}{v:Value}(h:l' P F M w T v)(dV:∀b,kw v=some b→F b=none→tO b=none):l' P tO M w T v:=by
 rcases h with rfl|⟨bM,n,cap,vs,T',rfl,Z,bB,ad,am,aR,bv⟩
 ·exact .inl rfl
 ·exact .inr ⟨bM,n,cap,vs,T',rfl,Z,bB,ad,am,dV bM rfl aR,bv⟩
def kx.cases{F:Nat→Option Obj}{T:TypeId}{v:Value}(h:kx P F M w T v):
 (∃cs,v = .agg cs)∨(l' P F M w T v∧∀b,jp T v b↔kw v=some b):=by
 cases v<;>first
  |exact .inl ⟨_,rfl⟩
  |exact .inr ⟨h,λ_=>Iff.rfl⟩
def kx.lt{F:Nat→Option Obj}{T:TypeId}{v:Value}{b:Nat}(h:kx P F M w T v)(hb:jp T v b):b<w.heap.size:=by
 rcases h.cases with⟨cs,rfl⟩|⟨Z,ad⟩
 ·obtain⟨x,hx,hb⟩:=hb;exact(h.1 x hx).lt hb
 ·exact Z.lt ((ad b).1 hb)
def kx.free{F:Nat→Option Obj}{T:TypeId}{v:Value}{b:Nat}(h:kx P F M w T v)(hb:jp T v b):F b=none:=by
 rcases h.cases with⟨cs,rfl⟩|⟨Z,ad⟩
 ·obtain⟨x,hx,hb⟩:=hb;exact(h.1 x hx).free hb
 ·exact Z.free ((ad b).1 hb)
def kx.congr{F:Nat→Option Obj}{T:TypeId}{v:Value}(h:kx P F M w T v)(hw:∀b,jp T v b→w'.heap[b]? = w.heap[b]?)(db:∀b o,jp T v b→M' b o=M b o):
 kx P F M' w' T v:=by
 rcases h.cases with⟨cs,rfl⟩|⟨Z,ad⟩
 ·exact⟨λx hx=>(h.1 x hx).congr (λb hb=>hw b ⟨x,hx,hb⟩) (λb o hb=>db b o ⟨x,hx,hb⟩),h.2⟩
 ·exact(Z.congr (λb hb=>hw b ((ad b).2 hb)) (λb o hb=>db b o ((ad b).2 hb))).at
def kx.yr{F tO:Nat→Option Obj}{T:TypeId}{v:Value}(h:kx P F M w T v)(dV:∀b,jp T v b→F b=none→tO b=none):kx P tO M w T v:=by
 rcases h.cases with⟨cs,rfl⟩|⟨Z,ad⟩
 ·exact⟨λx hx=>(h.1 x hx).yr λb hb=>dV b ⟨x,hx,hb⟩,h.2⟩
 ·exact(Z.yr λb hb=>dV b ((ad b).2 hb)).at
def kx.bT{F:Nat→Option Obj}{T:TypeId}{v:Value}{vr:Mem}{k n:Nat}{get:Nat→V}(h:kx P F M w T v){j':Nat→Option Nat}(ao:cE vr j' v (.v (.bT k n get))):l' P F M w T v:=by
 cases ao with|v _ _ ao=>cases ao<;>exact h
def Nx(h:bR P K M β st tmps w){r i:Nat}{cs:List aZ}{e:aZ}(ah:look st.H r=some cs)(hi:cs[i]? = some e):
 ∃b vs T v,β r=some b∧w.heap[b]? = some (.cells ⟨vs⟩ T (0,0))∧vs[i]? = some v∧cn tmps w β (.cell r i)=v:=by
 obtain⟨b,vs,T,hb,bB,ae,_⟩:=h.box r cs ah;have Ny:i<cs.length:=(List.getElem?_eq_some_iff.1 hi).1;have ao:vs[i]? = some vs[i]:=List.getElem?_eq_getElem (by omega)
 exact⟨b,vs,T,_,hb,bB,ao,by simp only [cn,hb,cell_of_heap bB,ao,Option.getD_some]⟩
def bR.Ca(h:bR P K M β st tmps w){r b:Nat}{cs:List aZ}(ah:look st.H r=some cs)(hb:β r=some b):b<w.heap.size:=by
 obtain⟨bM,vs,T,b0,bB,_⟩:=h.box r cs ah;rw [hb]at b0;cases b0;exact lt_of_heap bB
def bR.free(h:bR P K M β st tmps w)(b:Nat)(dV:K.F b=none)(vt:∀r cs,look st.H r=some cs→β r≠some b)
 (f8:∀l e T,st.at l=some e→e.own=some T→¬ jp T (cn tmps w β l) b)
 (hw:∀bM,bM≠b→bM<w.heap.size→w'.heap[bM]? = w.heap[bM]?) (db:M.le M') (GO:∀bM o,bM≠b→M' bM o=M bM o)
 (yt:∀o v,M' b o=some v→w'.cell? ⟨b,o,none⟩=some v) (o7:(w'.os,w'.output)=(w.os,w.output):=by rfl):bR P K M' β st tmps w':=by
 have cB:∀l e,st.at l=some e→cn tmps w' β l=cn tmps w β l:=by
  intro l e ae;cases l with
  |slot s=>rfl
  |cell r i=>
   simp only [aK.at]at ae;cases ah:look st.H r with
   |none=>simp [ah]at ae
   |some cs=>
    obtain⟨cl,vs,T,cP,bB,_⟩:=h.box r cs ah;have dY:cl≠b:=λe=>vt r cs ah (e ▸ cP)
    simp only [cn,cP];rw [so (hw cl dY (lt_of_heap bB))]
 constructor
 ·intro l e ae;rw [cB l e ae];exact(h.fb l e ae).mono db
 ·intro l e T ae aT;rw [cB l e ae];refine(h.own l e T ae aT).congr (λcl cP=>hw cl ?_ ((h.own l e T ae aT).lt cP)) (λcl o cP=>GO cl o ?_) <;>
  ·rintro rfl;exact f8 l e T ae aT cP
 ·intro l cR e a7 T T' cl ae aT cZ ep hb b0;rw [cB l e ae]at hb;rw [cB cR a7 cZ]at b0;exact h.uniq l cR e a7 T T' cl ae aT cZ ep hb b0
 ·intro l e T cl r cs ae aT hb ah;rw [cB l e ae]at hb;exact h.unbox l e T cl r cs ae aT hb ah
 ·intro r cs ah;obtain⟨cl,vs,T,cP,bB,Z,ad,am⟩:=h.box r cs ah;have dY:cl≠b:=λe=>vt r cs ah (e ▸ cP)
  exact⟨cl,vs,T,cP,(hw cl dY (lt_of_heap bB)).trans bB,Z,λo=>(GO cl o dY).trans (ad o),am⟩
 ·exact h.inj
 ·exact h.lt
 ·intro cl o v ao;by_cases dY:cl=b
  ·subst dY;exact yt o v ao
  ·rw [GO cl o dY]at ao;have:=h.mem cl o v ao
   rw [so (hw cl dY (lt_of_cell this))];exact this
 ·exact Mem.le_trans h.m0 db
 ·intro cl bc cP;have dY:cl≠b:=by rintro rfl;rw [dV]at cP;cases cP
  obtain⟨Z,ad⟩:=h.frame cl bc cP;exact⟨(hw cl dY (lt_of_heap Z)).trans Z,λo=>(GO cl o dY).trans (ad o)⟩
 ·exact h.iH
 ·exact h.jq
 ·exact o7.trans h.h1
def bR.grow(h:bR P K M β st tmps w)(hw:∀b,b<w.heap.size→w'.heap[b]? = w.heap[b]?)(o7:(w'.os,w'.output)=(w.os,w.output):=by rfl):bR P K M β st tmps w':=by
 have hn:∀b,w.heap.size≤b→K.F b=none:=by
  intro b hb;cases dV:K.F b with
  |none=>rfl
  |some bc=>have:=lt_of_heap (h.frame b bc dV).1;omega
 refine h.free w.heap.size (hn _ (Nat.le_refl _)) ?_ ?_ (λb _ hb=>hw b hb) (Mem.le_refl _) (λ_ _ _=>rfl) ?_ o7
 ·intro r cs ah hb;have:=h.Ca ah hb;omega
 ·intro l e T ae aT hb;have:=(h.own l e T ae aT).lt hb;omega
 ·intro o v ao;have:=lt_of_cell (h.mem _ _ _ ao);omega
def bR.sub(h:bR P K M β st tmps w)(hn:b'.a1=st.a1)
 (he:∀l a7,b'.at l=some a7→∃e,st.at l=some e∧e.d=a7.d∧∀T,a7.own=some T→e.own=some T)
 (eW:∀r cs',look b'.H r=some cs'→∃cs,look st.H r=some cs∧cs.length=cs'.length):bR P K M β b' tmps w:=by
 constructor
 ·intro l a7 ae;obtain⟨e,Z,ad,_⟩:=he l a7 ae;rw [←ad];exact h.fb l e Z
 ·intro l a7 T ae aT;obtain⟨e,Z,_,am⟩:=he l a7 ae;exact h.own l e T Z (am T aT)
 ·intro l cR e a7 T T' b ae aT cZ ep;obtain⟨e1,Z,_,am⟩:=he l e ae;obtain⟨e2,np,_,yu⟩:=he cR a7 cZ;exact h.uniq l cR e1 e2 T T' b Z (am T aT) np (yu T' ep)
 ·intro l e T b r cs ae aT hb ah;obtain⟨e1,Z,_,am⟩:=he l e ae;obtain⟨vu,ii,_⟩:=eW r cs ah;exact h.unbox l e1 T b r vu Z (am T aT) hb ii
 ·intro r cs ah;obtain⟨vu,ii,hlen⟩:=eW r cs ah;obtain⟨b,vs,T,Z,ad,am,aR,bv,cz,eG⟩:=h.box r vu ii
  exact⟨b,vs,T,Z,ad,am.trans hlen,aR,bv,cz,eG.Nw ii ah λl a7 ae=>by
   obtain⟨e,g1,g2,_⟩:=he l a7 ae;exact⟨e,g1,.inl g2⟩⟩
 ·intro r cT b cs cs' ah fj hb b0;obtain⟨c1,Z,_⟩:=eW r cs ah;obtain⟨c2,ad,_⟩:=eW cT cs' fj;exact h.inj r cT b c1 c2 Z ad hb b0
 ·intro r b hb;rw [hn];exact h.lt r b hb
 ·exact h.mem
 ·exact h.m0
 ·exact h.frame
 ·exact h.iH
 ·exact h.jq
 ·exact h.h1
def bR.afN(h:bR P K M β st tmps w)(hn:b'.a1=st.a1)
 (he:∀l a7,b'.at l=some a7→∃e,st.at l=some e∧((e.d=a7.d∧∀T,a7.own=some T→e.own=some T)∨∃k g,e.d = .v (.o1 k g)∧a7.d = .v (.bT k 0 g)))
 (eW:∀r cs',look b'.H r=some cs'→∃cs,look st.H r=some cs∧cs.length=cs'.length):bR P K M β b' tmps w:=by
 have p':∀l e k g,st.at l=some e→e.d = .v (.o1 k g)→cn tmps w β l = .slice none 0 0:=by
  intro l e k g ae hd;have:=h.fb l e ae
  rw [hd]at this;generalize cn tmps w β l=u at this ⊢
  cases this with
  |v u x hx=>cases hx;rfl
 constructor
 ·intro l a7 ae;obtain⟨e,Z,⟨ad,_⟩|⟨k,g,ad,am⟩⟩:=he l a7 ae
  ·rw [←ad];exact h.fb l e Z
  ·rw [am,p' l e k g Z ad];exact .v _ _ (.mv k g)
 ·intro l a7 T ae aT;obtain⟨e,Z,⟨_,am⟩|⟨k,g,ad,am⟩⟩:=he l a7 ae
  ·exact h.own l e T Z (am T aT)
  ·rw [p' l e k g Z ad];exact .inl rfl
 ·intro l cR e a7 T T' b ae aT cZ ep hb b0;obtain⟨e1,Z,⟨_,am⟩|⟨k,g,ad,am⟩⟩:=he l e ae
  ·obtain⟨e2,np,⟨_,yu⟩|⟨k,g,afO,yu⟩⟩:=he cR a7 cZ
   ·exact h.uniq l cR e1 e2 T T' b Z (am T aT) np (yu T' ep) hb b0
   ·rw [p' cR e2 k g np afO]at b0;cases b0
  ·rw [p' l e1 k g Z ad]at hb;cases hb
 ·intro l e T b r cs ae aT hb ah;obtain⟨vu,ii,_⟩:=eW r cs ah;obtain⟨e1,Z,⟨_,am⟩|⟨k,g,ad,am⟩⟩:=he l e ae
  ·exact h.unbox l e1 T b r vu Z (am T aT) hb ii
  ·rw [p' l e1 k g Z ad]at hb;cases hb
 ·intro r cs ah;obtain⟨vu,ii,hlen⟩:=eW r cs ah;obtain⟨b,vs,T,Z,ad,am,aR,bv,cz,eG⟩:=h.box r vu ii
  exact⟨b,vs,T,Z,ad,am.trans hlen,aR,bv,cz,eG.Nw ii ah λl a7 ae=>by
   obtain⟨e,g1,⟨g2,_⟩|⟨k,g,_,g3⟩⟩:=he l a7 ae
   ·exact⟨e,g1,.inl g2⟩
   ·exact⟨e,g1,.inr λq off u av=>by rw [g3]at av;cases av⟩⟩
 ·intro r cT b cs cs' ah fj hb b0;obtain⟨c1,Z,_⟩:=eW r cs ah;obtain⟨c2,ad,_⟩:=eW cT cs' fj;exact h.inj r cT b c1 c2 Z ad hb b0
 ·intro r b hb;rw [hn];exact h.lt r b hb
 ·exact h.mem
 ·exact h.m0
 ·exact h.frame
 ·exact h.iH
 ·exact h.jq
 ·exact h.h1
structure mV(P:Program)(K:Ctx)(M:Mem)(β:Nat→Option Nat)(st:aK)(tmps:Array Value)(w:World)(l0:Loc)(v:Value)(T:TypeId):Prop where
 own:kx P K.F M w T v
 apart:∀l e T' b,st.at l=some e→e.own=some T'→l≠l0→jp T v b→¬ jp T' (cn tmps w β l) b
 unbox:∀b r cs,jp T v b→look st.H r=some cs→β r≠some b
def bR.put(h:bR P K M β st tmps w){t:Nat}{v:Value}{e:aZ}(ax:t<tmps.size)(ao:cE M β v e.d)
 (aq:∀T,e.own=some T→mV P K M β st tmps w (.slot t) v T):
 bR P K M β {st with env:=(t,e)::st.env} (tmps.setIfInBounds t v) w:=by
 have fr:∀l,({st with env:=(t,e)::st.env}:aK).at l=if l = .slot t then some e else st.at l:=by
  intro l;cases l with
  |slot s=>
   simp only [aK.at,dN,Loc.slot.injEq];by_cases hs:t=s
   ·subst hs;simp
   ·simp [hs,Ne.symm hs]
  |cell r i=>simp [aK.at]
 have cB:∀l,cn (tmps.setIfInBounds t v) w β l=if l = .slot t then v else cn tmps w β l:=by
  intro l;cases l with
  |slot s=>
   simp only [cn,Loc.slot.injEq];by_cases hs:s=t
   ·subst hs;simp [ax]
   ·simp [hs,Ne.symm hs]
  |cell r i=>simp [cn]
 constructor
 ·intro l e1 ae;rw [fr]at ae;rw [cB];by_cases h0:l = .slot t
  ·simp only [h0,if_true]at ae ⊢;cases ae;exact ao
  ·simp only [h0,if_false]at ae ⊢;exact h.fb l e1 ae
 ·intro l e1 T ae aT;rw [fr]at ae;rw [cB];by_cases h0:l = .slot t
  ·simp only [h0,if_true]at ae ⊢;cases ae;exact(aq T aT).own
  ·simp only [h0,if_false]at ae ⊢;exact h.own l e1 T ae aT
 ·intro l cR e1 e2 T T' b ae aT cZ ep hb b0;rw [fr]at ae cZ;rw [cB]at hb b0;by_cases h0:l = .slot t<;>by_cases tP:cR = .slot t
  ·rw [h0,tP]
  ·simp only [h0,tP,if_true,if_false]at ae cZ hb b0;cases ae;exact absurd b0 ((aq T aT).apart cR e2 T' b cZ ep tP hb)
  ·simp only [h0,tP,if_true,if_false]at ae cZ hb b0;cases cZ;exact absurd hb ((aq T' ep).apart l e1 T b ae aT h0 b0)
  ·simp only [h0,tP,if_false]at ae cZ hb b0;exact h.uniq l cR e1 e2 T T' b ae aT cZ ep hb b0
 ·intro l e1 T b r cs ae aT hb ah;rw [fr]at ae;rw [cB]at hb;by_cases h0:l = .slot t
  ·simp only [h0,if_true]at ae hb;cases ae;exact(aq T aT).unbox b r cs hb ah
  ·simp only [h0,if_false]at ae hb;exact h.unbox l e1 T b r cs ae aT hb ah
 ·exact h.box
 ·exact h.inj
 ·exact h.lt
 ·exact h.mem
 ·exact h.m0
 ·exact h.frame
 ·exact h.iH
 ·exact h.jq
 ·exact h.h1
def bR.drop(h:bR P K M β st tmps w){t:Nat}{v:Value}:bR P K M β {st with env:=del st.env t} (tmps.setIfInBounds t v) w:=by
 have fr:∀l,({st with env:=del st.env t}:aK).at l=if l = .slot t then none else st.at l:=by
  intro l;cases l with
  |slot s=>
   simp only [aK.at,q3,Loc.slot.injEq];by_cases hs:t=s
   ·subst hs;simp
   ·simp [hs,Ne.symm hs]
  |cell r i=>simp [aK.at]
 have Z:bR P K M β {st with env:=del st.env t} tmps w:=by
  refine h.sub rfl (λl a7 ae=>?_) (λr cs ah=>⟨cs,ah,rfl⟩)
  rw [fr]at ae;by_cases h0:l = .slot t
  ·simp [h0]at ae
  ·simp only [h0,if_false]at ae;exact⟨a7,ae,rfl,λ_ h=>h⟩
 have cB:∀l e,({st with env:=del st.env t}:aK).at l=some e→cn (tmps.setIfInBounds t v) w β l=cn tmps w β l:=by
  intro l e ae;cases l with
  |slot s=>
   have hs:t≠s:=by rintro rfl;simp [aK.at,q3]at ae
   simp [cn,hs]
  |cell r i=>rfl
 constructor
 ·intro l e ae;rw [cB l e ae];exact Z.fb l e ae
 ·intro l e T ae aT;rw [cB l e ae];exact Z.own l e T ae aT
 ·intro l cR e a7 T T' b ae aT cZ ep hb b0;rw [cB l e ae]at hb;rw [cB cR a7 cZ]at b0;exact Z.uniq l cR e a7 T T' b ae aT cZ ep hb b0
 ·intro l e T b r cs ae aT hb ah;rw [cB l e ae]at hb;exact Z.unbox l e T b r cs ae aT hb ah
 ·exact Z.box
 ·exact Z.inj
 ·exact Z.lt
 ·exact Z.mem
 ·exact Z.m0
 ·exact Z.frame
 ·exact Z.iH
 ·exact Z.jq
 ·exact Z.h1
def bR.afP(h:bR P K M β st tmps w){gY n':Nat}(mx:∀b,β gY≠some b)(afQ:gY<n')(asM:st.a1≤n'){vs:List Value}{T:TypeId}{cs:List aZ}(hlen:vs.length=cs.length)(gL:∀v,v∈vs→v.oneCell'=true)(hlies:lJ P T vs.length cs)
 (ao:∀(i:Nat) v e,vs[i]? = some v→cs[i]? = some e→cE M β v e.d∧∀T,e.own=some T→v = .slice none 0 0):
 bR P K M (λr=>if r=gY then some w.heap.size else β r) {st with H:=(gY,cs)::st.H,a1:=n'} tmps {w with heap:=w.heap.push (.cells ⟨vs⟩ T (0,0))}:=by
 have Wz:∀r b,β r=some b→r≠gY:=λr b hb e=>mx b (e ▸ hb)
 have cP:∀r b,β r=some b→(λr=>if r=gY then some w.heap.size else β r) r=some b:=by
  intro r b hb;simp [Wz r b hb,hb]
 have f9:∀{v d},cE M β v d→cE M (λr=>if r=gY then some w.heap.size else β r) v d:=by
  intro v d hd;refine hd.Ns ?_;exact cP
 have hg:=h.grow (w':={w with heap:=w.heap.push (.cells ⟨vs⟩ T (0,0))}) (λb hb=>by simp [Array.getElem?_push,Nat.ne_of_lt hb])
 have hold:∀r cs,r≠gY→look ((gY,cs)::st.H) r=look st.H r:=λr cs dY=>by simp [dN,Ne.symm dY]
 have afR:∀r cs,look st.H r=some cs→r≠gY:=λr cs ah=>by obtain⟨b,_,_,hb,_⟩:=h.box r cs ah;exact Wz r b hb
 have cB:∀l e,st.at l=some e→cn tmps {w with heap:=w.heap.push (.cells ⟨vs⟩ T (0,0))} (λr=>if r=gY then some w.heap.size else β r) l=cn tmps {w with heap:=w.heap.push (.cells ⟨vs⟩ T (0,0))} β l:=by
  intro l e ae;cases l with
  |slot s=>rfl
  |cell r i=>
   simp only [aK.at]at ae;cases ah:look st.H r with
   |none=>simp [ah]at ae
   |some c=>simp [cn,afR r c ah]
 have WA:∀i e,cs[i]? = some e→∃v,vs[i]? = some v∧cn tmps {w with heap:=w.heap.push (.cells ⟨vs⟩ T (0,0))} (λr=>if r=gY then some w.heap.size else β r) (.cell gY i)=v:=by
  intro i e hi;have Ny:i<cs.length:=(List.getElem?_eq_some_iff.1 hi).1;have eU:vs[i]? = some vs[i]:=List.getElem?_eq_getElem (by omega)
  exact⟨_,eU,by simp [cn,World.cell?,hlen ▸ Ny]⟩
 have fr:∀l e,({st with H:=(gY,cs)::st.H,a1:=n'}:aK).at l=some e→(∃i,l = .cell gY i∧cs[i]? = some e)∨(st.at l=some e∧∀i,l ≠ .cell gY i):=by
  intro l e ae;cases l with
  |slot s=>exact .inr ⟨ae,by simp⟩
  |cell r i=>
   by_cases ah:r=gY
   ·subst ah;simp [aK.at,dN]at ae;exact .inl ⟨i,rfl,ae⟩
   ·refine .inr ⟨?_,by simp [ah]⟩
    simpa [aK.at,dN,Ne.symm ah]using ae
 have kR:∀l e T',({st with H:=(gY,cs)::st.H,a1:=n'}:aK).at l=some e→e.own=some T'→(∃i,l = .cell gY i)→cn tmps {w with heap:=w.heap.push (.cells ⟨vs⟩ T (0,0))} (λr=>if r=gY then some w.heap.size else β r) l = .slice none 0 0:=by
  rintro l e T' ae aT ⟨i,rfl⟩
  have hi:cs[i]? = some e:=by simpa [aK.at,dN]using ae
  obtain⟨v,Z,ad⟩:=WA i e hi;rw [ad];exact(ao i v e Z hi).2 T' aT
 constructor
 ·intro l e ae;rcases fr l e ae with⟨i,rfl,hi⟩|⟨aq,_⟩
  ·obtain⟨v,Z,ad⟩:=WA i e hi;rw [ad];exact f9 (ao i v e Z hi).1
  ·rw [cB l e aq];exact f9 (hg.fb l e aq)
 ·intro l e T' ae aT;rcases fr l e ae with⟨i,lg,hi⟩|⟨aq,_⟩
  ·rw [kR l e T' ae aT ⟨i,lg⟩];exact .inl rfl
  ·rw [cB l e aq];exact hg.own l e T' aq aT
 ·intro l cR e a7 hr p_ b ae aT cZ ep hb b0;rcases fr l e ae with⟨i,lg,hi⟩|⟨aq,_⟩
  ·rw [kR l e hr ae aT ⟨i,lg⟩]at hb;cases hb
  ·rcases fr cR a7 cZ with⟨i,lg,hi⟩|⟨lh,_⟩
   ·rw [kR cR a7 p_ cZ ep ⟨i,lg⟩]at b0;cases b0
   ·rw [cB l e aq]at hb;rw [cB cR a7 lh]at b0;exact hg.uniq l cR e a7 hr p_ b aq aT lh ep hb b0
 ·intro l e hr b r c ae aT hb ah;rcases fr l e ae with⟨i,lg,hi⟩|⟨aq,_⟩
  ·rw [kR l e hr ae aT ⟨i,lg⟩]at hb;cases hb
  ·rw [cB l e aq]at hb
   have b2:b<w.heap.size:=by
    have Z:=(h.own l e hr aq aT)
    have ad:cn tmps {w with heap:=w.heap.push (.cells ⟨vs⟩ T (0,0))} β l=cn tmps w β l:=by
     cases l with
     |slot s=>rfl
     |cell r i=>
      simp only [aK.at]at aq;cases ah:look st.H r with
      |none=>simp [ah]at aq
      |some c=>
       obtain⟨cl,o8,p_,fk,bB,_⟩:=h.box r c ah;simp only [cn,fk];rw [so (w:=w) (by simp [Array.getElem?_push,Nat.ne_of_lt (lt_of_heap bB)])]
    rw [ad]at hb;exact Z.lt hb
   by_cases j_:r=gY
   ·subst j_;simp;omega
   ·simp [j_];exact hg.unbox l e hr b r c aq aT hb (by simpa [dN,Ne.symm j_]using ah)
 ·intro r c ah;by_cases j_:r=gY
  ·subst j_;simp [dN]at ah;subst ah;refine⟨w.heap.size,vs,T,by simp,by simp,hlen,λo=>?_,?_,gL,hlies⟩
   ·cases hm:M w.heap.size o with
    |none=>rfl
    |some v=>have:=lt_of_cell (h.mem _ _ _ hm);omega
   ·cases dV:K.F w.heap.size with
    |none=>rfl
    |some bc=>have:=lt_of_heap (h.frame _ bc dV).1;omega
  ·obtain⟨b,o8,hr,Z,ad,am⟩:=hg.box r c (by simpa [dN,Ne.symm j_]using ah)
   exact⟨b,o8,hr,by simp [j_,Z],ad,am⟩
 ·intro r cT b c h2 ah fj hb b0;by_cases j_:r=gY<;>by_cases yv:cT=gY
  ·rw [j_,yv]
  ·simp [j_]at hb;simp [yv]at b0;have:=h.Ca (by simpa [dN,Ne.symm yv]using fj) b0
   omega
  ·simp [yv]at b0;simp [j_]at hb;have:=h.Ca (by simpa [dN,Ne.symm j_]using ah) hb
   omega
  ·simp [j_]at hb;simp [yv]at b0;exact h.inj r cT b c h2 (by simpa [dN,Ne.symm j_]using ah) (by simpa [dN,Ne.symm yv]using fj) hb b0
 ·intro r b hb;by_cases j_:r=gY
  ·subst j_;exact afQ
  ·simp [j_]at hb;have:=h.lt r b hb;simp;omega
 ·exact hg.mem
 ·exact hg.m0
 ·exact hg.frame
 ·intro r b hb;exact cP r b (h.iH r b hb)
 ·exact hg.jq
 ·exact hg.h1
end
section
variable {P:Program} {K:Ctx} {M M':Mem} {β β':Nat→Option Nat} {st b':aK} {tmps eB:Array Value} {w w':World}
def bR.GP(h:bR P K M β st tmps w){r b:Nat}{cs:List aZ}(ah:look st.H r=some cs)(hb:β r=some b){vs vs':List Value}{T:TypeId}
 (bB:w.heap[b]? = some (.cells ⟨vs⟩ T (0,0))) {cs':List aZ} (hlen:vs'.length=cs'.length) (gL:∀v,v∈vs'→v.oneCell'=true) (hlies:lJ P T vs.length cs→lJ P T vs'.length cs') (ev:cs'.length=cs.length)
 (oe:w'.heap[b]? = some (.cells ⟨vs'⟩ T (0,0))) (Cb:∀bM,bM≠b→w'.heap[bM]? = w.heap[bM]?) (i0:Nat)
 (ao:∀(i:Nat) v e,vs'[i]? = some v→cs'[i]? = some e→cE M β v e.d∧∀T,e.own=some T→
  (i≠i0∧(∃bO,cs[i]? = some bO∧bO.own=some T)∧vs[i]? = some v)∨(i=i0∧mV P K M β st tmps w (.cell r i0) v T)) (o7:(w'.os,w'.output)=(w.os,w.output):=by rfl):
 bR P K M β {st with H:=(r,cs')::st.H} tmps w':=by
 have GQ:K.F b=none∧∀o,M b o=none:=by
  obtain⟨cl,_,_,Z,_,_,ad,am,_⟩:=h.box r cs ah;rw [hb]at Z;cases Z;exact⟨am,ad⟩
 have afS:lJ P T vs.length cs:=by
  obtain⟨cl,o8,hr,Z,ad,_,_,_,_,am⟩:=h.box r cs ah;rw [hb]at Z;cases Z;rw [bB]at ad;cases ad;exact am
 have iA:∀bM,bM≠b→∀o,w'.cell? ⟨bM,o,none⟩=w.cell? ⟨bM,o,none⟩:=λbM dY o=>so (Cb bM dY)
 have dY:∀cT c bM,look st.H cT=some c→β cT=some bM→cT≠r→bM≠b:=λcT c bM fj b0 dY e=>dY (h.inj cT r bM c cs fj ah b0 (e ▸ hb))
 have fr:∀l e,({st with H:=(r,cs')::st.H}:aK).at l=some e→(∃i v,l = .cell r i∧cs'[i]? = some e∧vs'[i]? = some v∧cn tmps w' β l=v)∨(st.at l=some e∧cn tmps w' β l=cn tmps w β l∧∀i,l ≠ .cell r i):=by
  intro l e ae;cases l with
  |slot s=>exact .inr ⟨ae,rfl,by simp⟩
  |cell cT i=>
   by_cases hM:cT=r
   ·subst hM;simp [aK.at,dN]at ae;have hi:i<cs'.length:=(List.getElem?_eq_some_iff.1 ae).1;have eU:vs'[i]? = some vs'[i]:=List.getElem?_eq_getElem (by omega)
    exact .inl ⟨i,_,rfl,ae,eU,by simp only [cn,hb,cell_of_heap oe,eU,Option.getD_some]⟩
   ·have cZ:st.at (.cell cT i)=some e:=by simpa [aK.at,dN,Ne.symm hM]using ae
    refine .inr ⟨cZ,?_,by simp [hM]⟩
    simp only [aK.at]at cZ;cases fj:look st.H cT with
    |none=>simp [fj]at cZ
    |some c=>
     obtain⟨cl,_,_,cP,_⟩:=h.box cT c fj;simp only [cn,cP];rw [iA cl (dY cT c cl fj cP hM)]
 have f8:∀l e T,({st with H:=(r,cs')::st.H}:aK).at l=some e→e.own=some T→
  (l ≠ .cell r i0∧(∃bO,st.at l=some bO∧bO.own=some T)∧cn tmps w' β l=cn tmps w β l)∨(l = .cell r i0∧mV P K M β st tmps w (.cell r i0) (cn tmps w' β l) T):=by
  intro l e hr ae aT;rcases fr l e ae with⟨i,v,rfl,hi,eU,cB⟩|⟨aq,cB,ja⟩
  ·rcases(ao i v e eU hi).2 hr aT with⟨afT,⟨bO,Nz,li⟩,hold⟩|⟨rfl,hn⟩
   ·refine .inl ⟨by simp [afT],⟨bO,by simp [aK.at,ah,Nz],li⟩,?_⟩
    rw [cB];simp only [cn,hb,cell_of_heap bB,hold,Option.getD_some]
   ·exact .inr ⟨rfl,by rw [cB];exact hn⟩
  ·exact .inl ⟨ja i0,⟨e,aq,aT⟩,cB⟩
 have eW:∀cT c,look ((r,cs')::st.H) cT=some c→∃h2,look st.H cT=some h2:=by
  intro cT c hc;by_cases hM:r=cT
  ·exact⟨cs,hM ▸ ah⟩
  ·exact⟨c,by simpa [dN,hM]using hc⟩
 constructor
 ·intro l e ae;rcases fr l e ae with⟨i,v,rfl,hi,eU,cB⟩|⟨aq,cB,ja⟩
  ·rw [cB];exact(ao i v e eU hi).1
  ·rw [cB];exact h.fb l e aq
 ·intro l e hr ae aT;rcases f8 l e hr ae aT with⟨_,⟨bO,h0,li⟩,cB⟩|⟨rfl,hn⟩
  ·rw [cB];refine(h.own l bO hr h0 li).congr (λcl cP=>Cb cl ?_) (λ_ _ _=>rfl)
   rintro rfl
   exact h.unbox l bO hr cl r cs h0 li cP ah hb
  ·refine hn.own.congr (λcl cP=>Cb cl ?_) (λ_ _ _=>rfl)
   rintro rfl
   exact hn.unbox cl r cs cP ah hb
 ·intro l cR e a7 hr p_ cl ae aT cZ ep cP vv;rcases f8 l e hr ae aT with⟨hl0,⟨bO,h0,li⟩,cB⟩|⟨rfl,hn⟩<;>rcases f8 cR a7 p_ cZ ep with⟨afU,⟨yw,tP,Cc⟩,q4⟩|⟨rfl,GR⟩
  ·rw [cB]at cP;rw [q4]at vv;exact h.uniq l cR bO yw hr p_ cl h0 li tP Cc cP vv
  ·rw [cB]at cP;exact absurd cP (GR.apart l bO hr cl h0 li hl0 vv)
  ·rw [q4]at vv;exact absurd vv (hn.apart cR yw p_ cl tP Cc afU cP)
  ·rfl
 ·intro l e hr cl cT c ae aT cP fj;obtain⟨h2,ky⟩:=eW cT c fj;rcases f8 l e hr ae aT with⟨_,⟨bO,h0,li⟩,cB⟩|⟨rfl,hn⟩
  ·rw [cB]at cP;exact h.unbox l bO hr cl cT h2 h0 li cP ky
  ·exact hn.unbox cl cT h2 cP ky
 ·intro cT c fj;by_cases hM:r=cT
  ·subst hM;simp [dN]at fj;subst fj;exact⟨b,vs',T,hb,oe,hlen,GQ.2,GQ.1,gL,hlies afS⟩
  ·have jb:look st.H cT=some c:=by simpa [dN,hM]using fj
   obtain⟨cl,o8,hr,Z,ad,am⟩:=h.box cT c jb;exact⟨cl,o8,hr,Z,(Cb cl (dY cT c cl jb Z (Ne.symm hM))).trans ad,am⟩
 ·intro r1 r2 cl c1 c2 ii jb cP fk;obtain⟨afV,Z⟩:=eW r1 c1 ii;obtain⟨afW,ad⟩:=eW r2 c2 jb;exact h.inj r1 r2 cl afV afW Z ad cP fk
 ·exact h.lt
 ·intro cl o v hm;by_cases q5:cl=b
  ·subst q5;rw [GQ.2 o]at hm;cases hm
  ·rw [iA cl q5];exact h.mem cl o v hm
 ·exact h.m0
 ·intro cl bc dV;have q5:cl≠b:=by rintro rfl;rw [GQ.1]at dV;cases dV
  obtain⟨Z,ad⟩:=h.frame cl bc dV;exact⟨(Cb cl q5).trans Z,ad⟩
 ·exact h.iH
 ·exact h.jq
 ·exact o7.trans h.h1
def nq:∀(l:List Nat) (env:List (Nat×aZ)) (s:Nat),
 look (gX l env) s=if s∈l then(look env s).map (λe=>{e with own:=none})else look env s
 |[],env,s=>by simp [gX]
 |t::l,env,s=>by
  have aW:=nq l env s;simp only [gX];cases ax:look env t with
  |none=>
   simp only [aW];by_cases hs:s=t
   ·subst hs;simp [ax]
   ·simp [hs]
  |some e=>
   simp only [dN];by_cases hs:t=s
   ·subst hs;simp [ax]
   ·simp [hs,Ne.symm hs,aW]
def bR.hF(h:bR P K M β st tmps w)(l:List Nat):bR P K M β {st with env:=gX l st.env} tmps w:=by
 refine h.sub rfl (λi_ a7 ae=>?_) (λr cs ah=>⟨cs,ah,rfl⟩)
 cases i_ with
 |slot s=>
  simp only [aK.at,nq]at ae ⊢;by_cases hs:s∈l
  ·simp only [hs,if_true,Option.map_eq_some_iff]at ae;obtain⟨e,he,rfl⟩:=ae;exact⟨e,he,rfl,by simp⟩
  ·simp only [hs,if_false]at ae;exact⟨a7,ae,rfl,λ_ h=>h⟩
 |cell r i=>exact⟨a7,ae,rfl,λ_ h=>h⟩
def bR.hand(h:bR P K M β st tmps w){s:Nat}{e:aZ}{T:TypeId}(hs:look st.env s=some e)(aT:e.own=some T)(l0:Loc):
 mV P K M β {st with env:=gX [s] st.env} tmps w l0 (tmps.getD s undef) T:=by
 have ae:st.at (.slot s)=some e:=hs;refine⟨h.own (.slot s) e T ae aT,λl a7 T' b cZ ep _ hb b0=>?_,λb r cs hb ah=>h.unbox (.slot s) e T b r cs ae aT hb ah⟩
 have eQ:∃e2,st.at l=some e2∧e2.own=some T'∧l ≠ .slot s:=by
  cases l with
  |slot sq=>
   simp only [aK.at,nq]at cZ ⊢;by_cases vw:sq=s
   ·subst vw;simp at cZ;obtain⟨_,_,rfl⟩:=cZ;simp at ep
   ·simp [vw]at cZ;exact⟨a7,cZ,ep,by simp [vw]⟩
  |cell r i=>exact⟨a7,cZ,ep,by simp⟩
 obtain⟨e2,ad,afX,dY⟩:=eQ;exact dY (h.uniq l (.slot s) e2 e T' T b ad afX ae aT b0 hb)
def bR.WB(h:bR P K M β st tmps w){r i:Nat}{cs cs':List aZ}{e:aZ}{T:TypeId}(ah:look st.H r=some cs)(hi:cs[i]? = some e)(aT:e.own=some T)
 (ev:cs'.length=cs.length) (jr:∀(j:Nat) a7,cs'[j]? = some a7→∃bO,cs[j]? = some bO∧bO.d=a7.d∧(∀T,a7.own=some T→bO.own=some T∧j≠i)) (l0:Loc):
 bR P K M β {st with H:=(r,cs')::st.H} tmps w∧mV P K M β {st with H:=(r,cs')::st.H} tmps w l0 (cn tmps w β (.cell r i)) T:=by
 have ae:st.at (.cell r i)=some e:=by simp [aK.at,ah,hi]
 have fr:∀l a7,({st with H:=(r,cs')::st.H}:aK).at l=some a7→∃bO,st.at l=some bO∧bO.d=a7.d∧∀T,a7.own=some T→bO.own=some T∧l ≠ .cell r i:=by
  intro l a7 cZ;cases l with
  |slot s=>exact⟨a7,cZ,rfl,λT h=>⟨h,by simp⟩⟩
  |cell cT j=>
   by_cases hM:r=cT
   ·subst hM;simp [aK.at,dN]at cZ;obtain⟨bO,Z,ad,am⟩:=jr j a7 cZ;exact⟨bO,by simp [aK.at,ah,Z],ad,λT aT=>⟨(am T aT).1,by simp [(am T aT).2]⟩⟩
   ·refine⟨a7,by simpa [aK.at,dN,hM]using cZ,rfl,λT h=>⟨h,by simp [Ne.symm hM]⟩⟩
 have eW:∀cT c,look ((r,cs')::st.H) cT=some c→∃h2,look st.H cT=some h2∧h2.length=c.length:=by
  intro cT c hc;by_cases hM:r=cT
  ·subst hM;simp [dN]at hc;subst hc;exact⟨cs,ah,ev.symm⟩
  ·exact⟨c,by simpa [dN,hM]using hc,rfl⟩
 refine⟨h.sub rfl (λl a7 cZ=>?_) eW,h.own _ e T ae aT,λl a7 T' b cZ ep _ hb b0=>?_,λb cT c hb fj=>?_⟩
 ·obtain⟨bO,Z,ad,am⟩:=fr l a7 cZ;exact⟨bO,Z,ad,λT aT=>(am T aT).1⟩
 ·obtain⟨bO,Z,_,am⟩:=fr l a7 cZ;exact(am T' ep).2 (h.uniq l _ bO e T' T b Z (am T' ep).1 ae aT b0 hb)
 ·obtain⟨h2,Z,_⟩:=eW cT c fj;exact h.unbox _ e T b cT h2 ae aT hb Z
def NA(l0:Loc)(T:TypeId):mV P K M β st tmps w l0 (.slice none 0 0) T:=
 ⟨.inl rfl,λ_ _ _ _ _ _ _ hb=>(by cases hb),λ_ _ _ hb=>(by cases hb)⟩
def WC:∀{l:List Nat} {env od:List (Nat×aZ)},B9 env l=some od→∀s e,look od s=some e→look env s=some e
 |[],env,od,h,s,e,he=>by simp [B9]at h;subst h;simp [look]at he
 |t::l,env,od,h,s,e,he=>by
  simp only [B9]at h;split at h<;>simp at h
  rename_i e1 i_ Z ad;subst h;rw [dN]at he;by_cases kS:t=s
  ·simp [kS]at he;subst he;rw [←kS];exact Z
  ·simp [kS]at he;exact WC ad s e he
def NB:∀{l:List Nat} {H H':List (Nat×List aZ)},B' H l=some H'→∀s e,look H' s=some e→look H s=some e
 |[],env,od,h,s,e,he=>by simp [B']at h;subst h;simp [look]at he
 |t::l,env,od,h,s,e,he=>by
  simp only [B']at h;split at h<;>simp at h
  rename_i e1 i_ Z ad;subst h;rw [dN]at he;by_cases kS:t=s
  ·simp [kS]at he;subst he;rw [←kS];exact Z
  ·simp [kS]at he;exact NB ad s e he
def sr{α:Type}:∀{l:List (Nat×α)} {i:Nat} {x:α},look l i=some x→(i,x)∈l
 |[],_,_,h=>by simp [look]at h
 |(j,y)::l,i,x,h=>by
  rw [dN]at h;by_cases hj:j=i
  ·simp [hj]at h;subst h;simp [hj]
  ·simp [hj]at h;exact List.mem_cons_of_mem _ (sr h)
def NC{n:Nat}:∀{l:List aZ} {i:Nat} {e:aZ},sl n l=true→l[i]? = some e→below n e.d=true
 |[],_,_,_,h=>by simp at h
 |d::l,0,_,hb,h=>by simp [sl]at hb;simp at h;exact h ▸ hb.1
 |d::l,i+1,_,hb,h=>by simp [sl]at hb;simp at h;exact NC hb.2 h
def bR.vq(h:bR P K M β st tmps w){live yx:List Nat}{n:Nat}(ah:Ab.vq live yx n st.env st.H st.a1=some b')(et:∀r b,K.j' r=some b→r<n):
 ∃ β',bR P K M β' b' tmps w:=by
 unfold Ab.vq at ah;split at ah
 case h_2=>cases ah
 rename_i od H' he eW;rw [Bool.cond_eq_ite]at ah;split at ah
 case isFalse=>cases ah
 rename_i hc;cases ah;simp only [Bool.and_eq_true,List.all_eq_true,Prod.forall,Nat.blt_eq,Nat.ble_eq]at hc;obtain⟨⟨hn,afY⟩,WD⟩:=hc
 have Z:bR P K M β {env:=od,H:=H',a1:=st.a1} tmps w:=by
  refine h.sub rfl (λl a7 ae=>?_) (λr cs ah=>⟨cs,NB eW _ _ ah,rfl⟩)
  refine⟨a7,?_,rfl,λ_ h=>h⟩
  cases l with
  |slot s=>exact WC he _ _ ae
  |cell r i=>
   simp only [aK.at]at ae ⊢;cases ah:look H' r with
   |none=>simp [ah]at ae
   |some c=>simp [ah]at ae;simp [NB eW _ _ ah,ae]
 have nr:∀l e,({env:=od,H:=H',a1:=st.a1}:aK).at l=some e→below n e.d=true∧(∀r i,l = .cell r i→r<n):=by
  intro l e ae;cases l with
  |slot s=>exact⟨afY s e (sr ae),by simp⟩
  |cell r i=>
   simp only [aK.at]at ae;cases ah:look H' r with
   |none=>simp [ah]at ae
   |some c=>
    simp [ah]at ae;have:=WD r c (sr ah)
    exact⟨NC this.2 ae,by rintro cT mW h;cases h;exact this.1⟩
 refine⟨λr=>if r<n then β r else none,?_⟩
 have cB:∀l e,({env:=od,H:=H',a1:=st.a1}:aK).at l=some e→cn tmps w (λr=>if r<n then β r else none) l=cn tmps w β l:=by
  intro l e ae;cases l with
  |slot s=>rfl
  |cell r i=>simp [cn,(nr _ _ ae).2 r i rfl]
 have j_:∀r c,look H' r=some c→r<n:=λr c ah=>(WD r c (sr ah)).1
 constructor
 ·intro l e ae;rw [cB l e ae];exact(Z.fb l e ae).Wy (λr ah=>by simp [ah]) (nr l e ae).1
 ·intro l e T ae aT;rw [cB l e ae];exact Z.own l e T ae aT
 ·intro l cR e a7 T T' b ae aT cZ ep hb b0;rw [cB l e ae]at hb;rw [cB cR a7 cZ]at b0;exact Z.uniq l cR e a7 T T' b ae aT cZ ep hb b0
 ·intro l e T b r cs ae aT hb ah;rw [cB l e ae]at hb;have:=Z.unbox l e T b r cs ae aT hb ah
  simpa [j_ r cs ah]using this
 ·intro r cs ah;obtain⟨b,vs,T,ad,am⟩:=Z.box r cs ah;exact⟨b,vs,T,by simpa [j_ r cs ah]using ad,am⟩
 ·intro r cT b cs cs' ah fj hb b0;exact Z.inj r cT b cs cs' ah fj (by simpa [j_ r cs ah]using hb) (by simpa [j_ cT cs' fj]using b0)
 ·intro r b hb;by_cases b2:r<n
  ·exact b2
  ·simp [b2]at hb
 ·exact Z.mem
 ·exact Z.m0
 ·exact Z.frame
 ·intro r b hb;simp [et r b hb,Z.iH r b hb]
 ·exact Z.jq
 ·exact Z.h1
end
def lK(P:Program):TypeDesc→Option mu
 |.int k=>some (.int k)
 |.bool=>some .bool
 |.string=>some .str
 |.struct cM=>some (.ea (cM.toList.map λf=>(f.offset,f.type,P.cellsOf f.type)))
 |.slice e=>some (.bT e)
 |.array n e=>some (.arr n e)
 |.pointer _=>some .ptr
 |.func _ _ _=>some .yl
 |.interface _=>some .p2
 |_=>none
def vx:Value→V→Bool
 |.int k n,.int k' n'=>decide (k=k')&&decide (n=n')
 |.bool a,.bool b=>a == b
 |.string s,.str l=>decide (s.data.toList=l)
 |.slice none 0 0,.bT _ n _=>Nat.beq n 0
 |.pointer none,.gW=>true
 |.nilIface,.jE=>true
 |.nilFunc,.i8=>true
 |_,_=>false
def vy:List Value→List V→Bool
 |[],[]=>true
 |v::vs,x::xs=>vx v x&&vy vs xs
 |_,_=>false
def yy(P:Program)(inner:TypeId→List Field→Bool):Nat→List Field→Bool
 |_,[]=>true
 | i, f :: l => Nat.beq f.offset i && !decide (f.name = "_") && (match P.underlying f.type with
  |some (.int _) |some .bool |some .string=>yy P inner (i+1) l
  |some (.struct gs)=>inner f.type gs.toList&&yy P inner (i+P.cellsOf f.type) l
  |_=>false)
def ss(P:Program):Nat→List Field→Nat
 | 0,cM=>cM.length
 |d+1,cM=>(cM.map λf=>match P.underlying f.type with
  |some (.struct gs)=>ss P d gs.toList
  |_=>1).sum
def vz(P:Program):Nat→Nat→List Field→Bool
 | 0=>yy P λ_ _=>false
 |d+1=>yy P λt gs=>!P.stoodInHeld t&&Nat.beq (P.cellsOf t) (ss P d gs)&&vz P d 0 gs
def ND(P:Program)(t:TypeId):Bool:=
 match P.underlying t with
 |some (.struct cM)=>!P.stoodInHeld t && !P.eqGuardType P.depth t&&vz P 4 0 cM.toList
 |_=>false
def WE(P:Program)(t:TypeId)(aJ:en):Bool:=
 match P.info? t,P.underlying t with
 |some i,some d=>decide (lK P d=some aJ.k)&&Nat.beq i.size aJ.size&&Nat.beq i.bytes aJ.bytes&&Nat.beq aJ.zero.length aJ.size &&
  aJ.jY.all (λx=>liesAt P P.depth t (aJ.size / P.cellsOf t) x.1 x.2 1) &&
  (match i.zero with|some z=>vy z.cells.toList aJ.zero&&(match z with|.agg _=>aJ.k.isAgg|.tuple _=>false|_=>!aJ.k.isAgg)|none=>false)
 |_,_=>false
def fl(P:Program)(tt:dS):Bool:=tt.all λx=>WE P x.1 x.2
def NE{M:Mem}{v:Value}{x:V}(h:vx v x=true):dw M v x∧v.oneCell'=true:=by
 unfold vx at h;split at h<;>simp at h
 ·obtain⟨rfl,rfl⟩:=h;exact⟨.int _ _,rfl⟩
 ·subst h;exact⟨.bool _,rfl⟩
 ·rename_i s l;subst h;exact⟨by exact .str s.data.toList,rfl⟩
 ·subst h;exact⟨.mv _ _,rfl⟩
 ·exact⟨.gW,rfl⟩
 ·exact⟨.jE,rfl⟩
 ·exact⟨.i8,rfl⟩
def yz{M:Mem}:∀{vs:List Value} {xs:List V},vy vs xs=true→vs.length=xs.length∧(∀v,v∈vs→v.oneCell'=true)∧∀(i:Nat) v x,vs[i]? = some v→xs[i]? = some x→dw M v x∧vx v x=true
 |[],[],_=>by simp
 |[],_::_,h=>by simp [vy]at h
 |_::_,[],h=>by simp [vy]at h
 |v::vs,x::xs,h=>by
  simp [vy]at h;obtain⟨Z,ad,am⟩:=yz (M:=M) h.2;refine⟨by simp [Z],?_,?_⟩
  ·intro u hu;rcases List.mem_cons.1 hu with rfl|hu
   ·exact(NE (M:=M) h.1).2
   ·exact ad u hu
  ·intro i u y hu ci;cases i with
   |zero=>simp at hu ci;subst hu;subst ci;exact⟨(NE h.1).1,h.1⟩
   |succ i=>simp at hu ci;exact am i u y hu ci
structure Row(P:Program)(t:TypeId)(aJ:en) where
 info:TypeInfo
 desc:TypeDesc
 z:Value
 hi:P.info? t=some info
 hd:P.underlying t=some desc
 hk:lK P desc=some aJ.k
 size:info.size=aJ.size
 bytes:info.bytes=aJ.bytes
 dG:info.zero=some z
 NF:aJ.zero.length=aJ.size
 Cd:vy z.cells.toList aJ.zero=true
 jY:(aJ.jY.all λx=>liesAt P P.depth t (aJ.size / P.cellsOf t) x.1 x.2 1)=true
 asN:match z with|.agg _=>aJ.k.isAgg=true|.tuple _=>False|_=>aJ.k.isAgg=false
theorem eK{P:Program}{tt:dS}(h:fl P tt=true){t:TypeId}{aJ:en}(ax:look tt t=some aJ):Nonempty (Row P t aJ):=by
 have hm:=sr ax;unfold fl at h;rw [List.all_eq_true]at h;have:=h _ hm
 unfold WE at this
 dsimp only at this
 split at this
 case h_2=>cases this
 rename_i i d hi hd;simp only [Bool.and_eq_true,decide_eq_true_eq,Nat.beq_eq]at this;obtain⟨⟨⟨⟨⟨Z,ad⟩,am⟩,aR⟩,nr⟩,bv⟩:=this;split at bv
 case h_2=>cases bv
 rename_i z dG;simp only [Bool.and_eq_true]at bv
 exact⟨⟨i,d,z,hi,hd,Z,ad,am,dG,aR,bv.1,nr,by
  have:=bv.2
  cases z<;>simp at this<;>simp [this]⟩⟩
def Row.cellsOf{P:Program}{t:TypeId}{aJ:en}(r:Row P t aJ):P.cellsOf t=aJ.size:=by
 simp [Program.cellsOf,r.hi,r.size]
section runs
variable {P:Program} {t:TypeId} {aJ:en} (w:World)
def Row.run_sizeOf(r:Row P t aJ):(sizeOf t).run P w = .ok aJ.size w:=by
 rw [Go.run_sizeOf w r.hi,r.cellsOf]
def Row.GS(r:Row P t aJ):(zeroValue t).run P w = .ok r.z w:=by
 simp [zeroValue,typeInfo,r.hi,r.dG]
def Row.run_underlying(r:Row P t aJ):(underlying t).run P w = .ok r.desc w:=Go.run_underlying r.hd w
def Row.yA(r:Row P t aJ):(isAgg t).run P w = .ok aJ.k.isAgg w:=by
 have hk:=r.hk;simp only [isAgg,Sem.run_bind,r.run_underlying,Result.andThen_ok];cases hd:r.desc<;>simp [hd,lK]at hk<;>simp [←hk,mu.isAgg]
end runs
def fV(tmps:Array Value)(p:Path):Prop:=∀x,x∈p→tmps.getD x.1 undef = .bool x.2
structure fO(P:Program)(K:Ctx)(N:Nat)(M:Mem)(β:Nat→Option Nat)(g:dt)(tmps:Array Value)(w:World):Prop where
 bC:bR P K M β {env:=g.env,H:=g.H,a1:=g.a1} tmps w
 size:tmps.size=N
 fresh:∀s id,look g.ids s=some id→look g.H id=none→∀b,β id≠some b
 cond:∀t q d,look g.ca t=some (q,d)→(fV tmps q→cE M β (tmps.getD t undef) d)∧(¬ fV tmps q→tmps.getD t undef=undef)
def Path.afZ{q p:Path}(h:q.sub p=true){tmps:Array Value}(hp:fV tmps p):fV tmps q:=by
 intro x hx;unfold Path.sub at h;rw [List.all_eq_true]at h;have:=h x hx
 unfold Path.has at this;rw [List.any_eq_true]at this;obtain⟨y,ci,mX⟩:=this;simp at mX
 have Z:=hp y ci;rw [←mX.1,←mX.2];exact Z
def af0{M:Mem}{v:Value}{x:V}(h:Nl v=some x):dw M v x:=by
 unfold Nl at h;split at h<;>simp at h<;>subst h
 ·exact .int _ _
 ·exact .bool _
 ·rename_i s;exact .str s.data.toList
 ·exact .gW
 ·exact .jE
 ·exact .i8
def er{P:Program}{K:Ctx}{N:Nat}{M:Mem}{β:Nat→Option Nat}{g:dt}{tmps:Array Value}{w:World}(h:fO P K N M β g tmps w){p:Path}(hp:fV tmps p){tt:dS}{ty:TypeId}{x:Operand}{d:D}
 (hx:rd g.env g.ca p tt ty x=some d) {ds:List Deferred}:cE M β ((⟨tmps,ds⟩:Act).eval x) d:=by
 cases x with
 |tmp t=>
  simp only [rd]at hx;split at hx
  ·rename_i q eA hc;rw [Bool.cond_eq_ite]at hx;split at hx<;>simp at hx
   subst hx;exact(h.cond t q eA hc).1 (Path.afZ (by assumption) hp)
  ·simp only [Option.map_eq_some_iff]at hx;obtain⟨e,he,rfl⟩:=hx;exact h.bC.fb (.slot t) e he
 |const v=>
  simp only [rd]at hx;split at hx
  ·rename_i heq;cases heq
  ·rename_i heq;cases heq;split at hx
   ·cases hx;exact .v _ _ (.mv _ _)
   ·cases hx
  ·rename_i heq;cases heq;simp only [Option.map_eq_some_iff]at hx;obtain⟨y,ci,rfl⟩:=hx;exact .v _ _ (af0 ci)
  ·rename_i heq;cases heq
  ·rename_i heq;cases heq
 |global n=>simp [rd]at hx
 |func f=>
  simp [rd]at hx;subst hx;exact .fn f [] [] rfl (by simp)
def af1{v:Value}(h:v.oneCell'=true):v.cells = #[v]:=by
 cases v<;>first|rfl|(simp [Value.oneCell']at h)
def cE.cells{M:Mem}{β:Nat→Option Nat}{v:Value}{d:D}(h:cE M β v d)(ax:q0 d=false):
 v.cells.toList.length=(cellsD d).length∧(∀u,u∈v.cells.toList→u.oneCell'=true)∧∀(i:Nat) u c,v.cells.toList[i]? = some u→(cellsD d)[i]? = some c→cE M β u c:=by
 have single:∀{v:Value} {d:D},v.cells = #[v]→cellsD d=[d]→v.oneCell'=true→cE M β v d→
  v.cells.toList.length=(cellsD d).length∧(∀u,u∈v.cells.toList→u.oneCell'=true)∧∀(i:Nat) u c,v.cells.toList[i]? = some u→(cellsD d)[i]? = some c→cE M β u c:=by
  intro v d Z ad am aR;rw [Z,ad];refine⟨rfl,by simpa using am,λi u c hu hc=>?_⟩
  cases i with
  |zero=>simp at hu hc;subst hu;subst hc;exact aR
  |succ i=>simp at hu
 cases h with
 |v u x hx=>
  cases hx with
  |agg vs cs hn Z ah=>
   refine⟨by simp [Value.cells,cellsD,V.cells,hn],by simpa [Value.cells]using Z,λi u c hu hc=>?_⟩
   simp [Value.cells]at hu;simp [cellsD,V.cells]at hc;obtain⟨a,ha,rfl⟩:=hc;exact .v _ _ (ah i u a hu ha)
  |any v Z=>exact single (af1 Z) rfl Z (.v _ _ (.any _ Z))
  |_=>exact single rfl rfl rfl (.v _ _ (by constructor<;>assumption))
 |ptr r off b hb=>exact single rfl rfl rfl (.ptr r off b hb)
 |l9 r off u=>exact single rfl rfl rfl (.l9 r off u)
 |cK r off b u hb=>exact single rfl rfl rfl (.cK r off b u hb)
 |fg b off x val db Z ah=>exact single rfl rfl rfl (.fg b off x val db Z ah)
 |full b k n get h=>exact single rfl rfl rfl (.full b k n get h)
 |fn f vs cs hn ah=>exact single rfl rfl rfl (.fn f vs cs hn ah)
 |agg vs cs hn Z ah=>exact⟨hn,Z,ah⟩
 |bU vs cs hn ah=>simp [q0]at ax
def af2{cs:List D}:∀{xs:List V},B4 cs=some xs→cs=xs.map .v:=by
 induction cs with
 |nil=>intro xs h;simp [B4]at h;subst h;rfl
 |cons d l aW=>
  intro xs h;cases d<;>simp [B4]at h
  obtain⟨ys,ci,rfl⟩:=h;simp [aW ci]
def yB{M:Mem}{β:Nat→Option Nat}{vs:List Value}{cs:List D}(hn:vs.length=cs.length)(Z:∀v,v∈vs→v.oneCell'=true)
 (h:∀(i:Nat) v c,vs[i]? = some v→cs[i]? = some c→cE M β v c):cE M β (.agg ⟨vs⟩) (mT cs):=by
 unfold mT;split
 ·rename_i xs hx;have:=af2 hx
  subst this;refine .v _ _ (.agg vs xs (by simpa using hn) Z λi v c ao hc=>?_)
  have:=h i v (.v c) ao (by simp [hc])
  cases this;assumption
 ·exact .agg vs cs hn Z h
section
variable {P:Program} {K:Ctx} {N:Nat} {M:Mem} {β:Nat→Option Nat} {st:aK} {g:dt} {tmps:Array Value} {w:World} {v:Value}
def my{k:IntKind}{n:Int}(h:cE M β v (.v (.int k n))):v = .int k n:=by
 cases h with|v u x h=>cases h;rfl
def og{x:V}(h:cE M β v (.v x)):dw M v x:=by
 cases h with|v u x h=>exact h
def vA{b:Bool}(h:cE M β v (.v (.bool b))):v = .bool b:=by
 cases h with|v u x h=>cases h;rfl
def mY{l:auJ}(h:cE M β v (.v (.str l))):v = .string ⟨⟨l⟩⟩:=by
 cases h with|v u x h=>cases h;rfl
def o9{r off:Nat}(h:cE M β v (.ptr r off)):∃b,β r=some b∧v = .pointer (some ⟨b,off,none⟩):=by
 cases h with|ptr r off b h=>exact⟨b,h,rfl⟩
def NG{t:TypeId}{x:V}(h:cE M β v (.v (.iface t x))):∃u,v = .iface t u∧dw M u x:=by
 cases h with|v u x h=>cases h with|iface t u x h=>exact⟨u,rfl,h⟩
def af3{cs:List V}(h:cE M β v (.v (.agg cs))):∃vs:List Value,v = .agg ⟨vs⟩∧vs.length=cs.length∧(∀u,u∈vs→u.oneCell'=true)∧∀(i:Nat) u c,vs[i]? = some u→cs[i]? = some c→dw M u c:=by
 cases h with|v u x h=>cases h with|agg vs cs hn Z h=>exact⟨vs,rfl,hn,Z,h⟩
def af4{cs:List D}(h:cE M β v (.bU cs)):∃vs:List Value,v = .tuple ⟨vs⟩∧vs.length=cs.length∧∀(i:Nat) u c,vs[i]? = some u→cs[i]? = some c→cE M β u c:=by
 cases h with|bU vs cs hn h=>exact⟨vs,rfl,hn,h⟩
def WF{f:FuncId}{cs:List D}(h:cE M β v (.fn f cs)):∃vs:List Value,v = .func (.func f) #[] ⟨vs⟩∧vs.length=cs.length∧∀(i:Nat) u c,vs[i]? = some u→cs[i]? = some c→cE M β u c:=by
 cases h with|fn f vs cs hn h=>exact⟨vs,rfl,hn,h⟩
def tQ{k n:Nat}{get:Nat→V}(h:cE M β v (.v (.bT k n get))):((v = .slice none 0 0∨∃a,v = .slice (some a) 0 0)∧n=0)∨
 ∃(b off cap:Nat) (val:Nat→Nat→Value),v = .slice (some ⟨b,off,none⟩) n cap∧n≤cap∧(∀i,i<n→(get i).cells.length=k)∧(∀i j,i<n→j<k→M b (off+i*k+j)=some (val i j))∧
  (∀i j,i<n→j<k→(val i j).oneCell'=true)∧(∀(i j:Nat) c,i<n→(get i).cells[j]? = some c→dw M (val i j) c):=by
 cases h with
 |v u x h=>
  cases h with
  |mv=>exact .inl ⟨.inl rfl,rfl⟩
  |p4 a=>exact .inl ⟨.inr ⟨a,rfl⟩,rfl⟩
  |bT b off k n cap get val hc hk db Z h=>exact .inr ⟨b,off,cap,val,rfl,hc,hk,db,Z,h⟩
def GT{x:V}(h:cE M β v (.fg x)):∃(b off:Nat) (val:Nat→Value),v = .pointer (some ⟨b,off,none⟩)∧(∀j,j<x.cells.length→M b (off+j)=some (val j))∧(∀j,j<x.cells.length→(val j).oneCell'=true)∧
 (∀(j:Nat) c,x.cells[j]? = some c→dw M (val j) c):=by
 cases h with|fg b off x val db Z h=>exact⟨b,off,val,rfl,db,Z,h⟩
def vB{k n:Nat}{get:Nat→V}(h:cE M β v (.v (.bT k n get))):∃a cap,v = .slice a n cap∧n≤cap:=by
 rcases tQ h with⟨rfl|⟨a,rfl⟩,rfl⟩|⟨b,off,cap,val,rfl,hc,_⟩
 ·exact⟨_,_,rfl,Nat.le_refl _⟩
 ·exact⟨_,_,rfl,Nat.le_refl _⟩
 ·exact⟨_,_,rfl,hc⟩
def addr_add(b off n:Nat):(⟨b,off,none⟩:Addr).add n=⟨b,off+n,none⟩:=by
 unfold Addr.add;split<;>simp_all
def yC{x:V}(hx:x.isAgg=false):x.cells=[x]:=by
 cases x<;>first|rfl|simp [V.isAgg]at hx
def WG{x:V}{val:Nat→Value}(Z:∀j,j<x.cells.length→(val j).oneCell'=true)(h:∀(j:Nat) c,x.cells[j]? = some c→dw M (val j) c):
 dw M (bif x.isAgg then .agg ⟨(List.range x.cells.length).map val⟩else val 0) x:=by
 cases hx:x.isAgg with
 |false=>
  have:=yC hx
  simpa using h 0 x (by simp [this])
 |true=>
  cases x<;>simp [V.isAgg]at hx
  rename_i cs;refine .agg _ cs (by simp [V.cells]) ?_ ?_
  ·intro u hu;obtain⟨j,hj,rfl⟩:=List.mem_map.1 hu;exact Z j (by simpa using hj)
  ·intro i u c hu hc;simp only [List.getElem?_map,Option.map_eq_some_iff]at hu;obtain⟨j,hj,rfl⟩:=hu
   have:j=i:=by
    rw [List.getElem?_eq_some_iff]at hj;obtain⟨_,h⟩:=hj;simpa using h.symm
   subst this;exact h j c hc
def af5{t:TypeId}{aJ:en}(r:Row P t aJ)(yt:∀b o v,M b o=some v→w.cell? ⟨b,o,none⟩=some v){x:V}(ao:cE M β v (.fg x))(hx:x.isAgg=aJ.k.isAgg)(hs:x.cells.length=aJ.size):
 ∃u,(Instr.loadAt t v).run P w = .ok u w∧dw M u x:=by
 obtain⟨b,off,val,rfl,db,Z,h⟩:=GT ao;refine⟨_,?_,WG Z h⟩
 have ae:∀j,j<aJ.size→w.cell? ((⟨b,off,none⟩:Addr).add j)=some (val j):=λj hj=>by rw [addr_add];exact yt _ _ _ (db j (by omega))
 cases ha:x.isAgg with
 |true=>
  rw [ha]at hx;simp [Instr.loadAt,Instr.sureAddr,loadVar,r.yA,←hx,r.run_sizeOf,run_loadCells w ⟨b,off,none⟩ aJ.size val ae,hs]
 |false=>
  rw [ha]at hx;have h0:=db 0 (by rw [yC ha];simp)
  have:=yt _ _ _ h0
  simp [Instr.loadAt,Instr.sureAddr,loadVar,r.yA,←hx,run_load];simp at this
  rw [this]
def GU{t:TypeId}{aJ:en}(r:Row P t aJ){b off:Nat}{vs:List Value}{T:TypeId}{f:Nat×Nat}(bB:w.heap[b]? = some (.cells ⟨vs⟩ T f))(hle:off+aJ.size≤vs.length)(ha:aJ.k.isAgg=true):
 (Instr.loadAt t (.pointer (some ⟨b,off,none⟩))).run P w = .ok (.agg ⟨(vs.drop off).take aJ.size⟩) w:=by
 have hlen:((vs.drop off).take aJ.size).length=aJ.size:=by simp;omega
 have:=run_loadCells_list (P:=P) w ⟨b,off,none⟩ ((vs.drop off).take aJ.size) (λj u hj=>by
  rw [addr_add,cell_of_heap bB];rw [List.getElem?_take]at hj;split at hj
  ·simpa using hj
  ·cases hj)
 rw [hlen]at this;simp [Instr.loadAt,Instr.sureAddr,loadVar,r.yA,ha,r.run_sizeOf,this]
def NH{t:TypeId}{aJ:en}(r:Row P t aJ){b off:Nat}{u:Value}(hc:w.cell? ⟨b,off,none⟩=some u)(ha:aJ.k.isAgg=false):
 (Instr.loadAt t (.pointer (some ⟨b,off,none⟩))).run P w = .ok u w:=by
 simp [Instr.loadAt,Instr.sureAddr,loadVar,r.yA,ha,run_load,hc]
def NI{t:TypeId}{aJ:en}(r:Row P t aJ){cM:List (Nat×TypeId×Nat)}(hk:aJ.k = .ea cM):∃gs:Array Field,r.desc = .struct gs∧cM=gs.toList.map λf=>(f.offset,f.type,P.cellsOf f.type):=by
 have:=r.hk
 rw [hk]at this;cases hd:r.desc<;>simp [hd,lK]at this
 exact⟨_,rfl,this.symm⟩
def qa{t:TypeId}{aJ:en}(r:Row P t aJ){e:TypeId}(hk:aJ.k = .bT e):r.desc = .slice e:=by
 have:=r.hk
 rw [hk]at this;cases hd:r.desc<;>simp [hd,lK]at this
 rw [this]
def q6{t:TypeId}{aJ:en}(r:Row P t aJ)(hk:aJ.k = .str):r.desc = .string:=by
 have:=r.hk
 rw [hk]at this;cases hd:r.desc<;>simp [hd,lK]at this;rfl
def Ce{t:TypeId}{aJ:en}(r:Row P t aJ){k:IntKind}(hk:aJ.k = .int k):r.desc = .int k:=by
 have:=r.hk
 rw [hk]at this;cases hd:r.desc<;>simp [hd,lK]at this
 rw [this]
def af6{t:TypeId}{aJ:en}(r:Row P t aJ){n:Nat}{e:TypeId}(hk:aJ.k = .arr n e):r.desc = .array n e:=by
 have:=r.hk
 rw [hk]at this;cases hd:r.desc<;>simp [hd,lK]at this
 rw [this.1,this.2]
def WH{s:TypeId}{aJ:en}(r:Row P s aJ){cM:List (Nat×TypeId×Nat)}(hk:aJ.k = .ea cM){f c8 ih fN:Nat}(cc:cM[f]? = some (c8,ih,fN))(eC:1≤fN)(b off:Nat):
 (Instr.fieldAt s (.pointer (some ⟨b,off,none⟩)) f).run P w = .ok (.pointer (some ⟨b,off+c8,none⟩)) w:=by
 obtain⟨gs,hd,rfl⟩:=NI r hk;simp only [List.getElem?_map,Option.map_eq_some_iff]at cc;obtain⟨fd,kz,he⟩:=cc;simp only [Prod.mk.injEq]at he;obtain⟨rfl,rfl,rfl⟩:=he;have GV:gs[f]? = some fd:=by simpa using kz
 have hs:(sizeOf fd.type).run P w = .ok (P.cellsOf fd.type) w:=by
  cases hi:P.info? fd.type with
  |none=>simp [Program.cellsOf,hi]at eC
  |some i=>exact Go.run_sizeOf w hi
 have dY:P.cellsOf fd.type≠0:=by omega
 simp [Instr.fieldAt,r.run_underlying,hd,GV,Instr.sureAddr,fieldPlace,hs,dY,addr_add]
def WI{s:TypeId}{aJ:en}(r:Row P s aJ){cM:List (Nat×TypeId×Nat)}(hk:aJ.k = .ea cM){f c8 ih fN:Nat}(cc:cM[f]? = some (c8,ih,fN)){yD:en}(r2:Row P ih yD)(vs:List Value)(hle:c8+fN≤vs.length):
 (yD.k.isAgg=true→(Instr.field s (.agg ⟨vs⟩) f).run P w = .ok (.agg ⟨(vs.drop c8).take fN⟩) w)∧
 (yD.k.isAgg=false→∀u,vs[c8]? = some u→(Instr.field s (.agg ⟨vs⟩) f).run P w = .ok u w):=by
 obtain⟨gs,hd,rfl⟩:=NI r hk;simp only [List.getElem?_map,Option.map_eq_some_iff]at cc;obtain⟨fd,kz,he⟩:=cc;simp only [Prod.mk.injEq]at he;obtain⟨rfl,rfl,rfl⟩:=he;have GV:gs[f]? = some fd:=by simpa using kz
 have eC:=r2.cellsOf;refine⟨λha=>?_,λha u hu=>?_⟩
 ·simp [Instr.field,r.run_underlying,hd,GV,asAgg,part,r2.yA,ha,r2.run_sizeOf,eC,List.extract_eq_take_drop]
 ·simp [Instr.field,r.run_underlying,hd,GV,asAgg,part,r2.yA,ha,hu]
def af7{t:TypeId}{aJ:en}(r:Row P t aJ){e:TypeId}(hk:aJ.k = .bT e){cA:en}(ei:Row P e cA){k:IntKind}{j:Int}{b off n cap:Nat}(h0:0≤j)(Z:j<n):
 (Instr.indexAt t (.slice (some ⟨b,off,none⟩) n cap) (.int k j)).run P w = .ok (.pointer (some ⟨b,off+j.toNat*cA.size,none⟩)) w:=by
 simp [Instr.indexAt,asIntOf,r.run_underlying,qa r hk,h0,Z,ei.run_sizeOf,addr_add]
def af8{t:TypeId}{aJ:en}(r:Row P t aJ)(hk:aJ.k = .str){k:IntKind}{j:Int}{l:auJ}(h0:0≤j)(Z:j<l.length):
 (Instr.index t (.string ⟨⟨l⟩⟩) (.int k j)).run P w = .ok (.int .u8 (l.getD j.toNat 0).toNat) w:=by
 have b2:j.toNat<l.length:=by omega
 have GW:j.toNat<(ByteArray.mk ⟨l⟩).size:=b2;have hs:(ByteArray.mk ⟨l⟩)[j.toNat]? = some l[j.toNat]:=by rw [getElem?_pos (ByteArray.mk ⟨l⟩) j.toNat GW];rfl
 simp [Instr.index,asIntOf,r.run_underlying,q6 r hk,h0,hs,List.getElem?_eq_getElem b2]
def GX(l:auJ):(⟨⟨l⟩⟩:ByteArray).toList=l:=by
 rw [ByteArray.toList_eq]
end
section
variable {P:Program} {K:Ctx} {N:Nat} {M:Mem} {β:Nat→Option Nat} {g:dt} {tmps:Array Value} {w:World} {o:Oper} {f:lG} {p:Path} {tt:dS} {cx:gJ} {ops:List Oper}
def after(g:dt)(f:lG):aK:={env:=gX f.hF g.env,H:=f.hs++g.H,a1:=g.a1+f.nx}
def yE(P:Program)(K:Ctx)(M:Mem)(β:Nat→Option Nat)(g:dt)(f:lG)(tmps:Array Value)(v:Value)(w':World):Prop:=
 ∃M' β',M.le M'∧(∀r b,β r=some b→β' r=some b)∧(∀r b,β' r=some b→β r=some b∨(look f.hs r).isSome=true)∧bR P K M' β' (after g f) tmps w'∧
  ∀e,f.e=some e→cE M' β' v e.d∧∀T l0,e.own=some T→mV P K M' β' (after g f) tmps w' l0 v T
def Yields(P:Program)(K:Ctx)(M:Mem)(β:Nat→Option Nat)(g:dt)(f:lG)(o:Oper)(tmps:Array Value)(w:World):Prop:=
 (∃v w',(execOp (Act.eval ⟨tmps,[]⟩) o).run P w = .ok (.value v) w'∧yE P K M β g f tmps v w')∨
 (f.e=none∧∃w',(execOp (Act.eval ⟨tmps,[]⟩) o).run P w = .ok .skip w'∧yE P K M β g f tmps undef w')∨
 (∃fn vs,(execOp (Act.eval ⟨tmps,[]⟩) o).run P w = .ok (.enter fn vs) w∧Calls P fn vs w λe w'=>∃v,e = .returned v∧yE P K M β g f tmps v w')
def fm(h:fO P K N M β g tmps w){v:Value}{d:D}(ah:(execOp (Act.eval ⟨tmps,[]⟩) o).run P w = .ok (.value v) w)(hd:cE M β v d){rs:List fw}{bc:List Prop}:
 Yields P K M β g {e:=some {d},rs,bc} o tmps w:=
 .inl ⟨v,w,ah,M,β,Mem.le_refl _,λ_ _ h=>h,λ_ _ h=>.inl h,h.bC,λe he=>by cases he;exact⟨hd,by simp⟩⟩
def js(x:Sem Value){v:Value}{w':World}(h:x.run P w = .ok v w'):(do pure (.value (←x)):Sem Next).run P w = .ok (.value v) w':=by
 simp [h]
def GY(h:fO P K N M β g tmps w)(hp:fV tmps p){x:Operand}(aq:o.op = .move x∨o.op = .assign x){d:D}(hx:rd g.env g.ca p tt o.type x=some d):
 Yields P K M β g {e:=some {d},rs:=g.rs} o tmps w:=
 fm h (v:=(⟨tmps,[]⟩:Act).eval x) (by rcases aq with aq|aq<;>simp [execOp,aq]) (er h hp hx)
def WJ(h:fO P K N M β g tmps w)(hp:fV tmps p){t:Nat}(aq:o.op = .move (.tmp t)∨o.op = .assign (.tmp t)){d:D}(hx:rd g.env g.ca p tt o.type (.tmp t)=some d)
 {s:TypeId} (hs:o4 g (.tmp t)=some s) {rs:List fw}:Yields P K M β g {e:=some {d,own:=some s},hF:=[t],rs} o tmps w:=by
 refine .inl ⟨(⟨tmps,[]⟩:Act).eval (.tmp t),w,by rcases aq with aq|aq<;>simp [execOp,aq],M,β,Mem.le_refl _,λ_ _ h=>h,λ_ _ h=>.inl h,?_,λe he=>?_⟩
 ·have:=h.bC.hF [t];exact this
 ·cases he;refine⟨er h hp hx,λT l0 aT=>?_⟩
  cases aT;simp only [o4,Option.bind_eq_some_iff]at hs;obtain⟨e,he,hs⟩:=hs;exact h.bC.hand he hs l0
def af9(h:fO P K N M β g tmps w)(hp:fV tmps p)(aq:o.op = .assign (.const (.slice none 0 0))){d:D}(hx:rd g.env g.ca p tt o.type (.const (.slice none 0 0))=some d)(s:TypeId):
 Yields P K M β g {e:=some {d,own:=some s},rs:=g.rs} o tmps w:=by
 refine .inl ⟨.slice none 0 0,w,by simp [execOp,aq,Act.eval],M,β,Mem.le_refl _,λ_ _ h=>h,λ_ _ h=>.inl h,h.bC,λe he=>?_⟩
 cases he;exact⟨er (ds:=[]) h hp hx,λT l0 _=>NA l0 T⟩
def af'(h:fO P K N M β g tmps w)(hp:fV tmps p){c:Nat}{a b:Operand}(aq:o.op = .pick (.tmp c) a b){tK B8 q2:Bool}(hc:rd g.env g.ca p tt o.type (.tmp c)=some (.v (.bool tK)))
 (ha:rd g.env g.ca ((c,true)::p) tt o.type a=some (.v (.bool B8))) (hb:rd g.env g.ca ((c,false)::p) tt o.type b=some (.v (.bool q2))):
 Yields P K M β g {e:=some {d:=.v (.bool (bif tK then B8 else q2))},rs:=g.rs} o tmps w:=by
 have ky:(⟨tmps,[]⟩:Act).eval (.tmp c) = .bool tK:=vA (er h hp hc);have WK:tmps.getD c undef = .bool tK:=ky;cases tK with
 |true=>
  refine fm h (v:=(⟨tmps,[]⟩:Act).eval a) (by simp [execOp,aq,ky,asBool]) ?_
  exact er h (p:=(c,true)::p) (λx hx=>by rcases List.mem_cons.1 hx with rfl|hx;exact WK;exact hp x hx) ha
 |false=>
  refine fm h (v:=(⟨tmps,[]⟩:Act).eval b) (by simp [execOp,aq,ky,asBool]) ?_
  exact er h (p:=(c,false)::p) (λx hx=>by rcases List.mem_cons.1 hx with rfl|hx;exact WK;exact hp x hx) hb
def bR.NJ{st:aK}(h:bR P K M β st tmps w)(o:Nat):M w.heap.size o=none:=by
 cases hm:M w.heap.size o with
 |none=>rfl
 |some v=>have:=lt_of_cell (h.mem _ _ _ hm);omega
def WL(h:fO P K N M β g tmps w){vs:List Value}{T:TypeId}{cs:List aZ}(hlen:vs.length=cs.length)(gL:∀v,v∈vs→v.oneCell'=true)(hlies:lJ P T vs.length cs)
 (ao:∀(i:Nat) v e,vs[i]? = some v→cs[i]? = some e→cE M β v e.d∧∀T,e.own=some T→v = .slice none 0 0)
 (ah:(execOp (Act.eval ⟨tmps,[]⟩) o).run P w = .ok (.value (.pointer (some ⟨w.heap.size,0,none⟩))) {w with heap:=w.heap.push (.cells ⟨vs⟩ T (0,0))}) {id nx:Nat} (hid:oc g o=some (id,nx)):
 Yields P K M β g {e:=some {d:=.ptr id 0},hs:=[(id,cs)],nx,rs:=g.rs} o tmps w:=by
 have cc:(∀b,β id≠some b)∧id<g.a1+nx:=by
  unfold oc at hid;split at hid
  ·rename_i asO ae;rw [Bool.cond_eq_ite]at hid;split at hid<;>cases hid
   rename_i hc;simp only [Bool.and_eq_true,Option.isNone_iff_eq_none,Nat.blt_eq]at hc;rw [Option.bind_eq_some_iff]at ae;obtain⟨s,_,ae⟩:=ae;exact⟨h.fresh s _ ae hc.1,by omega⟩
  ·cases hid;exact⟨λb hb=>by have:=h.bC.lt _ b hb;simp at this,by omega⟩
 refine .inl ⟨_,_,ah,M,_,Mem.le_refl _,?_,?_,h.bC.afP (n':=g.a1+nx) cc.1 cc.2 (by simp) (T:=T) hlen gL hlies ao,λe he=>?_⟩
 ·intro r b hb;have dY:r≠id:=λe=>cc.1 b (e ▸ hb)
  simp [dY,hb]
 ·intro r b hb;by_cases dY:r=id
  ·exact .inr (by simp [dN,dY])
  ·simp [dY]at hb;exact .inl hb
 ·cases he;exact⟨.ptr _ _ _ (by simp),by simp⟩
def WM{α:Type}:∀(l:List α) (n i:Nat),(da n l)[i]? = (l[i]?).map (n+i,·)
 |[],n,i=>by simp [da]
 |x::l,n,0=>by simp [da]
 |x::l,n,i+1=>by simp [da,WM l (n+1) i];congr 1;funext;congr 1;omega
def WN{α:Type}:∀(l:List α) (n:Nat),(da n l).length=l.length
 |[],n=>rfl
 |x::l,n=>by simp [da,WN l (n+1)]
def WO{x:V}{t:Option TypeId}{T:TypeId}(h:GK x t=some T):∃k n get,x = .bT k n get:=by
 cases x<;>simp [GK]at h;exact⟨_,_,_,rfl⟩
def WP(jY:List (Nat×TypeId))(id i:Nat)(x:V):B6 jY id i x = .v x∨(x = .gW∧∃u,B6 jY id i x = .cK id i u∧(i,u)∈jY):=by
 unfold B6;split
 ·split
  ·rename_i y ci;right
   have Z:=List.find?_some ci;have ad:=List.mem_of_find?_eq_some ci;obtain⟨j,u⟩:=y;obtain rfl:j=i:=by simpa using Z
   exact⟨rfl,u,rfl,ad⟩
  ·exact .inl rfl
 ·exact .inl rfl
def af_{t:TypeId}{id:Nat}{z:List aZ}(h:GM tt t id=some z):∃aJ,look tt t=some aJ∧z.length=aJ.zero.length∧
 ∀(i:Nat) e,z[i]? = some e→∃x,aJ.zero[i]? = some x∧(e.d = .v x∨(x = .gW∧∃u,e.d = .cK id i u∧(i,u)∈aJ.jY))∧∀T,e.own=some T→∃k n get,x = .bT k n get:=by
 unfold GM at h;split at h<;>simp at h
 ·rename_i e fN kT zero hR ae;subst h;refine⟨_,ae,by simp,λi a7 he=>?_⟩
  simp only [List.getElem?_map,Option.map_eq_some_iff]at he;obtain⟨x,hx,rfl⟩:=he;exact⟨x,hx,.inl rfl,λT aT=>WO aT⟩
 ·rename_i cM fN kT zero hR ae;subst h;refine⟨_,ae,by simp [WN],λi a7 he=>?_⟩
  simp only [List.getElem?_map,Option.map_eq_some_iff,WM]at he;obtain⟨_,⟨x,hx,rfl⟩,rfl⟩:=he;simp only [Nat.zero_add];exact⟨x,hx,WP hR id i x,λT aT=>WO aT⟩
 ·rename_i k fN kT zero hR _ _ ae;subst h;refine⟨_,ae,by simp,λi a7 he=>?_⟩
  simp only [List.getElem?_map,Option.map_eq_some_iff]at he;obtain⟨x,hx,rfl⟩:=he;exact⟨x,hx,.inl rfl,by simp⟩
def aga(h:fO P K N M β g tmps w)(co:fl P tt=true){t:TypeId}(aq:o.op = .alloc t){z:List aZ}{id nx:Nat}(dG:GM tt t id=some z)(hid:oc g o=some (id,nx)):
 Yields P K M β g {e:=some {d:=.ptr id 0},hs:=[(id,z)],nx,rs:=g.rs} o tmps w:=by
 obtain⟨aJ,ae,hlen,WQ⟩:=af_ dG;obtain⟨r⟩:=eK co ae;obtain⟨Z,ad,am⟩:=yz (M:=M) r.Cd;refine WL h (vs:=r.z.cells.toList) (T:=t) (by omega) ad (λe he q off u hd=>?_) (λi v e ao he=>?_) ?_ hid
 ·obtain⟨i,hi,rfl⟩:=List.getElem_of_mem he;obtain⟨x,hx,kU,_⟩:=WQ i z[i] (List.getElem?_eq_getElem hi);rcases kU with kU|⟨_,asP,kU,hm⟩
  ·rw [kU]at hd;cases hd
  ·rw [kU]at hd;cases hd;have:=List.all_eq_true.1 r.jY _ hm
   have eC:=r.NF;rw [show r.z.cells.toList.length=aJ.size by omega]
   exact this
 ·obtain⟨x,hx,hd,f8⟩:=WQ i e he;obtain⟨aR,bv⟩:=am i v x ao hx
  refine⟨by
   rcases hd with hd|⟨rfl,u,hd,_⟩
   ·rw [hd];exact .v _ _ aR
   ·rw [hd];cases aR;exact .l9 _ _ _,λT aT=>?_⟩
  obtain⟨k,n,get,rfl⟩:=f8 T aT;unfold vx at bv;split at bv<;>simp_all
 ·simp [execOp,aq,Instr.alloc,r.GS,newVar,newRow]
def NK(tt:dS)(aJ:en)(id:Nat):∀(l:List D) (i j:Nat),(q1 tt aJ id i l)[j]? = (l[j]?).map (yn tt aJ id (i+j))
 |[],i,j=>by simp [q1]
 |d::l,i,0=>by simp [q1]
 |d::l,i,j+1=>by
  simp only [q1,List.getElem?_cons_succ];rw [NK tt aJ id l (i+1) j,show i+1+j=i+(j+1)by omega]
def NL(tt:dS)(aJ:en)(id:Nat):∀(l:List D) (i:Nat),(q1 tt aJ id i l).length=l.length
 |[],i=>rfl
 |d::l,i=>by simp only [q1,List.length_cons,NL tt aJ id l (i+1)]
def WR{M:Mem}{β:Nat→Option Nat}(tt:dS)(aJ:en)(id i:Nat)(d:D)(q7:∀r o u,d ≠ .cK r o u){v:Value}(h:cE M β v d):
 cE M β v (yn tt aJ id i d).d∧(∀T,(yn tt aJ id i d).own=some T→v = .slice none 0 0)∧∀r o u,(yn tt aJ id i d).d = .cK r o u→(o,u)∈aJ.jY:=by
 unfold yn;split
 ·rcases WP aJ.jY id i .gW with Z|⟨_,u,Z,ad⟩
  ·simp only [Z];exact⟨h,(λT aT=>by cases aT),(λr o u e=>by cases e)⟩
  ·simp only [Z]
   cases h with|v u x hx=>cases hx with
    |gW=>exact⟨.l9 _ _ _,(λT aT=>by cases aT),(λr o u e=>by cases e;exact ad)⟩
 ·split
  ·cases h with|v u x hx=>cases hx with
    |o1=>exact⟨.v _ _ (.mv _ _),λ_ _=>rfl,λr o u e=>by cases e⟩
  ·exact⟨h,(λT aT=>by cases aT),(λr o u e=>by cases e)⟩
 ·exact⟨h,(λT aT=>by cases aT),λr o u e=>absurd e (q7 r o u)⟩
def agb(h:fO P K N M β g tmps w)(hp:fV tmps p){t:TypeId}{x:Operand}(aq:o.op = .box t x){d:D}(hx:rd g.env g.ca p tt o.type x=some d)(ax:q0 d=false)(q7:sh (cellsD d)=true)(co:fl P tt=true){aJ:en}(ae:look tt t=some aJ)(eC:(cellsD d).length=aJ.size){id nx:Nat}(hid:oc g o=some (id,nx)):
 Yields P K M β g {e:=some {d:=.ptr id 0},hs:=[(id,q1 tt aJ id 0 (cellsD d))],nx,rs:=g.rs} o tmps w:=by
 obtain⟨r⟩:=eK co ae;obtain⟨Z,ad,am⟩:=(er (ds:=[]) h hp hx).cells ax;refine WL h (vs:=((⟨tmps,[]⟩:Act).eval x).cells.toList) (T:=t) (by rw [NL];simpa using Z) ad (λe he q off u hd=>?_) (λi v e ao he=>?_) ?_ hid
 ·obtain⟨i,hi,rfl⟩:=List.getElem_of_mem he;have hg:(q1 tt aJ id 0 (cellsD d))[i]? = some _:=List.getElem?_eq_getElem hi;rw [NK,Option.map_eq_some_iff]at hg;obtain⟨c,hc,NM⟩:=hg;rw [←NM]at hd;have NN:i<((⟨tmps,[]⟩:Act).eval x).cells.toList.length:=by rw [NL]at hi;omega
  have:=(WR tt aJ id (0+i) c (B_ q7 c (List.mem_of_getElem? hc)) (am i _ c (List.getElem?_eq_getElem NN) hc)).2.2 q off u hd
  have hb:=List.all_eq_true.1 r.jY _ this;rw [Z,eC];exact hb
 ·rw [NK,Option.map_eq_some_iff]at he;obtain⟨c,hc,rfl⟩:=he;obtain⟨g1,g2,_⟩:=WR tt aJ id (0+i) c (B_ q7 c (List.mem_of_getElem? hc)) (am i v c ao hc);exact⟨g1,g2⟩
 ·simp [execOp,aq,Instr.box,newVar,newRow]
end
def oh{α:Type}:∀(cs:List α) (off:Nat) (xs:List α),off+xs.length≤cs.length→(setAt cs off xs).length=cs.length∧∀(i:Nat),(setAt cs off xs)[i]? = if off≤i∧i<off+xs.length then xs[i-off]? else cs[i]?
 |[],0,[],_=>by simp [setAt]
 |[],0,x::xs,h=>by simp at h
 |[],n+1,xs,h=>by simp at h
 |c::cs,0,[],_=>by
  refine⟨by simp [setAt],λi=>?_⟩
  simp only [setAt,List.length_nil];rw [if_neg (by omega)]
 |c::cs,0,x::xs,h=>by
  obtain⟨Z,ad⟩:=oh cs 0 xs (by simp at h ⊢;omega)
  refine⟨by simp [setAt,Z],λi=>?_⟩
  cases i with
  |zero=>simp [setAt]
  |succ i=>
   simp only [setAt,List.getElem?_cons_succ,ad i,Nat.zero_add,List.length_cons];by_cases hi:i<xs.length<;>simp [hi]
 |c::cs,n+1,xs,h=>by
  obtain⟨Z,ad⟩:=oh cs n xs (by simp at h ⊢;omega)
  refine⟨by simp [setAt,Z],λi=>?_⟩
  cases i with
  |zero=>simp [setAt]
  |succ i=>
   simp only [setAt,List.getElem?_cons_succ,ad i];by_cases hi:n≤i∧i<n+xs.length
   ·rw [if_pos hi,if_pos (by omega)];congr 1;omega
   ·rw [if_neg hi,if_neg (by omega)]
def NO(off:Nat):∀(l:List Value) (k:Nat) (cs:Array Value),off+k+l.length≤cs.size→
 ((l.zipIdx k).foldl (λcs (x:Value×Nat)=>cs.setIfInBounds (off+x.2) x.1) cs).size=cs.size∧
 ∀(i:Nat),((l.zipIdx k).foldl (λcs (x:Value×Nat)=>cs.setIfInBounds (off+x.2) x.1) cs)[i]? = if off+k≤i∧i<off+k+l.length then l[i-(off+k)]? else cs[i]?
 |[],k,cs,h=>by
  refine⟨rfl,λi=>?_⟩
  simp only [List.zipIdx_nil,List.foldl_nil,List.length_nil];rw [if_neg (by omega)]
 |x::l,k,cs,h=>by
  obtain⟨Z,ad⟩:=NO off l (k+1) (cs.setIfInBounds (off+k) x) (by simp at h ⊢;omega)
  simp only [List.zipIdx_cons,List.foldl_cons];refine⟨by simpa using Z,λi=>?_⟩
  rw [ad i];simp only [List.length_cons]at h ⊢;by_cases am:off+(k+1)≤i∧i<off+(k+1)+l.length
  ·rw [if_pos am,if_pos (by omega)]
   obtain⟨j,rfl⟩:∃j,i=off+k+1+j:=⟨i-(off+k+1),by omega⟩
   rw [show off+k+1+j-(off+(k+1))=j by omega,show off+k+1+j-(off+k)=j+1 by omega]
   simp
  ·rw [if_neg am];by_cases aR:i=off+k
   ·subst aR;rw [if_pos (by omega)]
    have:off+k<cs.size:=by omega
    simp [this]
   ·rw [if_neg (by omega)]
    rw [Array.getElem?_setIfInBounds_ne (Ne.symm aR)]
section
variable {P:Program} {K:Ctx} {N:Nat} {M:Mem} {β:Nat→Option Nat} {g:dt} {tmps:Array Value} {w:World} {o:Oper} {f:lG} {p:Path} {tt:dS} {cx:gJ} {ops:List Oper}
structure Cells(M:Mem)(β:Nat→Option Nat)(vs:List Value)(cs:List D):Prop where
 len:vs.length=cs.length
 one:∀v,v∈vs→v.oneCell'=true
 rep:∀(i:Nat) v c,vs[i]? = some v→cs[i]? = some c→cE M β v c
def GZ{vs:List Value}(h:∀v,v∈vs→v.oneCell'=true){i:Nat}{v:Value}(hi:vs[i]? = some v):v.oneCell'=true:=h v (List.mem_of_getElem? hi)
def WS{vs:List Value}(h:∀(i:Nat) v,vs[i]? = some v→v.oneCell'=true):∀v,v∈vs→v.oneCell'=true:=λv ao=>by
 obtain⟨i,hi⟩:=List.getElem?_of_mem ao;exact h i v hi
def Cells.set{vs:List Value}{cs:List D}(h:Cells M β vs cs){ws:List Value}{ds:List D}(cO:Cells M β ws ds){off:Nat}(hle:off+ds.length≤cs.length){vs':List Value}(hlen:vs'.length=vs.length)
 (jc:∀(i:Nat),vs'[i]? = if off≤i∧i<off+ws.length then ws[i-off]? else vs[i]?):Cells M β vs' (setAt cs off ds):=by
 obtain⟨Z,ad⟩:=oh cs off ds hle;refine⟨by rw [hlen,Z,h.len],WS λi v ao=>?_,λi v c ao hc=>?_⟩
 ·rw [jc i]at ao;split at ao
  ·exact GZ cO.one ao
  ·exact GZ h.one ao
 ·rw [jc i]at ao;rw [ad i]at hc;by_cases hi:off≤i∧i<off+ds.length
  ·rw [if_pos hi]at hc;rw [if_pos (by rw [cO.len];exact hi)]at ao
   exact cO.rep _ v c ao hc
  ·rw [if_neg hi]at hc;rw [if_neg (by rw [cO.len];exact hi)]at ao
   exact h.rep _ v c ao hc
def NP{place:Nat→Option (Nat×Nat)}:∀{cS:List (Nat×D)} {vs:List (Nat×Value)} {cs cs':List D} {cells:Array Value},vs.length=cS.length→
 (∀(i:Nat) a b,cS[i]? = some a→vs[i]? = some b→a.1=b.1∧cE M β b.2 a.2)→Cells M β cells.toList cs→si place cs cS=some cs'→
 ∃ka,Instr.fill place cells vs=some ka∧Cells M β ka.toList cs'
 |[],[],cs,cs',cells,_,_,hc,h=>by simp [si]at h;subst h;exact⟨cells,rfl,hc⟩
 |[],_::_,_,_,_,h,_,_,_=>by simp at h
 |_::_,[],_,_,_,h,_,_,_=>by simp at h
 |(i,d)::cS,(j,v)::vs,cs,cs',cells,hn,ah,hc,h=>by
  obtain⟨su,hd⟩:=ah 0 (i,d) (j,v) (by simp) (by simp)
  simp only at su hd
  subst su;simp only [si]at h;split at h
  ·cases h
  ·rename_i off size jF;rw [Bool.cond_eq_ite]at h;split at h
   case isFalse=>cases h
   rename_i hb;simp only [Bool.and_eq_true,Nat.beq_eq,Nat.ble_eq,Bool.not_eq_true']at hb;obtain⟨⟨cP,fk⟩,NQ⟩:=hb;obtain⟨Z,ad,am⟩:=hd.cells NQ;have eC:cells.size=cs.length:=by simpa using hc.len
   have ev:v.cells.size=size:=by simpa [cP]using Z
   have cc:=NO off v.cells.toList 0 cells (by simp [ev];omega)
   have NR:v.cells.zipIdx.foldl (λcs (x:Value×Nat)=>cs.setIfInBounds (off+x.2) x.1) cells=(v.cells.toList.zipIdx 0).foldl (λcs (x:Value×Nat)=>cs.setIfInBounds (off+x.2) x.1) cells:=by
    rw [←Array.foldl_toList,Array.toList_zipIdx]
   have ky:Cells M β (v.cells.zipIdx.foldl (λcs (x:Value×Nat)=>cs.setIfInBounds (off+x.2) x.1) cells).toList (setAt cs off (cellsD d)):=by
    rw [NR];refine hc.set ⟨Z,ad,am⟩ (by omega) (by simpa using cc.1) (λk=>?_)
    have:=cc.2 k
    simp only [Nat.add_zero]at this;rw [Array.getElem?_toList,this];simp only [Array.getElem?_toList]
   obtain⟨ka,Cf,sv⟩:=NP (place:=place) (by simpa using hn) (λk a b ha hb=>ah (k+1) a b (by simpa using ha) (by simpa using hb)) ky h
   refine⟨ka,?_,sv⟩
   simp only [Instr.fill,jF];rw [if_neg (by simp;omega)]
   exact Cf
def tR{α ec:Type}{f:α→Option ec}:∀{l:List α} {cR:List ec},mapM' f l=some cR→cR.length=l.length∧∀(i:Nat) a b,l[i]? = some a→cR[i]? = some b→f a=some b
 |[],cR,h=>by simp [mapM']at h;subst h;simp
 |x::l,cR,h=>by
  simp only [mapM']at h;split at h<;>simp at h
  rename_i y ys ci agc;subst h;obtain⟨Z,ad⟩:=tR agc;refine⟨by simp [Z],λi a b ha hb=>?_⟩
  cases i with
  |zero=>simp at ha hb;subst ha;subst hb;exact ci
  |succ i=>simp at ha hb;exact ad i a b ha hb
def Row.WT{t:TypeId}{aJ:en}(r:Row P t aJ):Cells M β r.z.cells.toList (aJ.zero.map .v):=by
 obtain⟨Z,ad,am⟩:=yz (M:=M) r.Cd;refine⟨by simpa using Z,ad,λi v c ao hc=>?_⟩
 simp only [List.getElem?_map,Option.map_eq_some_iff]at hc;obtain⟨x,hx,rfl⟩:=hc;exact .v _ _ (am i v x ao hx).1
def agd{M:Mem}{v:Value}{x:V}(h:vx v x=true):dw M v (Nq x):=by
 have h0:=(NE (M:=M) h).1;unfold vx at h;split at h<;>first|exact h0|skip
 ·rename_i k n g;have:n=0:=by simpa using h
  subst this;exact .o1 _ _
 ·cases h
def Row.age{t:TypeId}{aJ:en}(r:Row P t aJ):Cells M β r.z.cells.toList (aJ.zero.map λx=>.v (Nq x)):=by
 obtain⟨Z,ad,am⟩:=yz (M:=M) r.Cd;refine⟨by simpa using Z,ad,λi v c ao hc=>?_⟩
 simp only [List.getElem?_map,Option.map_eq_some_iff]at hc;obtain⟨x,hx,rfl⟩:=hc;exact .v _ _ (agd (am i v x ao hx).2)
def NS(h:fO P K N M β g tmps w)(hp:fV tmps p){ty:Nat→TypeId}{parts:Array (Nat×Operand)}{cS:List (Nat×D)}(mz:mapM' (fun(x:Nat×Operand)=>(rd g.env g.ca p tt (ty x.1) x.2).map λd=>(x.1,d)) parts.toList=some cS):
 ((parts.map fun(x:Nat×Operand)=>(x.1,(⟨tmps,[]⟩:Act).eval x.2)).toList).length=cS.length∧
 ∀(i:Nat) a b,cS[i]? = some a→(parts.map fun(x:Nat×Operand)=>(x.1,(⟨tmps,[]⟩:Act).eval x.2)).toList[i]? = some b→a.1=b.1∧cE M β b.2 a.2:=by
 obtain⟨Z,ad⟩:=tR mz;refine⟨by simpa using Z.symm,λi a b ha hb=>?_⟩
 simp only [Array.toList_map,List.getElem?_map,Option.map_eq_some_iff]at hb;obtain⟨x,hx,rfl⟩:=hb;have:=ad i x a hx ha
 simp only [Option.map_eq_some_iff]at this;obtain⟨d,hd,rfl⟩:=this;exact⟨rfl,er h hp hd⟩
def run_places{cM:Array Field}{l:List (Nat×TypeId×Nat)}(ae:l=cM.toList.map λf=>(f.offset,f.type,P.cellsOf f.type))(hs:∀f,f∈cM.toList→1≤P.cellsOf f.type):
 (cM.mapM λf=>(do pure (f.offset,←sizeOf f.type):Sem (Nat×Nat))).run P w = .ok (cM.map λf=>(f.offset,P.cellsOf f.type)) w:=by
 obtain⟨ns⟩:=cM;rw [List.mapM_toArray]
 have key:∀(l:List Field),(∀f,f∈l→1≤P.cellsOf f.type)→(l.mapM λf=>(do pure (f.offset,←sizeOf f.type):Sem (Nat×Nat))).run P w = .ok (l.map λf=>(f.offset,P.cellsOf f.type)) w:=by
  intro l;induction l with
  |nil=>intro _;rfl
  |cons f l aW=>
   intro cc;have h0:=cc f (by simp)
   have Z:(sizeOf f.type).run P w = .ok (P.cellsOf f.type) w:=by
    cases hi:P.info? f.type with
    |none=>simp [Program.cellsOf,hi]at h0
    |some i=>exact Go.run_sizeOf w hi
   simp only [List.mapM_cons,Sem.run_bind,Z,Result.andThen_ok,Sem.run_pure,aW (λf h=>cc f (by simp [h])),List.map_cons]
 simp only [Sem.run_map,key ns (by simpa using hs),Result.andThen_ok]
 simp
def WU(h:fO P K N M β g tmps w)(hp:fV tmps p)(co:fl P tt=true){t:TypeId}{aJ:en}(ae:look tt t=some aJ){cM:List (Nat×TypeId×Nat)}(hk:aJ.k = .ea cM)(nt:cM.all (λf=>Nat.ble 1 f.2.2)=true)
 {parts:Array (Nat×Operand)} (aq:o.op = .build t parts) {cS:List (Nat×D)} (mz:mapM' (fun(x:Nat×Operand)=>(rd g.env g.ca p tt (sk tt t x.1) x.2).map λd=>(x.1,d)) parts.toList=some cS)
 {zs:List D} (vC:∀(r:Row P t aJ),Cells M β r.z.cells.toList zs) {cs:List D} (cc:si (fun(i:Nat)=>(cM[i]?).map fun(f:Nat×TypeId×Nat)=>(f.1,f.2.2)) zs cS=some cs) {rs:List fw}:
 Yields P K M β g {e:=some {d:=mT cs},rs} o tmps w:=by
 obtain⟨r⟩:=eK co ae;obtain⟨gs,hd,NT⟩:=NI r hk;obtain⟨Z,ad⟩:=NS h hp mz;obtain⟨cells,Cf,hc⟩:=NP Z ad (vC r) cc
 have G0:∀f,f∈gs.toList→1≤P.cellsOf f.type:=by
  intro fd kz;rw [List.all_eq_true]at nt;have:=nt (fd.offset,fd.type,P.cellsOf fd.type) (by rw [NT];exact List.mem_map.2 ⟨fd,kz,rfl⟩)
  simpa using this
 have jF:(fun(i:Nat)=>(gs.map λf=>(f.offset,P.cellsOf f.type))[i]?)=fun(i:Nat)=>(cM[i]?).map fun(f:Nat×TypeId×Nat)=>(f.1,f.2.2):=by
  funext i
  rw [NT];cases hi:gs[i]? <;> simp [hi]
 refine fm h (v:=.agg cells) ?_ ?_
 ·simp only [execOp,aq];refine js _ ?_;have agf:=run_places (P:=P) (w:=w) NT G0;simp only [Instr.build,Sem.run_bind,r.GS,Result.andThen_ok,r.run_underlying,hd,agf,jF];have:Instr.fill (fun(i:Nat)=>(cM[i]?).map fun(f:Nat×TypeId×Nat)=>(f.1,f.2.2)) r.z.cells (parts.map fun(x:Nat×Operand)=>(x.1,(⟨tmps,[]⟩:Act).eval x.2)).toList=some cells:=Cf
  rw [this];rfl
 ·have:=yB hc.len hc.one hc.rep
  simpa using this
def agh(h:fO P K N M β g tmps w)(hp:fV tmps p)(co:fl P tt=true){t:TypeId}{aJ:en}(ae:look tt t=some aJ){n:Nat}{e:TypeId}(hk:aJ.k = .arr n e){cA:en}(eQ:look tt e=some cA)
 {parts:Array (Nat×Operand)} (aq:o.op = .build t parts) {cS:List (Nat×D)} (mz:mapM' (fun(x:Nat×Operand)=>(rd g.env g.ca p tt (sk tt t x.1) x.2).map λd=>(x.1,d)) parts.toList=some cS)
 {cs:List D} (cc:si (λi=>some (i*cA.size,cA.size)) (aJ.zero.map .v) cS=some cs):
 Yields P K M β g {e:=some {d:=mT cs},rs:=g.rs} o tmps w:=by
 obtain⟨r⟩:=eK co ae;obtain⟨r2⟩:=eK co eQ;obtain⟨Z,ad⟩:=NS h hp mz;obtain⟨cells,Cf,hc⟩:=NP Z ad (r.WT (β:=β)) cc;refine fm h (v:=.agg cells) ?_ ?_
 ·simp only [execOp,aq];refine js _ ?_;simp only [Instr.build,Sem.run_bind,r.GS,Result.andThen_ok,r.run_underlying,af6 r hk,r2.run_sizeOf];have:Instr.fill (λi=>some (i*cA.size,cA.size)) r.z.cells (parts.map fun(x:Nat×Operand)=>(x.1,(⟨tmps,[]⟩:Act).eval x.2)).toList=some cells:=Cf
  rw [this];rfl
 ·have:=yB hc.len hc.one hc.rep
  simpa using this
end
section
variable {P:Program} {K:Ctx} {N:Nat} {M:Mem} {β:Nat→Option Nat} {g:dt} {tmps:Array Value} {w:World} {o:Oper} {f:lG} {p:Path} {tt:dS} {cx:gJ} {ops:List Oper}
def jt(M:Mem)(b:Nat)(lo:Nat)(vs:List Value):Mem:=λbM o=>if bM=b∧lo≤o∧o<lo+vs.length then vs[o-lo]? else M bM o
def NU{b lo:Nat}{vs:List Value}(h:∀o,lo≤o→M b o=none):M.le (jt M b lo vs):=by
 intro bM o v ao;unfold jt;split
 ·rename_i hc;obtain⟨rfl,Z,ad⟩:=hc;rw [h o Z]at ao;cases ao
 ·exact ao
def G1{b lo:Nat}{vs:List Value}{i:Nat}{v:Value}(h:vs[i]? = some v):jt M b lo vs b (lo+i)=some v:=by
 have hi:i<vs.length:=(List.getElem?_eq_some_iff.1 h).1;unfold jt;rw [if_pos ⟨rfl,by omega,by omega⟩,show lo+i-lo=i by omega,h]
def agi{k:Nat}{n:Nat}{cells:List Value}(ae:cells.length=n*k){i j:Nat}(hi:i<n)(hj:j<k):cells[i*k+j]? = some (cells.getD (i*k+j) undef):=by
 have:i*k+j<cells.length:=by
  have Z:(i+1)*k≤n*k:=Nat.mul_le_mul_right k hi;rw [Nat.add_mul]at Z;omega
 simp [List.getD,List.getElem?_eq_getElem this]
def bR.newRow{st:aK}(h:bR P K M β st tmps w){vs:List Value}{T:TypeId}{n:Nat}{w':World}(hw:w'.heap=w.heap.push (.cells ⟨vs⟩ T (0,0)))(o7:(w'.os,w'.output)=(w.os,w.output):=by rfl):
 bR P K (jt M w.heap.size 0 (vs.take n)) β st tmps w'∧M.le (jt M w.heap.size 0 (vs.take n)):=by
 have db:M.le (jt M w.heap.size 0 (vs.take n)):=NU λo _=>h.NJ o
 refine⟨h.free w.heap.size ?_ ?_ ?_ ?_ db ?_ ?_ o7,db⟩
 ·cases dV:K.F w.heap.size with
  |none=>rfl
  |some bc=>have:=lt_of_heap (h.frame _ bc dV).1;omega
 ·intro r cs ah hb;have:=h.Ca ah hb;omega
 ·intro l e T ae aT hb;have:=(h.own l e T ae aT).lt hb;omega
 ·intro bM _ b0;rw [hw];simp [Array.getElem?_push,Nat.ne_of_lt b0]
 ·intro bM o b0;simp [jt,b0]
 ·intro o v ao;unfold jt at ao;split at ao
  ·rename_i hc;simp only [Nat.sub_zero]at ao;rw [List.getElem?_take]at ao;split at ao
   ·have:w'.heap[w.heap.size]? = some (.cells ⟨vs⟩ T (0,0)):=by rw [hw];simp
    rw [cell_of_heap this,ao]
   ·cases ao
  ·rw [h.NJ o]at ao;cases ao
def NV{st:aK}(h:bR P K M β st tmps w){l0:Loc}{T:TypeId}{vs:List Value}{T':TypeId}(NW:T'=T){n cap:Nat}{w':World}(hw:w'.heap=w.heap.push (.cells ⟨vs⟩ T' (0,0)))(hn:n≤cap)
 (hcap:cap*P.cellsOf T≤vs.length):mV P K (jt M w.heap.size 0 (vs.take (n*P.cellsOf T))) β st tmps w' l0 (.slice (some ⟨w.heap.size,0,none⟩) n cap) T:=by
 have q8:w'.heap[w.heap.size]? = some (.cells ⟨vs⟩ T' (0,0)):=by rw [hw];simp
 refine⟨.inr ⟨w.heap.size,n,cap,vs,T',rfl,hn,q8,hcap,λo aq=>?_,?_,NW⟩,?_,?_⟩
 ·have hle:n*P.cellsOf T≤vs.length:=Nat.le_trans (Nat.mul_le_mul_right _ hn) hcap;unfold jt;rw [if_neg,h.NJ o]
  rintro ⟨_,_,am⟩
  simp only [List.length_take]at am;omega
 ·cases dV:K.F w.heap.size with
  |none=>rfl
  |some bc=>have:=lt_of_heap (h.frame _ bc dV).1;omega
 ·intro l e p_ b ae aT _ hb b0;simp [jp,kw]at hb;subst hb
  have hold:cn tmps w' β l=cn tmps w β l:=by
   cases l with
   |slot s=>rfl
   |cell r i=>
    simp only [aK.at]at ae;cases ah:look st.H r with
    |none=>simp [ah]at ae
    |some cs=>
     obtain⟨cl,o8,hr,cP,bB,_⟩:=h.box r cs ah;simp only [cn,cP];rw [so (w:=w) (by rw [hw];simp [Array.getElem?_push,Nat.ne_of_lt (lt_of_heap bB)])]
  rw [hold]at b0;have:=(h.own l e p_ ae aT).lt b0
  omega
 ·intro b r cs hb ah b0;simp [jp,kw]at hb;subst hb;have:=h.Ca ah b0
  omega
def WV{size:Nat}:∀(l:List (Nat×Value)) (m:Nat) (cells:Array Value),(∀(i:Nat) x,l[i]? = some x→x.1=m+i∧x.2.cells.size=size)→(m+l.length)*size≤cells.size→
 ∃ka,Instr.fill (λi=>some (i*size,size)) cells l=some ka∧ka.size=cells.size∧(∀i,i<m*size→ka[i]? = cells[i]?)∧
  ∀(i:Nat) x (j:Nat) u,l[i]? = some x→x.2.cells[j]? = some u→ka[(m+i)*size+j]? = some u
 |[],m,cells,_,_=>⟨cells,rfl,rfl,λ_ _=>rfl,by simp⟩
 |(a,v)::l,m,cells,ae,hle=>by
  obtain⟨ha,eC⟩:=ae 0 (a,v) (by simp)
  simp only [Nat.add_zero]at ha;simp only at eC
  subst ha
  have asQ:a*size+size≤cells.size:=by
   have Z:(a+1)*size≤(a+((a,v)::l).length)*size:=Nat.mul_le_mul_right _ (by simp)
   rw [Nat.add_mul,Nat.one_mul]at Z;omega
  have cc:=NO (a*size) v.cells.toList 0 cells (by simp [eC];omega)
  have NR:v.cells.zipIdx.foldl (λcs (x:Value×Nat)=>cs.setIfInBounds (a*size+x.2) x.1) cells=(v.cells.toList.zipIdx 0).foldl (λcs (x:Value×Nat)=>cs.setIfInBounds (a*size+x.2) x.1) cells:=by
   rw [←Array.foldl_toList,Array.toList_zipIdx]
  rw [←NR]at cc;generalize jG:v.cells.zipIdx.foldl (λcs (x:Value×Nat)=>cs.setIfInBounds (a*size+x.2) x.1) cells=c1 at cc
  obtain⟨ka,Z,ad,am,aR⟩:=WV l (a+1) c1 (λi x hx=>by
   obtain⟨Z,ad⟩:=ae (i+1) x (by simpa using hx)
   exact⟨by omega,ad⟩) (by rw [cc.1];simpa [Nat.add_assoc,Nat.add_comm 1]using hle)
  refine⟨ka,?_,by rw [ad,cc.1],λi hi=>?_,λi x j u hx hu=>?_⟩
  ·simp only [Instr.fill];rw [if_neg (by simp [eC];omega)]
   have:v.cells.zipIdx.foldl (λcs (c,j)=>cs.setIfInBounds (a*size+j) c) cells=c1:=jG
   rw [this];exact Z
  ·rw [am i (by rw [Nat.add_mul];omega),cc.2 i,if_neg (by omega)]
  ·cases i with
   |zero=>
    simp at hx;subst hx
    simp only at hu
    have hj:j<size:=by rw [←eC];exact(Array.getElem?_eq_some_iff.1 hu).1
    rw [Nat.add_zero,am _ (by rw [Nat.add_mul,Nat.one_mul];omega),cc.2,if_pos (by simp [eC];omega)]
    simpa using hu
   |succ i=>
    have:=aR i x j u (by simpa using hx) hu
    rw [show a+(i+1)=a+1+i by omega];exact this
def WW{WX:Bool}{size:Nat}:∀{cS:List (Nat×D)} {n:Nat} {xs:List V},elems WX size n cS=some xs→xs.length=cS.length∧
 ∀(i:Nat) y x,cS[i]? = some y→xs[i]? = some x→y=(n+i,.v x)∧x.cells.length=size∧x.isAgg=WX
 |[],n,xs,h=>by simp [elems]at h;subst h;simp
 |(j,d)::cS,n,xs,h=>by
  cases d<;>simp only [elems]at h<;>try cases h
  rename_i sw;rw [Bool.cond_eq_ite]at h;split at h
  case isFalse=>cases h
  rename_i hb;simp only [Bool.and_eq_true,Nat.beq_eq,beq_iff_eq]at hb;obtain⟨⟨cP,fk⟩,NQ⟩:=hb;simp only [Option.map_eq_some_iff]at h;obtain⟨ys,ci,rfl⟩:=h;obtain⟨Z,ad⟩:=WW ci;refine⟨by simp [Z],λi y x hi hx=>?_⟩
  cases i with
  |zero=>simp at hi hx;subst hi;subst hx;exact⟨by simp [cP],fk,NQ⟩
  |succ i=>
   simp at hi hx
   obtain⟨am,aR⟩:=ad i y x hi hx;exact⟨by rw [am];simp;omega,aR⟩
def agj(h:fO P K N M β g tmps w)(hp:fV tmps p)(co:fl P tt=true){t e:TypeId}{aJ cA:en}(ae:look tt t=some aJ)(hk:aJ.k = .bT e)(eQ:look tt e=some cA){len:Nat}
 {parts:Array (Nat×Operand)} (aq:o.op = .buildSlice t len parts) {cS:List (Nat×D)} (mz:mapM' (fun(x:Nat×Operand)=>(rd g.env g.ca p tt (sk tt t x.1) x.2).map λd=>(x.1,d)) parts.toList=some cS)
 {xs:List V} (hx:elems cA.k.isAgg cA.size 0 cS=some xs) (hlen:xs.length=len) (_hs:1≤cA.size) (hb:len*cA.size≤16777216) {x:V} (ao:hK (.bT cA.size len λi=>xs.getD i .gW) x) {rs:List fw} {bc:List Prop}:
 Yields P K M β g {e:=some {d:=.v x,own:=some e},rs,bc} o tmps w:=by
 obtain⟨r⟩:=eK co ae;obtain⟨ei⟩:=eK co eQ;obtain⟨Z,ad⟩:=NS h hp mz;obtain⟨q9,mA⟩:=WW hx;generalize sx:(parts.map fun(x:Nat×Operand)=>(x.1,(⟨tmps,[]⟩:Act).eval x.2))=pa at Z ad
 generalize nu:pa.toList=vs at Z ad
 have jF:vs.length=len:=by omega
 have iA:∀(i:Nat) b,vs[i]? = some b→∃x,xs[i]? = some x∧b.1=i∧dw M b.2 x∧x.cells.length=cA.size:=by
  intro i b hi;have Ny:i<vs.length:=(List.getElem?_eq_some_iff.1 hi).1;have ha:cS[i]? = some cS[i]:=List.getElem?_eq_getElem (by omega)
  have mZ:xs[i]? = some xs[i]:=List.getElem?_eq_getElem (by omega)
  obtain⟨am,aR,_⟩:=mA i _ _ ha mZ;obtain⟨bv,cz⟩:=ad i _ b ha hi;rw [am]at bv cz;exact⟨_,mZ,by simpa using bv.symm,og cz,aR⟩
 have sv:∀(i:Nat) b,vs[i]? = some b→∃x,xs[i]? = some x∧b.1=i∧b.2.cells.size=cA.size∧(∀u,u∈b.2.cells.toList→u.oneCell'=true)∧∀(j:Nat) u c,b.2.cells.toList[j]? = some u→x.cells[j]? = some c→dw M u c:=by
  intro i b hi;obtain⟨x,am,aR,bv,cz⟩:=iA i b hi;obtain⟨eG,eD,iI⟩:=(cE.v (β:=β) _ _ bv).cells rfl;refine⟨x,am,aR,by simp [cellsD]at eG;omega,eD,λj u c hu hc=>?_⟩
  exact og (iI j u (.v c) hu (by simp [cellsD,hc]))
 obtain⟨ka,yF,tS,asR,agk⟩:=WV (size:=cA.size) vs 0 ((Array.range (len*cA.size)).map λi=>ei.z.cells[i % ei.z.cells.size]!) (λi x hi=>by
  obtain⟨y,am,aR,bv,_⟩:=sv i x hi;exact⟨by omega,bv⟩) (by simp [jF])
 have eC:ka.size=len*cA.size:=by rw [tS];simp
 have jc:∀i j,i<len→j<cA.size→∃b u,vs[i]? = some b∧b.2.cells.toList[j]? = some u∧ka.toList[i*cA.size+j]? = some u:=by
  intro i j hi hj;have eU:vs[i]? = some vs[i]:=List.getElem?_eq_getElem (by omega)
  obtain⟨y,am,aR,bv,_⟩:=sv i _ eU;have hu:vs[i].2.cells[j]? = some vs[i].2.cells[j]:=Array.getElem?_eq_getElem (by omega)
  refine⟨vs[i],vs[i].2.cells[j],eU,(Array.getElem?_toList ..).trans hu,?_⟩
  have:=agk i _ j _ eU hu
  simpa using this
 have eX:(execOp (Act.eval ⟨tmps,[]⟩) o).run P w = .ok (.value (.slice (some ⟨w.heap.size,0,none⟩) len len)) {w with heap:=w.heap.push (.cells ⟨ka.toList⟩ e (0,0))}:=by
  simp only [execOp,aq];refine js _ ?_;have b0:¬ (16777216<len*cA.size):=by omega
  have agl:(parts.map fun(x:Nat×Operand)=>match x with|(i,x)=>(i,(⟨tmps,[]⟩:Act).eval x))=pa:=sx
  rw [agl];simp only [Instr.buildSlice,Sem.run_bind,r.run_underlying,qa r hk,Result.andThen_ok,ei.run_sizeOf];by_cases h0:len*cA.size=0
  ·have bO:∀f:Nat→Value,(Array.range (len*cA.size)).map f = #[]:=by intro f;rw [h0];simp
   rw [bO]at yF;have e1:∀f:Nat→Value,(Array.range 0).map f = #[]:=by intro f;simp
   simp [h0,nu,e1,yF,newRow]
  ·simp [h0,b0,ei.GS,nu,yF,newRow]
 obtain⟨c',hle⟩:=h.bC.newRow (w':={w with heap:=w.heap.push (.cells ⟨ka.toList⟩ e (0,0))}) (T:=e) (vs:=ka.toList) (n:=len*cA.size) rfl;have Cg:ka.toList.take (len*cA.size)=ka.toList:=List.take_of_length_le (by simp [eC])
 refine .inl ⟨_,_,eX,_,β,hle,λ_ _ h=>h,λ_ _ h=>.inl h,c',λe1 he=>?_⟩
 cases he;refine⟨.v _ _ (ao _ _ (.bT _ 0 cA.size len len _ (λi j=>ka.toList.getD (i*cA.size+j) undef) (Nat.le_refl _) ?_ ?_ ?_ ?_)),λT l0 aT=>?_⟩
 ·intro i hi;have mZ:xs[i]? = some xs[i]:=List.getElem?_eq_getElem (by omega)
  have ha:cS[i]? = some cS[i]:=List.getElem?_eq_getElem (by omega)
  simp only [List.getD,mZ,Option.getD_some];exact(mA i _ _ ha mZ).2.1
 ·intro i j hi hj;obtain⟨b,u,_,_,hu⟩:=jc i j hi hj;rw [Cg,Nat.zero_add];have:=G1 (M:=M) (b:=w.heap.size) (lo:=0) hu
  simpa [List.getD,hu]using this
 ·intro i j hi hj;obtain⟨b,u,cP,NX,hu⟩:=jc i j hi hj;obtain⟨y,_,_,_,cz,_⟩:=sv i b cP;simp only [List.getD,hu,Option.getD_some];exact GZ cz NX
 ·intro i j c hi hc;have mZ:xs[i]? = some xs[i]:=List.getElem?_eq_getElem (by omega)
  simp only [List.getD,mZ,Option.getD_some]at hc
  have hj:j<cA.size:=by
   have ha:cS[i]? = some cS[i]:=List.getElem?_eq_getElem (by omega)
   rw [←(mA i _ _ ha mZ).2.1];exact(List.getElem?_eq_some_iff.1 hc).1
  obtain⟨b,u,cP,NX,hu⟩:=jc i j hi hj;obtain⟨y,ci,_,_,_,eG⟩:=sv i b cP;rw [mZ]at ci;cases ci;simp only [List.getD,hu,Option.getD_some];exact(eG j u c NX hc).mono hle
 ·cases aT;have:=NV (l0:=l0) (T:=e) h.bC (vs:=ka.toList) (T':=e) (n:=len) (cap:=len) (w':={w with heap:=w.heap.push (.cells ⟨ka.toList⟩ e (0,0))}) rfl rfl (Nat.le_refl _) (by rw [ei.cellsOf];simp [eC])
  rw [ei.cellsOf]at this;exact this
end
section
variable {P:Program} {K:Ctx} {N:Nat} {M:Mem} {β:Nat→Option Nat} {g:dt} {tmps:Array Value} {w:World} {o:Oper} {f:lG} {p:Path} {tt:dS} {cx:gJ} {ops:List Oper}
def agm(h:fO P K N M β g tmps w)(hp:fV tmps p)(co:fl P tt=true){t:TypeId}{aJ:en}(ae:look tt t=some aJ){a:Operand}(aq:o.op = .load t a){q off:Nat}(ha:rd g.env g.ca p tt o.type a=some (.ptr q off))
 {cs:List aZ} (av:look g.H q=some cs) (h3:aJ.k.isAgg=true) (hle:off+aJ.size≤cs.length):
 Yields P K M β g {e:=some {d:=mT (((cs.drop off).take aJ.size).map (·.d))},rs:=g.rs} o tmps w:=by
 obtain⟨r⟩:=eK co ae;obtain⟨b,hb,ao⟩:=o9 (er (ds:=[]) h hp ha);obtain⟨bM,vs,T,b0,bB,hlen,_,_,gL,lg⟩:=h.bC.box q cs av;rw [hb]at b0;cases b0;have eX:=GU (P:=P) (w:=w) r (off:=off) bB (by omega) h3
 refine fm h (v:=.agg ⟨(vs.drop off).take aJ.size⟩) ?_ ?_
 ·simp only [execOp,aq];rw [ao];exact js _ eX
 ·refine yB (by simp;omega) (λv ao=>gL v (List.mem_of_mem_drop (List.mem_of_mem_take ao))) (λi v c ao hc=>?_)
  rw [List.getElem?_map,Option.map_eq_some_iff]at hc;obtain⟨e,he,rfl⟩:=hc;rw [List.getElem?_take]at ao he;split at ao
  ·rename_i hi;rw [if_pos hi,List.getElem?_drop]at he;rw [List.getElem?_drop]at ao;have:=h.bC.fb (.cell q (off+i)) e (by simp [aK.at,av,he])
   simpa [cn,hb,cell_of_heap bB,ao]using this
  ·cases ao
def agn(h:fO P K N M β g tmps w)(hp:fV tmps p)(co:fl P tt=true){t:TypeId}{aJ:en}(ae:look tt t=some aJ){a:Operand}(aq:o.op = .load t a){q off:Nat}(ha:rd g.env g.ca p tt o.type a=some (.ptr q off))
 {cs:List aZ} (av:look g.H q=some cs) (h3:aJ.k.isAgg=false) {e:aZ} (he:cs[off]? = some e):
 Yields P K M β g {e:=some {d:=e.d},rs:=g.rs} o tmps w:=by
 obtain⟨r⟩:=eK co ae;obtain⟨b,hb,ao⟩:=o9 (er (ds:=[]) h hp ha);obtain⟨bM,vs,T,v,b0,bB,eU,cB⟩:=Nx h.bC av he;rw [hb]at b0;cases b0;have hc:w.cell? ⟨b,off,none⟩=some v:=by rw [cell_of_heap bB,eU]
 refine fm h (v:=v) ?_ ?_
 ·simp only [execOp,aq];rw [ao];exact js _ (NH (P:=P) r hc h3)
 ·have:=h.bC.fb (.cell q off) e (by simp [aK.at,av,he])
  rwa [cB]at this
def WY{cs:List aZ}{off:Nat}{e:aZ}(b2:off<cs.length)(i:Nat):(setAt cs off [e])[i]? = if i=off then some e else cs[i]? := by
 rw [(oh cs off [e] (by simp;omega)).2 i]
 by_cases hi:i=off
 ·subst hi;simp
 ·rw [if_neg (by simp;omega),if_neg hi]
def ago(h:fO P K N M β g tmps w)(hp:fV tmps p)(co:fl P tt=true){t:TypeId}{aJ:en}(ae:look tt t=some aJ){a:Operand}(aq:o.op = .load t a){q off:Nat}(ha:rd g.env g.ca p tt o.type a=some (.ptr q off))
 {cs:List aZ} (av:look g.H q=some cs) (h3:aJ.k.isAgg=false) {e:aZ} (he:cs[off]? = some e) {s:TypeId} (hs:e.own=some s) {rs:List fw}:
 Yields P K M β g {e:=some e,hs:=[(q,setAt cs off [{d:=e.d}])],rs} o tmps w:=by
 obtain⟨r⟩:=eK co ae;obtain⟨b,hb,ao⟩:=o9 (er (ds:=[]) h hp ha);obtain⟨bM,vs,T,v,b0,bB,eU,cB⟩:=Nx h.bC av he;rw [hb]at b0;cases b0;have hc:w.cell? ⟨b,off,none⟩=some v:=by rw [cell_of_heap bB,eU]
 have b2:off<cs.length:=(List.getElem?_eq_some_iff.1 he).1
 have jr:=λl0=>h.bC.WB av he hs (cs':=setAt cs off [{d:=e.d}]) (oh cs off _ (by simp;omega)).1 (λj a7 hj=>by
  rw [WY b2]at hj;by_cases NY:j=off
  ·subst NY;simp at hj;subst hj;exact⟨e,he,rfl,by simp⟩
  ·rw [if_neg NY]at hj;exact⟨a7,hj,rfl,λT aT=>⟨aT,NY⟩⟩) l0
 refine .inl ⟨v,w,?_,M,β,Mem.le_refl _,λ_ _ h=>h,λ_ _ h=>.inl h,(jr (.slot 0)).1,λe1 qb=>?_⟩
 ·simp only [execOp,aq];rw [ao];exact js _ (NH (P:=P) r hc h3)
 ·cases qb;refine⟨?_,λT l0 aT=>?_⟩
  ·have:=h.bC.fb (.cell q off) e (by simp [aK.at,av,he])
   rwa [cB]at this
  ·rw [hs]at aT;cases aT;have:=(jr l0).2
   rwa [cB]at this
def agp(h:fO P K N M β g tmps w)(hp:fV tmps p)(co:fl P tt=true){t:TypeId}{aJ:en}(ae:look tt t=some aJ){a:Operand}(aq:o.op = .load t a){x:V}(ha:rd g.env g.ca p tt o.type a=some (.fg x))
 (h3:x.isAgg=aJ.k.isAgg) (hs:x.cells.length=aJ.size):Yields P K M β g {e:=some {d:=.v x},rs:=g.rs} o tmps w:=by
 obtain⟨r⟩:=eK co ae;obtain⟨u,Z,ad⟩:=af5 (w:=w) r h.bC.mem (er (ds:=[]) h hp ha) h3 hs;exact fm h (v:=u) (by simp only [execOp,aq];exact js _ Z) (.v _ _ ad)
def NZ{t:TypeId}{aJ:en}(r:Row P t aJ){b off:Nat}{vs:List Value}{T:TypeId}(bB:w.heap[b]? = some (.cells ⟨vs⟩ T (0,0))){v:Value}(hs:v.cells.size=aJ.size)(gL:∀u,u∈v.cells.toList→u.oneCell'=true)
 (hle:off+aJ.size≤vs.length):(Instr.storeAt t (.pointer (some ⟨b,off,none⟩)) v).run P w = .ok () (w.setRow b (vs.take off++v.cells.toList++vs.drop (off+aJ.size)).toArray):=by
 have:=run_storeCells_at P b off T v.cells.toList 0 ⟨vs⟩ w bB (by simpa [hs]using hle) gL
 simp only [Nat.add_zero,Array.length_toList,hs]at this;simp [Instr.storeAt,Instr.sureAddr,storeVar,r.run_sizeOf,hs,this]
def Ch{vs us:List Value}{off:Nat}(hle:off+us.length≤vs.length)(i:Nat):(vs.take off++us++vs.drop (off+us.length))[i]? = if off≤i∧i<off+us.length then us[i-off]? else vs[i]? := by
 have ax:(vs.take off).length=off:=by simp;omega
 by_cases Z:i<off
 ·rw [if_neg (by omega),List.append_assoc,List.getElem?_append_left (by omega),List.getElem?_take,if_pos Z]
 ·by_cases ad:i<off+us.length
  ·rw [if_pos (by omega),List.append_assoc,List.getElem?_append_right (by omega),ax,List.getElem?_append_left (by omega)]
  ·rw [if_neg (by omega),List.getElem?_append_right (by simp;omega),List.getElem?_drop]
   congr 1
   simp;omega
def vD{vs us:List Value}{off:Nat}(hle:off+us.length≤vs.length):(vs.take off++us++vs.drop (off+us.length)).length=vs.length:=by
 simp;omega
def N0{vs us:List Value}{off:Nat}(Z:∀v,v∈vs→v.oneCell'=true)(ad:∀v,v∈us→v.oneCell'=true):∀v,v∈vs.take off++us++vs.drop (off+us.length)→v.oneCell'=true:=by
 intro v ao;rcases List.mem_append.1 ao with ao|ao
 ·rcases List.mem_append.1 ao with ao|ao
  ·exact Z v (List.mem_of_mem_take ao)
  ·exact ad v ao
 ·exact Z v (List.mem_of_mem_drop ao)
def N1{v:Value}{t:TypeId}{a x:Operand}(aq:o.op = .store t a x)(hx:(⟨tmps,[]⟩:Act).eval x=v){h4:Value}(ha:(⟨tmps,[]⟩:Act).eval a=h4){w':World}(h:(Instr.storeAt t h4 v).run P w = .ok () w'):
 (execOp (Act.eval ⟨tmps,[]⟩) o).run P w = .ok .skip w':=by
 simp only [execOp,aq,hx,ha];simp [h]
def lJ.set{T:TypeId}{n:Nat}{cs ds:List aZ}{off:Nat}(h:lJ P T n cs)(hn:∀e,e∈ds→∀r o u,e.d ≠ .cK r o u)(hle:off+ds.length≤cs.length):lJ P T n (setAt cs off ds):=λe he r o u hd=>by
 obtain⟨i,hi,rfl⟩:=List.getElem_of_mem he;have hg:(setAt cs off ds)[i]? = some (setAt cs off ds)[i]:=List.getElem?_eq_getElem hi;rw [(oh cs off ds hle).2 i]at hg;split at hg
 ·exact absurd hd (hn _ (List.mem_of_getElem? hg) r o u)
 ·exact h _ (List.mem_of_getElem? hg) r o u hd
def agq(h:fO P K N M β g tmps w)(hp:fV tmps p)(co:fl P tt=true){t:TypeId}{aJ:en}(ae:look tt t=some aJ){a x:Operand}(aq:o.op = .store t a x){q off:Nat}(ha:rd g.env g.ca p tt o.type a=some (.ptr q off))
 {cs:List aZ} (av:look g.H q=some cs) {d:D} (hx:rd g.env g.ca p tt t x=some d) (ax:q0 d=false) (q7:sh (cellsD d)=true) (hs:(cellsD d).length=aJ.size) (hle:off+aJ.size≤cs.length):
 Yields P K M β g {e:=none,hs:=[(q,setAt cs off ((cellsD d).map λd=>{d}))],rs:=g.rs} o tmps w:=by
 obtain⟨r⟩:=eK co ae;obtain⟨b,hb,ao⟩:=o9 (er (ds:=[]) h hp ha);obtain⟨bM,vs,T,b0,bB,hlen,_,_,gL,lg⟩:=h.bC.box q cs av;rw [hb]at b0;cases b0;obtain⟨Z,ad,am⟩:=(er (ds:=[]) h hp hx).cells ax;generalize hu:(⟨tmps,[]⟩:Act).eval x=u at Z ad am
 have WZ:u.cells.size=aJ.size:=by simp at Z;omega
 have q_:u.cells.toList.length=aJ.size:=by simpa using WZ
 have eX:=NZ (P:=P) r (off:=off) bB WZ ad (by omega)
 rw [←q_]at eX;refine .inr (.inl ⟨rfl,_,N1 aq hu ao eX,M,β,Mem.le_refl _,λ_ _ h=>h,λ_ _ h=>.inl h,?_,λe he=>by cases he⟩)
 have lL:=oh cs off ((cellsD d).map λd=>({d}:aZ)) (by simp;omega)
 refine h.bC.GP av hb bB (vs':=vs.take off++u.cells.toList++vs.drop (off+u.cells.toList.length)) (by rw [vD (by omega),lL.1,hlen]) (N0 gL ad) (λ_=>by
  rw [vD (by omega)]
  refine lg.set (λe he=>?_) (by simp;omega)
  obtain⟨c,hc,rfl⟩:=List.mem_map.1 he;exact B_ q7 c hc) lL.1
  (setRow_heap w b _ _ T (0,0) bB) (λbM dY=>setRow_other w b bM _ dY) cs.length (λi v e eU ju=>?_)
 rw [Ch (by omega)]at eU
 rw [lL.2]at ju;simp only [List.length_map]at ju;by_cases hi:off≤i∧i<off+aJ.size
 ·rw [if_pos (by omega)]at eU
  rw [if_pos (by omega),List.getElem?_map,Option.map_eq_some_iff]at ju
  obtain⟨c,hc,rfl⟩:=ju;exact⟨am _ v c eU hc,by simp⟩
 ·rw [if_neg (by omega)]at eU
  rw [if_neg (by omega)]at ju
  have agr:i<cs.length:=(List.getElem?_eq_some_iff.1 ju).1;refine⟨?_,λT aT=>.inl ⟨by omega,⟨e,ju,aT⟩,eU⟩⟩
  have:=h.bC.fb (.cell q i) e (by simp [aK.at,av,ju])
  simpa [cn,hb,cell_of_heap bB,eU]using this
def W0(ty:Nat→Option TypeId):∀(l:List aZ) (n:Nat),(p6 ty n l).length=l.length∧∀(i:Nat) a7,(p6 ty n l)[i]? = some a7→∃e,l[i]? = some e∧((e.d=a7.d∧∀T,a7.own=some T→e.own=some T)∨∃k g,e.d = .v (.o1 k g)∧a7.d = .v (.bT k 0 g))
 |[],n=>by simp [p6]
 |e::l,n=>by
  obtain⟨Z,ad⟩:=W0 ty l (n+1);refine⟨by simp [p6,Z],λi a7 he=>?_⟩
  cases i with
  |zero=>
   simp only [p6,List.getElem?_cons_zero,Option.some.injEq]at he;refine⟨e,rfl,?_⟩
   split at he
   ·rename_i k g hd;subst he;exact .inr ⟨k,g,hd,rfl⟩
   ·subst he;exact .inl ⟨rfl,λ_ h=>h⟩
  |succ i=>simp only [p6,List.getElem?_cons_succ]at he ⊢;exact ad i a7 he
def W1(h:fO P K N M β g tmps w)(hp:fV tmps p)(co:fl P tt=true){t:TypeId}{aJ:en}(ae:look tt t=some aJ){a x:Operand}(aq:o.op = .store t a x){q off:Nat}(ha:rd g.env g.ca p tt o.type a=some (.ptr q off))
 {cs:List aZ} (av:look g.H q=some cs) {d:D} (hx:rd g.env g.ca p tt t x=some d) (ax:q0 d=false) (q7:sh (cellsD d)=true) (hs:(cellsD d).length=aJ.size) (hle:off+aJ.size≤cs.length) (ty:Nat→Option TypeId):
 Yields P K M β g {e:=none,hs:=[(q,p6 ty 0 (setAt cs off ((cellsD d).map λd=>{d})))],rs:=g.rs} o tmps w:=by
 have up:∀{M':Mem} {β':Nat→Option Nat} {v:Value} {w':World},yE P K M β g {e:=none,hs:=[(q,setAt cs off ((cellsD d).map λd=>{d}))],rs:=g.rs} tmps v w'→
  yE P K M β g {e:=none,hs:=[(q,p6 ty 0 (setAt cs off ((cellsD d).map λd=>{d})))],rs:=g.rs} tmps v w':=by
  rintro M' β' v w' ⟨vE,sy,Z,ad,am,aR,_⟩
  refine⟨vE,sy,Z,ad,λr b hb=>?_,?_,λe he=>by cases he⟩
  ·rcases am r b hb with bv|bv
   ·exact .inl bv
   ·right
    simp only [dN]at bv ⊢;split at bv
    ·rename_i oi;simp [oi]
    ·cases bv
  ·obtain⟨g1,g2⟩:=W0 ty (setAt cs off ((cellsD d).map λd=>({d}:aZ))) 0
   refine aR.afN rfl (λl a7 cZ=>?_) (λr cs' ah=>?_)
   ·cases l with
    |slot s=>exact⟨a7,cZ,.inl ⟨rfl,λ_ h=>h⟩⟩
    |cell r i=>
     simp only [aK.at,after,List.cons_append,List.nil_append,dN]at cZ ⊢;by_cases oi:q=r
     ·simp only [oi,if_true,Option.bind_some]at cZ ⊢;exact g2 i a7 cZ
     ·simp only [oi,if_false]at cZ ⊢;exact⟨a7,cZ,.inl ⟨rfl,λ_ h=>h⟩⟩
   ·simp only [after,List.cons_append,List.nil_append,dN]at ah ⊢;by_cases oi:q=r
    ·simp only [oi,if_true,Option.some.injEq]at ah ⊢;subst ah;exact⟨_,rfl,g1.symm⟩
    ·simp only [oi,if_false]at ah ⊢;exact⟨cs',ah,rfl⟩
 rcases agq h hp co ae aq ha av hx ax q7 hs hle with⟨v,w',Z,ad⟩|⟨h0,w',Z,ad⟩|⟨fn,vs,Z,ad⟩
 ·exact .inl ⟨v,w',Z,up (M':=M) (β':=β) ad⟩
 ·exact .inr (.inl ⟨h0,w',Z,up (M':=M) (β':=β) ad⟩)
 ·exact .inr (.inr ⟨fn,vs,Z,ad.mono λe w' ⟨v,am,aR⟩=>⟨v,am,up (M':=M) (β':=β) aR⟩⟩)
def W2(h:fO P K N M β g tmps w)(hp:fV tmps p)(co:fl P tt=true){t:TypeId}{aJ:en}(ae:look tt t=some aJ){a x:Operand}(aq:o.op = .store t a x){q off:Nat}(ha:rd g.env g.ca p tt o.type a=some (.ptr q off))
 {cs:List aZ} (av:look g.H q=some cs) {k n:Nat} {get:Nat→V} (hx:rd g.env g.ca p tt t x=some (.v (.bT k n get))) (hs:aJ.size=1) (hle:off+aJ.size≤cs.length) {s:TypeId} {l:List Nat}
 (f8:mV P K M β {env:=gX l g.env,H:=g.H,a1:=g.a1} tmps w (.cell q off) ((⟨tmps,[]⟩:Act).eval x) s):
 Yields P K M β g {e:=none,hF:=l,hs:=[(q,setAt cs off [{d:=.v (.bT k n get),own:=some s}])],rs:=g.rs} o tmps w:=by
 obtain⟨r⟩:=eK co ae;obtain⟨b,hb,ao⟩:=o9 (er (ds:=[]) h hp ha);have o_:=h.bC.hF l;obtain⟨bM,vs,T,b0,bB,hlen,_,_,gL,lg⟩:=h.bC.box q cs av;rw [hb]at b0;cases b0;have lM:=er (ds:=[]) h hp hx;generalize hu:(⟨tmps,[]⟩:Act).eval x=u at lM f8
 have Ci:u.cells = #[u]∧u.oneCell'=true:=by
  obtain⟨a,cap,rfl,_⟩:=vB lM;exact⟨rfl,rfl⟩
 have eX:=NZ (P:=P) r (off:=off) bB (v:=u) (by rw [Ci.1,hs];rfl) (by rw [Ci.1];simpa using Ci.2) (by omega)
 rw [Ci.1,hs]at eX;have b2:off<cs.length:=by omega
 refine .inr (.inl ⟨rfl,_,N1 aq hu ao eX,M,β,Mem.le_refl _,λ_ _ h=>h,λ_ _ h=>.inl h,?_,λe he=>by cases he⟩)
 refine o_.GP (st:={env:=gX l g.env,H:=g.H,a1:=g.a1}) av hb bB (vs':=vs.take off++[u]++vs.drop (off+1)) (by rw [show off+1=off+[u].length by rfl,vD (by simp;omega),(oh cs off _ (by simp;omega)).1,hlen])
  (N0 (us:=[u]) gL (by simpa using Ci.2)) (λ_=>by
   rw [show off+1=off+[u].length by rfl,vD (by simp;omega)]
   refine lg.set (λe he=>?_) (by simp;omega)
   obtain rfl:=List.mem_singleton.1 he;exact λ_ _ _ e=>by cases e) (oh cs off _ (by simp;omega)).1 (setRow_heap w b _ _ T (0,0) bB) (λbM dY=>setRow_other w b bM _ dY) off (λi v e eU ju=>?_)
 rw [show off+1=off+[u].length by rfl,Ch (by simp;omega)]at eU
 rw [WY b2]at ju;by_cases hi:i=off
 ·subst hi;simp at eU ju
  subst eU;subst ju;refine⟨lM,λT aT=>.inr ⟨rfl,?_⟩⟩
  cases aT;exact f8
 ·rw [if_neg hi]at ju;rw [if_neg (by simp;omega)]at eU
  refine⟨?_,λT aT=>.inl ⟨hi,⟨e,ju,aT⟩,eU⟩⟩
  have:=h.bC.fb (.cell q i) e (by simp [aK.at,av,ju])
  simpa [cn,hb,cell_of_heap bB,eU]using this
end
section
variable {P:Program} {K:Ctx} {M:Mem} {β:Nat→Option Nat} {st:aK} {tmps:Array Value} {w:World}
def bR.W3(h:bR P K M β st tmps w){r off size T b:Nat}{cs cs':List aZ}{vs:List Value}{dS:TypeId}(ah:look st.H r=some cs)(hb:β r=some b)(bB:w.heap[b]? = some (.cells ⟨vs⟩ dS (0,0)))
 (gL:∀v,v∈vs→v.oneCell'=true) (hlen:vs.length=cs.length)
 (hm:∀x,x∈marks T→x.1<size∧∃e,cs[off+x.1]? = some e∧e.own=some x.2)
 (ev:cs'.length=cs.length) (jr:∀(j:Nat) a7,cs'[j]? = some a7→∃bO,cs[j]? = some bO∧bO.d=a7.d∧(∀U,a7.own=some U→bO.own=some U∧∀x,x∈marks T→j≠off+x.1)) (l0:Loc):
 bR P K M β {st with H:=(r,cs')::st.H} tmps w∧mV P K M β {st with H:=(r,cs')::st.H} tmps w l0 (.agg ⟨(vs.drop off).take size⟩) T:=by
 have fr:∀l a7,({st with H:=(r,cs')::st.H}:aK).at l=some a7→∃bO,st.at l=some bO∧bO.d=a7.d∧∀U,a7.own=some U→bO.own=some U∧∀x,x∈marks T→l ≠ .cell r (off+x.1):=by
  intro l a7 cZ;cases l with
  |slot s=>exact⟨a7,cZ,rfl,λU h=>⟨h,λ_ _=>by simp⟩⟩
  |cell cT j=>
   by_cases hM:r=cT
   ·subst hM;simp [aK.at,dN]at cZ;obtain⟨bO,Z,ad,am⟩:=jr j a7 cZ;exact⟨bO,by simp [aK.at,ah,Z],ad,λU hN=>⟨(am U hN).1,λx hx=>by simp [(am U hN).2 x hx]⟩⟩
   ·refine⟨a7,by simpa [aK.at,dN,hM]using cZ,rfl,λU h=>⟨h,λ_ _=>by simp [Ne.symm hM]⟩⟩
 have eW:∀cT c,look ((r,cs')::st.H) cT=some c→∃h2,look st.H cT=some h2∧h2.length=c.length:=by
  intro cT c hc;by_cases hM:r=cT
  ·subst hM;simp [dN]at hc;subst hc;exact⟨cs,ah,ev.symm⟩
  ·exact⟨c,by simpa [dN,hM]using hc,rfl⟩
 -- G2 asS at a mark
 have mk:∀x,x∈marks T→∃e,st.at (.cell r (off+x.1))=some e∧e.own=some x.2∧cn tmps w β (.cell r (off+x.1))=(Array.mk ((vs.drop off).take size)).getD x.1 undef∧l' P K.F M w x.2 ((Array.mk ((vs.drop off).take size)).getD x.1 undef)∧
  ∀cl,jp x.2 (cn tmps w β (.cell r (off+x.1))) cl↔kw ((Array.mk ((vs.drop off).take size)).getD x.1 undef)=some cl:=by
  intro x hx;obtain⟨b2,e,he,aT⟩:=hm x hx;have ae:st.at (.cell r (off+x.1))=some e:=by simp [aK.at,ah,he]
  have vF:off+x.1<vs.length:=by rw [hlen];exact(List.getElem?_eq_some_iff.1 he).1
  have ao:cn tmps w β (.cell r (off+x.1))=vs[off+x.1]:=by simp only [cn,hb,cell_of_heap bB,List.getElem?_eq_getElem vF,Option.getD_some]
  have hg:(Array.mk ((vs.drop off).take size)).getD x.1 undef=vs[off+x.1]:=by
   have:((vs.drop off).take size)[x.1]? = some vs[off+x.1]:=by rw [List.getElem?_take,if_pos b2,List.getElem?_drop,List.getElem?_eq_getElem vF]
   simp [Array.getD_eq_getD_getElem?,this]
  have aq:=h.own _ e x.2 ae aT;have Z:=gL vs[off+x.1] (List.getElem_mem vF);refine⟨e,ae,aT,ao.trans hg.symm,?_,?_⟩
  ·rw [hg];rw [ao]at aq;rcases aq.cases with⟨c,hc⟩|⟨ad,_⟩
   ·rw [hc]at Z;cases Z
   ·exact ad
  ·rw [hg];rw [ao]at aq ⊢;rcases aq.cases with⟨c,hc⟩|⟨_,ad⟩
   ·rw [hc]at Z;cases Z
   ·exact ad
 refine⟨h.sub rfl (λl a7 cZ=>?_) eW,⟨λx hx=>?_,λx hx y ci mX cl Z ad=>?_⟩,λl a7 T' cl cZ ep _ cP b0=>?_,λcl cT c cP fj=>?_⟩
 ·obtain⟨bO,Z,ad,am⟩:=fr l a7 cZ;exact⟨bO,Z,ad,λT aT=>(am T aT).1⟩
 ·obtain⟨_,_,_,_,Z,_⟩:=mk x hx;exact Z
 ·obtain⟨e1,a_,a2,_,_,a3⟩:=mk x hx;obtain⟨e2,c1,c2,_,_,c3⟩:=mk y ci;have:=h.uniq _ _ e1 e2 x.2 y.2 cl a_ a2 c1 c2 ((a3 cl).2 Z) ((c3 cl).2 ad)
  simp only [Loc.cell.injEq]at this;omega
 ·obtain⟨x,hx,cP⟩:=cP;obtain⟨e1,a_,a2,_,_,a3⟩:=mk x hx;obtain⟨bO,Z,_,am⟩:=fr l a7 cZ;exact(am T' ep).2 x hx (h.uniq l _ bO e1 T' x.2 cl Z (am T' ep).1 a_ a2 b0 ((a3 cl).2 cP))
 ·obtain⟨x,hx,cP⟩:=cP;obtain⟨e1,a_,a2,_,_,a3⟩:=mk x hx;obtain⟨h2,Z,_⟩:=eW cT c fj;exact h.unbox _ e1 x.2 cl cT h2 a_ a2 ((a3 cl).2 cP) Z
def bR.ags(h:bR P K M β st tmps w){s r off T:Nat}{e:aZ}{cs cs':List aZ}{us:List Value}(hs:look st.env s=some e)(aT:e.own=some T)(hu:tmps.getD s undef = .agg ⟨us⟩)
 (ah:look st.H r=some cs) (ao:∀x,x∈marks T→cn tmps w β (.cell r (off+x.1))=(Array.mk us).getD x.1 undef) (ev:cs'.length=cs.length)
 (gL:∀x,x∈marks T→∀c,(Array.mk us).getD x.1 undef ≠ .agg c)
 (jr:∀(j:Nat) a7,cs'[j]? = some a7→∃bO,cs[j]? = some bO∧bO.d=a7.d∧∀U,a7.own=some U→bO.own=some U∨∃x,x∈marks T∧j=off+x.1∧U=x.2):
 bR P K M β {st with env:=gX [s] st.env,H:=(r,cs')::st.H} tmps w:=by
 have ae:st.at (.slot s)=some e:=hs;have aq:=h.own (.slot s) e T ae aT;have cB:cn tmps w β (.slot s) = .agg ⟨us⟩:=hu;rw [cB]at aq
 have fr:∀l a7,({st with env:=gX [s] st.env,H:=(r,cs')::st.H}:aK).at l=some a7→∃bO,st.at l=some bO∧bO.d=a7.d∧∀U,a7.own=some U→(bO.own=some U∧l ≠ .slot s)∨∃x,x∈marks T∧l = .cell r (off+x.1)∧U=x.2:=by
  intro l a7 cZ;cases l with
  |slot sq=>
   simp only [aK.at,nq]at cZ ⊢;by_cases vw:sq=s
   ·subst vw;simp at cZ
    obtain⟨e1,Z,rfl⟩:=cZ;exact⟨e1,Z,rfl,λU hN=>by simp at hN⟩
   ·simp [vw]at cZ;exact⟨a7,cZ,rfl,λU hN=>.inl ⟨hN,by simp [vw]⟩⟩
  |cell cT j=>
   by_cases hM:r=cT
   ·subst hM;simp [aK.at,dN]at cZ;obtain⟨bO,Z,ad,am⟩:=jr j a7 cZ;refine⟨bO,by simp [aK.at,ah,Z],ad,λU hN=>?_⟩
    rcases am U hN with aR|⟨x,hx,aR,bv⟩
    ·exact .inl ⟨aR,by simp⟩
    ·exact .inr ⟨x,hx,by rw [aR],bv⟩
   ·exact⟨a7,by simpa [aK.at,dN,hM]using cZ,rfl,λU hN=>.inl ⟨hN,by simp⟩⟩
 have eW:∀cT c,look ((r,cs')::st.H) cT=some c→∃h2,look st.H cT=some h2∧h2.length=c.length:=by
  intro cT c hc;by_cases hM:r=cT
  ·subst hM;simp [dN]at hc;subst hc;exact⟨cs,ah,ev.symm⟩
  ·exact⟨c,by simpa [dN,hM]using hc,rfl⟩
 have G3:∀x,x∈marks T→∀cl,jp x.2 ((Array.mk us).getD x.1 undef) cl↔kw ((Array.mk us).getD x.1 undef)=some cl:=by
  intro x hx cl;have:=gL x hx
  generalize (Array.mk us).getD x.1 undef=v at this
  cases v<;>first
   |exact Iff.rfl
   |exact absurd rfl (this _)
 have N2:∀x,x∈marks T→∀cl,kw ((Array.mk us).getD x.1 undef)=some cl→jp T (cn tmps w β (.slot s)) cl:=λx hx cl cP=>by rw [cB];exact⟨x,hx,cP⟩
 -- lN state asT any marks, first
 have base:bR P K M β {st with env:=gX [s] st.env,H:=(r,cs')::st.H} tmps w↔True:=by
  refine⟨λ_=>trivial,λ_=>?_⟩
  constructor
  ·intro l a7 cZ;obtain⟨bO,Z,ad,_⟩:=fr l a7 cZ;rw [←ad];exact h.fb l bO Z
  ·intro l a7 U cZ hN;obtain⟨bO,Z,_,am⟩:=fr l a7 cZ;rcases am U hN with⟨aR,_⟩|⟨x,hx,rfl,rfl⟩
   ·exact h.own l bO U Z aR
   ·rw [ao x hx];exact(aq.1 x hx).at
  ·intro l cR e1 e2 U G4 cl e7 hN eQ W4 cP fk;obtain⟨f1,g1,_,ef⟩:=fr l e1 e7;obtain⟨f2,g2,_,aj⟩:=fr cR e2 eQ;rcases ef U hN with⟨m1,n1⟩|⟨x,hx,rfl,rfl⟩
   ·rcases aj G4 W4 with⟨m2,n2⟩|⟨y,ci,rfl,rfl⟩
    ·exact h.uniq l cR f1 f2 U G4 cl g1 m1 g2 m2 cP fk
    ·rw [ao y ci,G3 y ci]at fk;exact absurd (h.uniq l (.slot s) f1 e U T cl g1 m1 ae aT cP (N2 y ci cl fk)) n1
   ·rw [ao x hx,G3 x hx]at cP;rcases aj G4 W4 with⟨m2,n2⟩|⟨y,ci,rfl,rfl⟩
    ·exact absurd (h.uniq cR (.slot s) f2 e G4 T cl g2 m2 ae aT fk (N2 x hx cl cP)) n2
    ·rw [ao y ci,G3 y ci]at fk;by_cases mX:x.1=y.1
     ·rw [mX]
     ·exact absurd fk (aq.2 x hx y ci mX cl cP)
  ·intro l e1 U cl cT c e7 hN cP fj;obtain⟨f1,g1,_,ef⟩:=fr l e1 e7;obtain⟨h2,Z,_⟩:=eW cT c fj;rcases ef U hN with⟨m1,n1⟩|⟨x,hx,rfl,rfl⟩
   ·exact h.unbox l f1 U cl cT h2 g1 m1 cP Z
   ·rw [ao x hx,G3 x hx]at cP;exact h.unbox (.slot s) e T cl cT h2 ae aT (N2 x hx cl cP) Z
  ·intro cT c fj;obtain⟨h2,ii,hlen⟩:=eW cT c fj;obtain⟨cl,vs,hr,Z,ad,am,aR,bv,cz,eG⟩:=h.box cT h2 ii
   exact⟨cl,vs,hr,Z,ad,am.trans hlen,aR,bv,cz,eG.Nw ii fj λl a7 ae=>by
    obtain⟨e,g1,g2,_⟩:=fr l a7 ae;exact⟨e,g1,.inl g2⟩⟩
  ·intro r1 r2 cl c1 c2 ii jb cP fk;obtain⟨d1,Z,_⟩:=eW r1 c1 ii;obtain⟨d2,ad,_⟩:=eW r2 c2 jb;exact h.inj r1 r2 cl d1 d2 Z ad cP fk
  ·exact h.lt
  ·exact h.mem
  ·exact h.m0
  ·exact h.frame
  ·exact h.iH
  ·exact h.jq
  ·exact h.h1
 exact base.2 trivial
end
def Cj:∀(l:List aZ) (i:Nat) (x:Nat×TypeId),x∈marksOf i l→i≤x.1∧∃e,l[x.1-i]? = some e∧e.own=some x.2
 |[],i,x,h=>by simp [marksOf]at h
 |e::l,i,x,h=>by
  have next:x∈marksOf (i+1) l→i≤x.1∧∃a7,(e::l)[x.1-i]? = some a7∧a7.own=some x.2:=λh=>by
   obtain⟨Z,a7,ad,am⟩:=Cj l (i+1) x h;refine⟨by omega,a7,?_,am⟩
   rw [show x.1-i=(x.1-(i+1))+1 by omega,List.getElem?_cons_succ];exact ad
  unfold marksOf at h;split at h
  ·rename_i T aT;rcases List.mem_cons.1 h with rfl|h
   ·exact⟨Nat.le_refl _,e,by simp,aT⟩
   ·exact next h
  ·exact next h
def N3:∀{l m:List (Nat×TypeId)},tJ l m=true→l=m
 |[],[],_=>rfl
 |x::l,y::m,h=>by
  simp only [tJ,Bool.and_eq_true,Nat.beq_eq]at h;rw [N3 h.2];obtain⟨a,b⟩:=x;obtain⟨c,d⟩:=y;simp only at h
  rw [h.1.1,h.1.2]
 |[],_::_,h=>by simp [tJ]at h
 |_::_,[],h=>by simp [tJ]at h
def W5:∀{ms:List (Nat×TypeId)} {i:Nat} {U:TypeId},yo ms i=some U→∃x,x∈ms∧x.1=i∧U=x.2
 |[],i,U,h=>by simp [yo]at h
 |x::l,i,U,h=>by
  unfold yo at h;rw [Bool.cond_eq_ite]at h;split at h
  ·rename_i hx;cases h;exact⟨x,by simp,by simpa using hx,rfl⟩
  ·obtain⟨y,ci,Z,ad⟩:=W5 h;exact⟨y,by simp [ci],Z,ad⟩
def W6(ms:List (Nat×TypeId)):∀(ds:List D) (i:Nat),(p7 ms i ds).length=ds.length∧∀(j:Nat),(p7 ms i ds)[j]? = (ds[j]?).map λd=>{d,own:=yo ms (i+j)}
 |[],i=>by simp [p7]
 |d::ds,i=>by
  obtain⟨Z,ad⟩:=W6 ms ds (i+1);refine⟨by simp [p7,Z],λj=>?_⟩
  cases j with
  |zero=>simp [p7]
  |succ j=>simp only [p7,List.getElem?_cons_succ];rw [ad j,show i+1+j=i+(j+1)by omega]
def agt{M:Mem}{β:Nat→Option Nat}{v:Value}{d:D}(h:cE M β v d)(hd:Nr d=true):∃us,v = .agg ⟨us⟩:=by
 cases h<;>first
  |(cases hd;done)
  |(rename_i hx;cases hx<;>first |(cases hd;done) |exact⟨_,rfl⟩)
  |exact⟨_,rfl⟩
section
variable {P:Program} {K:Ctx} {N:Nat} {M:Mem} {β:Nat→Option Nat} {g:dt} {tmps:Array Value} {w:World} {o:Oper} {p:Path} {tt:dS}
def agu(h:fO P K N M β g tmps w)(hp:fV tmps p)(co:fl P tt=true){t:TypeId}{aJ:en}(ae:look tt t=some aJ){a:Operand}(aq:o.op = .load t a){q off:Nat}(ha:rd g.env g.ca p tt o.type a=some (.ptr q off))
 {cs:List aZ} (av:look g.H q=some cs) (h3:aJ.k.isAgg=true) (hle:off+aJ.size≤cs.length) {c:Nat} (hm:tJ (marks c) (marksOf 0 ((cs.drop off).take aJ.size))=true) {rs:List fw}:
 Yields P K M β g {e:=some {d:=mT (((cs.drop off).take aJ.size).map (·.d)),own:=some c},hs:=[(q,setAt cs off (((cs.drop off).take aJ.size).map λe=>{d:=e.d}))],rs} o tmps w:=by
 obtain⟨r⟩:=eK co ae;obtain⟨b,hb,ao⟩:=o9 (er (ds:=[]) h hp ha);obtain⟨bM,vs,T,b0,bB,hlen,_,_,gL,lg⟩:=h.bC.box q cs av;rw [hb]at b0;cases b0;have eX:=GU (P:=P) (w:=w) r (off:=off) bB (by omega) h3
 have ra:=N3 hm;have jF:((cs.drop off).take aJ.size).length=aJ.size:=by simp;omega
 have lL:=oh cs off (((cs.drop off).take aJ.size).map λe=>({d:=e.d}:aZ)) (by rw [List.length_map,jF];exact hle)
 have rb:∀j,j<aJ.size→((cs.drop off).take aJ.size)[j]? = cs[off+j]? := λj hj=>by rw [List.getElem?_take,if_pos hj,List.getElem?_drop]
 have jr:=λl0=>h.bC.W3 (T:=c) (size:=aJ.size) (off:=off) av hb bB gL hlen (cs':=setAt cs off (((cs.drop off).take aJ.size).map λe=>{d:=e.d})) (λx hx=>by
  rw [ra]at hx;obtain⟨_,e,ad,am⟩:=Cj _ 0 x hx;rw [Nat.sub_zero]at ad;have b2:x.1<aJ.size:=by rw [←jF];exact(List.getElem?_eq_some_iff.1 ad).1
  exact⟨b2,e,by rw [←rb x.1 b2];exact ad,am⟩) lL.1 (λj a7 hj=>by
  rw [lL.2]at hj;rw [List.length_map,jF]at hj;by_cases hi:off≤j∧j<off+aJ.size
  ·rw [if_pos hi,List.getElem?_map,Option.map_eq_some_iff]at hj;obtain⟨bO,Z,rfl⟩:=hj;rw [rb _ (by omega),show off+(j-off)=j by omega]at Z
   exact⟨bO,Z,rfl,λU hN=>by cases hN⟩
  ·rw [if_neg hi]at hj;refine⟨a7,hj,rfl,λU hN=>⟨hN,λx hx agv=>?_⟩⟩
   rw [ra]at hx;obtain⟨_,e,ad,_⟩:=Cj _ 0 x hx;rw [Nat.sub_zero]at ad;have b2:x.1<aJ.size:=by rw [←jF];exact(List.getElem?_eq_some_iff.1 ad).1
   omega) l0
 refine .inl ⟨.agg ⟨(vs.drop off).take aJ.size⟩,w,?_,M,β,Mem.le_refl _,λ_ _ h=>h,λ_ _ h=>.inl h,(jr (.slot 0)).1,λe1 qb=>?_⟩
 ·simp only [execOp,aq];rw [ao];exact js _ eX
 ·cases qb;refine⟨?_,λT l0 aT=>?_⟩
  ·refine yB (by simp;omega) (λv ao=>gL v (List.mem_of_mem_drop (List.mem_of_mem_take ao))) (λi v c ao hc=>?_)
   rw [List.getElem?_map,Option.map_eq_some_iff]at hc;obtain⟨e,he,rfl⟩:=hc;rw [List.getElem?_take]at ao he;split at ao
   ·rename_i hi;rw [if_pos hi,List.getElem?_drop]at he;rw [List.getElem?_drop]at ao;have:=h.bC.fb (.cell q (off+i)) e (by simp [aK.at,av,he])
    simpa [cn,hb,cell_of_heap bB,ao]using this
   ·cases ao
  ·cases aT;exact(jr l0).2
def agw(h:fO P K N M β g tmps w)(hp:fV tmps p)(co:fl P tt=true){t:TypeId}{aJ:en}(ae:look tt t=some aJ){a:Operand}{u:Nat}(aq:o.op = .store t a (.tmp u)){q off:Nat}(ha:rd g.env g.ca p tt o.type a=some (.ptr q off))
 {cs:List aZ} (av:look g.H q=some cs) {d:D} (hx:rd g.env g.ca p tt t (.tmp u)=some d) (ax:q0 d=false) (q7:sh (cellsD d)=true) (hs:(cellsD d).length=aJ.size) (hle:off+aJ.size≤cs.length)
 (h3:Nr d=true) {yG:aZ} {s:TypeId} (vG:look g.env u=some yG) (aT:yG.own=some s) (pb:∀x,x∈marks s→x.1<aJ.size) {rs:List fw}:
 Yields P K M β g {e:=none,hF:=[u],hs:=[(q,setAt cs off (p7 (marks s) 0 (cellsD d)))],rs} o tmps w:=by
 obtain⟨r⟩:=eK co ae;obtain⟨b,hb,ao⟩:=o9 (er (ds:=[]) h hp ha);obtain⟨bM,vs,T,b0,bB,hlen,_,_,gL,lg⟩:=h.bC.box q cs av;rw [hb]at b0;cases b0;have f9:=er (ds:=[]) h hp hx;obtain⟨us,N4⟩:=agt f9 h3;obtain⟨Z,ad,am⟩:=f9.cells ax;rw [N4]at Z ad am;have G5:(Value.agg ⟨us⟩).cells.toList=us:=rfl;rw [G5]at ad
 have q_:us.length=aJ.size:=by
  have:(Value.agg ⟨us⟩).cells.toList.length=(cellsD d).length:=by simpa using Z
  rw [G5]at this;omega
 have eX:=NZ (P:=P) r (off:=off) bB (v:=.agg ⟨us⟩) q_ ad (by omega)
 rw [G5,←q_]at eX;have lL:=oh cs off ((cellsD d).map λd=>({d}:aZ)) (by simp;omega)
 have N5:=W6 (marks s) (cellsD d) 0;have W7:=oh cs off (p7 (marks s) 0 (cellsD d)) (by rw [N5.1];omega)
 have q8:=setRow_heap w b _ (vs.take off++us++vs.drop (off+us.length)).toArray T (0,0) bB
 have agx:bR P K M β {env:=g.env,H:=(q,setAt cs off ((cellsD d).map λd=>{d}))::g.H,a1:=g.a1} tmps (w.setRow b (vs.take off++us++vs.drop (off+us.length)).toArray):=by
  refine h.bC.GP av hb bB (vs':=vs.take off++us++vs.drop (off+us.length)) (by rw [vD (by omega),lL.1,hlen]) (N0 gL ad) (λ_=>by
   rw [vD (by omega)]
   refine lg.set (λe he=>?_) (by simp;omega)
   obtain⟨c,hc,rfl⟩:=List.mem_map.1 he;exact B_ q7 c hc) lL.1 q8 (λbM dY=>setRow_other w b bM _ dY) cs.length (λi v e eU ju=>?_)
  rw [Ch (by omega)]at eU
  rw [lL.2]at ju;simp only [List.length_map]at ju;by_cases hi:off≤i∧i<off+aJ.size
  ·rw [if_pos (by omega)]at eU
   rw [if_pos (by omega),List.getElem?_map,Option.map_eq_some_iff]at ju
   obtain⟨c,hc,rfl⟩:=ju;exact⟨am _ v c (by rw [G5];exact eU) hc,by simp⟩
  ·rw [if_neg (by omega)]at eU
   rw [if_neg (by omega)]at ju
   have agr:i<cs.length:=(List.getElem?_eq_some_iff.1 ju).1;refine⟨?_,λT aT=>.inl ⟨by omega,⟨e,ju,aT⟩,eU⟩⟩
   have:=h.bC.fb (.cell q i) e (by simp [aK.at,av,ju])
   simpa [cn,hb,cell_of_heap bB,eU]using this
 have agy:=agx.ags (s:=u) (r:=q) (off:=off) (T:=s) (us:=us) (cs:=setAt cs off ((cellsD d).map λd=>{d})) (cs':=setAt cs off (p7 (marks s) 0 (cellsD d))) vG aT N4 (by simp [dN]) (λx hx=>by
  have b2:=pb x hx
  have:(vs.take off++us++vs.drop (off+us.length))[off+x.1]? = us[x.1]? := by
   rw [Ch (by omega),if_pos (by omega)];congr 1;omega
  simp only [cn,hb,cell_of_heap q8,this];simp [Array.getD_eq_getD_getElem?]) (by rw [W7.1,lL.1]) (λx hx c hc=>by
  have b2:=pb x hx;have aR:(Array.mk us).getD x.1 undef=us[x.1]'(by omega):=by simp [Array.getD_eq_getD_getElem?,List.getElem?_eq_getElem (show x.1<us.length by omega)]
  have bv:=ad (us[x.1]'(by omega)) (List.getElem_mem _)
  rw [aR]at hc;rw [hc]at bv;cases bv) (λj a7 hj=>by
  rw [W7.2,N5.1]at hj;rw [lL.2,List.length_map];by_cases hi:off≤j∧j<off+(cellsD d).length
  ·rw [if_pos hi,N5.2,Option.map_eq_some_iff]at hj;obtain⟨c,hc,rfl⟩:=hj;refine⟨{d:=c},by rw [if_pos hi,List.getElem?_map,hc];rfl,rfl,λU hN=>.inr ?_⟩
   simp only [Nat.zero_add]at hN;obtain⟨x,hx,bv,cz⟩:=W5 hN;exact⟨x,hx,by omega,cz⟩
  ·rw [if_neg hi]at hj;exact⟨a7,by rw [if_neg hi];exact hj,rfl,λU hN=>.inl hN⟩)
 refine .inr (.inl ⟨rfl,_,N1 aq N4 ao eX,M,β,Mem.le_refl _,λ_ _ h=>h,λ_ _ h=>.inl h,?_,λe he=>by cases he⟩)
 refine agy.sub rfl (λl a7 cZ=>⟨a7,?_,rfl,λ_ h=>h⟩) (λr cs' ah=>⟨cs',?_,rfl⟩)
 ·cases l with
  |slot sq=>exact cZ
  |cell cT j=>
   simp only [aK.at,after,List.cons_append,List.nil_append,dN]at cZ ⊢;by_cases oi:q=cT
   ·simpa [oi]using cZ
   ·simpa [oi]using cZ
 ·simp only [after,List.cons_append,List.nil_append,dN]at ah ⊢;by_cases oi:q=r
  ·simpa [oi]using ah
  ·simpa [oi]using ah
end
end Go.Ab

/- The abstract machine: a step of code over plain data, proved against the model. -/
import Derived.Orders
import Derived.KernelRfl
import Derived.Laws.Sem
import Derived.Laws.Entries
import Derived.ChangeKeysEq
import Derived.Laws.Cells
import Derived.Laws.CopyRow
import Derived.Laws.Slices
import Derived.Laws.Strings2
import Derived.Deep.AppendSrc
set_option linter.all false
namespace Go.Ab
abbrev aux:=List UInt8
inductive V where
 |int (k:IntKind) (n:Int)
 |bool (b:Bool)
 |str (s:aux)
 |agg (cs:List V)
 |bI (k n:Nat) (get:Nat→V)
 |iface (t:TypeId) (x:V)
 |eC |iw |aV
 |any
 |oZ (k:Nat) (get:Nat→V)
def V.cells:V→List V
 |.agg cs=>cs
 |x=>[x]
inductive D where
 |v (x:V)
 |ptr (r off:Nat)
 |cu (r off:Nat) (u:TypeId)
 |e7 (x:V)
 |full (k n:Nat) (get:Nat→V)
 |fn (f:FuncId) (ff:List D)
 |agg (cs:List D)
 |cA (cs:List D)
structure a7 where
 d:D
 own:Option TypeId:=none
structure aM where
 env:List (Nat×a7)
 H:List (Nat×List a7)
 aW:Nat
inductive mg where
 |int (k:IntKind) |bool |str
 |cb (cx:List (Nat×TypeId×Nat))
 |bI (e:TypeId) |arr (n:Nat) (e:TypeId) |ptr |a' |o0
deriving DecidableEq
structure eP where
 k:mg
 size:Nat
 bytes:Nat
 zero:List V
 jK:List (Nat×TypeId):=[]
abbrev dI:=List (TypeId×eP)
def look{α:Type}:List (Nat×α)→Nat→Option α
 |[],_=>none
 |(j,x)::l,i=>bif Nat.beq j i then some x else look l i
def del{α:Type}:List (Nat×α)→Nat→List (Nat×α)
 |[],_=>[]
 |(j,x)::l,i=>bif Nat.beq j i then del l i else(j,x)::del l i
def mg.isAgg:mg→Bool
 |.cb _ |.arr _ _=>true
 |_=>false
abbrev Path:=List (Nat×Bool)
def Path.has(p:Path)(x:Nat×Bool):Bool:=p.any λy=>Nat.beq y.1 x.1&&(y.2 == x.2)
def Path.sub(q p:Path):Bool:=q.all p.has
inductive Out where
 |ret (d:D) (own:Option TypeId)
 |bf (x:V)
inductive fv where
 |val (x:V)
 |raw
 |own
 |call (o:Out) (H:Option (List (List a7))) (os:List Nat)
def aL(i:Int)(n:Nat):Bool:=decide (0≤i)&&decide (i<n)
def ho(i:Int)(n:Nat):Bool:=decide (0≤i)&&decide (i≤n)
def lW(a b:Int)(n:Nat):Bool:=decide (0≤a)&&(decide (a≤b)&&decide (b≤n))
def tM(a:Int):Bool:=!decide (a=0)
def room(n b:Nat):Bool:=decide (n*b≤140737488355328)
def b0(n:Nat):Bool:=decide (n≤9223372036854775807)
structure dm where
 env:List (Nat×a7)
 b6:List (Nat×Path×D)
 H:List (Nat×List a7)
 aW:Nat
 rs:List fv
 a6:List Prop
 ids:List (Nat×Nat):=[]
def Nb:Value→Option V
 |.int k n=>some (.int k n)
 |.bool b=>some (.bool b)
 |.string s=>some (.str s.data.toList)
 |.pointer none=>some .eC
 |.nilIface=>some .iw
 |.nilFunc=>some .aV
 |_=>none
def rd(env:List (Nat×a7))(b6:List (Nat×Path×D))(p:Path)(tt:dI)(ty:TypeId):Operand→Option D
 |.tmp t=>match look b6 t with
  |some (q,d)=>bif q.sub p then some d else none
  |none=>(look env t).map (·.d)
 |.const (.slice none 0 0)=>match look tt ty with
  |some {k:=.bI _,zero:=[.bI k 0 get],..}=>some (.v (.bI k 0 get))
  |_=>none
 |.const v=>(Nb v).map .v
 |.func f=>some (.fn f [])
 |.global _=>none
def lX(f:TypeId→Operand→Option D):List Operand→List TypeId→Option (List D)
 |[],_=>some []
 |x::xs,t::ts=>match f t x,lX f xs ts with
  |some d,some ds=>some (d::ds)
  |_,_=>none
 |_::_,[]=>none
def Cb:List D→Option (List V)
 |[]=>some []
 |.v x::l=>(Cb l).map (x :: ·)
 |_::_=>none
def qX(cs:List D):D:=match Cb cs with|some vs=>.v (.agg vs)|none=>.agg cs
def cellsD:D→List D
 |.v x=>x.cells.map .v
 |.agg cs=>cs
 |d=>[d]
def tN:List D→Bool
 |[]=>true
 |.cu _ _ _::_=>false
 |_::l=>tN l
def sm:D→Bool
 |.cA _=>true
 |_=>false
def setAt{α:Type}:List α→Nat→List α→List α
 |cs,0,[]=>cs
 |_::cs,0,x::xs=>x::setAt cs 0 xs
 |c::cs,n+1,xs=>c::setAt cs n xs
 |[],_,_=>[]
def sn(place:Nat→Option (Nat×Nat))(cells:List D):List (Nat×D)→Option (List D)
 |[]=>some cells
 |(i,d)::rest=>match place i with
  |none=>none
  |some (off,size)=>
   bif Nat.beq (cellsD d).length size&&Nat.ble (off+size) cells.length && !sm d then sn place (setAt cells off (cellsD d)) rest else none
abbrev Mem:=Nat→Nat→Option Value
def Mem.le(M M':Mem):Prop:=∀b o v,M b o=some v→M' b o=some v
def Mem.le_refl(M:Mem):M.le M:=λ_ _ _ h=>h
def Mem.le_trans{A B C:Mem}(h:A.le B)(cO:B.le C):A.le C:=λb o v e=>cO b o v (h b o v e)
inductive df(M:Mem):Value→V→Prop where
 |int (k:IntKind) (n:Int):df M (.int k n) (.int k n)
 |bool (b:Bool):df M (.bool b) (.bool b)
 |str (l:aux):df M (.string ⟨⟨l⟩⟩) (.str l)
 |agg (vs:List Value) (cs:List V) (hn:vs.length=cs.length) (Z:∀v,v∈vs→v.oneCell'=true)
  (h:∀(i:Nat) v c,vs[i]? = some v→cs[i]? = some c→df M v c):df M (.agg ⟨vs⟩) (.agg cs)
 |mh (k:Nat) (get:Nat→V):df M (.slice none 0 0) (.bI k 0 get)
 |pS (a:Addr) (k:Nat) (get:Nat→V):df M (.slice (some a) 0 0) (.bI k 0 get)
 |bI (b off k n cap:Nat) (get:Nat→V) (val:Nat→Nat→Value) (hc:n≤cap)
  (hk:∀i,i<n→(get i).cells.length=k)
  (cV:∀i j,i<n→j<k→M b (off+i*k+j)=some (val i j)) (Z:∀i j,i<n→j<k→(val i j).oneCell'=true)
  (h:∀(i j:Nat) c,i<n→(get i).cells[j]? = some c→df M (val i j) c):df M (.slice (some ⟨b,off,none⟩) n cap) (.bI k n get)
 |iface (t:TypeId) (v:Value) (x:V) (h:df M v x):df M (.iface t v) (.iface t x)
 |eC:df M (.pointer none) .eC
 |iw:df M .nilIface .iw
 |aV:df M .nilFunc .aV
 |any (v:Value) (Z:v.oneCell'=true):df M v .any
 |oZ (k:Nat) (get:Nat→V):df M (.slice none 0 0) (.oZ k get)
def hD(raw x:V):Prop:=∀(M:Mem) (v:Value),df M v raw→df M v x
def pT(k:IntKind)(a b:Int):Int:=k.wrap (BitVec.ofInt k.bits a &&& BitVec.ofInt k.bits b).toNat
def qY(k:IntKind)(a b:Int):Int:=k.wrap (BitVec.ofInt k.bits a |||BitVec.ofInt k.bits b).toNat
def mU(k:IntKind)(a b:Int):Int:=k.wrap (BitVec.ofInt k.bits a ^^^ BitVec.ofInt k.bits b).toNat
def Nc(k:IntKind)(a b:Int):Int:=k.wrap (BitVec.ofInt k.bits a &&& ~~~BitVec.ofInt k.bits b).toNat
def o1(k:IntKind)(x y:Int):Int:=k.wrap (x*2 ^ min y.toNat k.bits)
def nq(k:IntKind)(x y:Int):Int:=x.fdiv (2 ^ min y.toNat k.bits)
def od(y:Int):Bool:=decide (0≤y)
def Nd(op:BinOp)(k:IntKind)(x y:Int):Option (V×List Prop):=
 match op with
 |.shl=>some (.int k (o1 k x y),[od y=true])
 |.shr=>some (.int k (nq k x y),[od y=true])
 |_=>none
def Nf(op:BinOp)(k:IntKind)(a b:Int):Option (V×List Prop):=
 match op with
 |.add=>some (.int k (k.wrap (a+b)),[])
 |.sub=>some (.int k (k.wrap (a-b)),[])
 |.mul=>some (.int k (k.wrap (a*b)),[])
 |.quo=>some (.int k (k.wrap (a.tdiv b)),[tM b=true])
 |.rem=>some (.int k (a.tmod b),[tM b=true])
 |.eql=>some (.bool (decide (a=b)),[])
 |.neq=>some (.bool (!decide (a=b)),[])
 |.lss=>some (.bool (decide (a<b)),[])
 |.leq=>some (.bool (decide (a≤b)),[])
 |.gtr=>some (.bool (decide (b<a)),[])
 |.geq=>some (.bool (decide (b≤a)),[])
 |.and=>some (.int k (pT k a b),[])
 |.or=>some (.int k (qY k a b),[])
 |.xor=>some (.int k (mU k a b),[])
 |.andNot=>some (.int k (Nc k a b),[])
 |_=>none
def Ng(op:BinOp)(a b:aux):Option (V×List Prop):=
 match op with
 |.add=>some (.str (a++b),[b0 (a.length+b.length)=true])
 |.eql=>some (.bool (decide (a=b)),[])
 |.neq=>some (.bool (!decide (a=b)),[])
 |.lss=>some (.bool (Op.bytesLess a b),[])
 |.leq=>some (.bool (Op.bytesLess a b||decide (a=b)),[])
 |.gtr=>some (.bool (!(Op.bytesLess a b||decide (a=b))),[])
 |.geq=>some (.bool (!Op.bytesLess a b),[])
 |_=>none
def isNil:mg→D→Option Bool
 |.ptr,.v .eC=>some true
 |.ptr,.ptr _ _=>some false
 |.ptr,.e7 _=>some false
 |.o0,.v .iw=>some true
 |.o0,.v (.iface _ _)=>some false
 |.a',.v .aV=>some true
 |.a',.fn _ _=>some false
 |_,_=>none
def Gx:mg→D→Bool
 |.ptr,.v .eC=>true
 |.o0,.v .iw=>true
 |.a',.v .aV=>true
 |_,_=>false
def jh:List (Option mg)→List V→List V→Option Bool
 |[],[],[]=>some true
 |some (.int _)::ks,.int k a::l,.int k' b::m=>bif decide (k=k') then(jh ks l m).map λr=>decide (a=b)&&r else none
 |some .str::ks,.str a::l,.str b::m=>(jh ks l m).map λr=>decide (a=b)&&r
 |some .bool::ks,.bool a::l,.bool b::m=>(jh ks l m).map λr=>(a == b)&&r
 |_,_,_=>none
def mV(tt:dI):Nat→List (Nat×TypeId×Nat)→List (Option mg)
 | 0,cx=>cx.map λf=>(look tt f.2.1).map (·.k)
 |d+1,cx=>cx.flatMap λf=>match look tt f.2.1 with
  |some {k:=.cb gs,..}=>mV tt d gs
  |o=>[o.map (·.k)]
def Vw(k:Option mg)(aeu:Bool)(op:BinOp)(a b:D):Option (V×List Prop):=
 match a,b with
 |.v (.int k x),.v (.int k' y)=>match Nd op k x y with
  |some z=>some z
  |none=>bif decide (k=k')then Nf op k x y else none
 |.v (.str x),.v (.str y)=>Ng op x y
 |.v (.bool x),.v (.bool y)=>match k,op with
  |some .bool,.eql=>some (.bool (x == y),[])
  |some .bool,.neq=>some (.bool (!(x == y)),[])
  |_,_=>none
 |a,b=>match k with
  |some k=>bif Gx k b&&aeu then match isNil k a,op with
   |some t,.eql=>some (.bool t,[])
   |some t,.neq=>some (.bool (!t),[])
   |_,_=>none
   else none
  |none=>none
def isConst:Operand→Bool
 |.const _=>true
 |_=>false
def Vx(op:UnOp)(a:V):Option V:=
 match op,a with
 |.not,.bool b=>some (.bool (!b))
 |.neg,.int k n=>some (.int k (k.wrap (0-n)))
 |_,_=>none
def Cc(env:List (Nat×a7))(b6:List (Nat×Path×D))(t:Nat):Option Bool:=
 match look b6 t with
 |some (_,.v (.bool b))=>some b
 |some _=>none
 |none=>match look env t with
  |some ⟨.v (.bool b),_⟩=>some b
  |_=>none
def under(g:dm):Path→Prop→Prop
 |[],q=>q
 |(t,w)::p,q=>match Cc g.env g.b6 t with
  |some b=>b=w→under g p q
  |none=>under g p q
structure lp where
 e:Option a7
 hM:List Nat:=[]
 hs:List (Nat×List a7):=[]
 eS:Nat:=0
 rs:List fv
 a6:List Prop:=[]
def pU(g:dm):Operand→Option TypeId
 |.tmp t=>(look g.env t).bind (·.own)
 |_=>none
def aev(t:Nat)(o:Oper):Bool:=
 match o.op with
 |.assign (.tmp u)=>Nat.beq u t
 |.store _ _ (.tmp u)=>Nat.beq u t
 |.call {callee:=.builtin .append,args,..}=>match args.toList with
  |.tmp u::_=>Nat.beq u t
  |_=>false
 |_=>false
def aew(ops:List Oper)(dst:Option Nat):Bool:=
 match dst with
 |some t=>ops.any (aev t)
 |none=>false
def refs:D→List Nat
 |.ptr r _=>[r]
 |.cu r _ _=>[r]
 |.fn _ ff=>ff.flatMap fun |.ptr r _=>[r] |_=>[]
 |.agg cs=>cs.flatMap fun |.ptr r _=>[r] |.cu r _ _=>[r] |.fn _ ff=>(ff.flatMap fun |.ptr r _=>[r] |_=>[]) |_=>[]
 |_=>[]
def idx(l:List Nat)(r:Nat):Option Nat:=
 match l with
 |[]=>none
 |x::l=>bif Nat.beq x r then some 0 else(idx l r).map (· + 1)
def dedup:List Nat→List Nat
 |[]=>[]
 |x::l=>bif (dedup l).any (Nat.beq x)then dedup l else x::dedup l
mutual
def eD(f:Nat→Option Nat):D→Option D
 |.v x=>some (.v x)
 |.ptr r off=>(f r).map (.ptr · off)
 |.cu r off u=>(f r).map (.cu · off u)
 |.e7 x=>some (.e7 x)
 |.full k n get=>some (.full k n get)
 |.fn g ff=>(lq f ff).map (.fn g)
 |.agg cs=>(lq f cs).map .agg
 |.cA cs=>(lq f cs).map .cA
def lq(f:Nat→Option Nat):List D→Option (List D)
 |[]=>some []
 |d::l=>match eD f d,lq f l with
  |some dD,some cI=>some (dD::cI)
  |_,_=>none
end
def Gy(f:Nat→Option Nat)(e:a7):Option a7:=(eD f e.d).map λd=>{d,own:=e.own}
def nr(f:Nat→Option Nat):List a7→Option (List a7)
 |[]=>some []
 |e::l=>match Gy f e,nr f l with
  |some bg,some cI=>some (bg::cI)
  |_,_=>none
def kb(f:Nat→Option Nat):List (List a7)→Option (List (List a7))
 |[]=>some []
 |b::l=>match nr f b,kb f l with
  |some bH,some cI=>some (bH::cI)
  |_,_=>none
def boxes(H:List (Nat×List a7)):List Nat→Option (List (List a7))
 |[]=>some []
 |r::l=>match look H r,boxes H l with
  |some b,some bs=>some (b::bs)
  |_,_=>none
def cS{α:Type}:Nat→List α→List (Nat×α)
 |_,[]=>[]
 |n,x::l=>(n,x)::cS (n+1) l
def lr:List Nat→List (List a7)→List (Nat×List a7)
 |r::l,b::bs=>(r,b)::lr l bs
 |_,_=>[]
def mapM'{α β:Type}(f:α→Option β):List α→Option (List β)
 |[]=>some []
 |x::l=>match f x,mapM' f l with
  |some y,some ys=>some (y::ys)
  |_,_=>none
structure gE where
 call:FuncId→List D→List (Nat×TypeId)→List (List a7)→Out→List (List a7)→Prop
 eq:TypeId→Bool
inductive oe where
 |go (e:lp)
 |bf (x:V) (hs:List (Nat×List a7)) (a6:List Prop)
def o2(H:List (Nat×List a7)):Nat→List Nat→List Nat
 | 0,l=>l
 |n+1,l=>o2 H n (dedup (l++l.flatMap λr=>((look H r).getD []).flatMap λe=>refs e.d))
def ns:List Nat→Bool
 |[]=>true
 |x::l=>!l.any (Nat.beq x)&&ns l
def handed(tt:dI)(g:dm)(xs:List Operand)(ts:List TypeId):List Nat→Option (List (Nat×Option Nat×TypeId))
 |[]=>some []
 |i::os=>match xs[i]?,handed tt g xs ts os with
  |some (.tmp t),some l=>match look g.env t with
   |some ⟨_,some e⟩=>bif (look g.b6 t).isNone&&l.all (λx=>!(match x.2.1 with |some u=>Nat.beq u t |none=>false) && !Nat.beq x.1 i)then some ((i,some t,e)::l)else none
   |_=>none
  |some (.const (.slice none 0 0)),some l=>match(ts[i]?).bind (look tt) with
   |some {k:=.bI e,..}=>bif l.all (λx=>!Nat.beq x.1 i)then some ((i,none,e)::l)else none
   |_=>none
  |_,_=>none
def yi(cf:gE)(tt:dI)(g:dm)(p:Path)(xs:List Operand)(ts:List TypeId)(f:FuncId)(args:List D):Option oe:=
 let ρ:=o2 g.H 2 (dedup (args.flatMap refs))
 match g.rs with
 |.call out cL os::rs=>
  match lq (idx ρ) args,(boxes g.H ρ).bind (kb (idx ρ)),handed tt g xs ts os with
  |some jL,some H1,some hd=>bif !ns ρ || !(p.isEmpty||os.isEmpty)then none else
   let er:=hd.map λx=>(x.1,x.2.2)
   let hM:=hd.filterMap λx=>x.2.1
   match out,cL with
   |.ret d own,none=>(eD (λj=>ρ[j]?) d).map λdD=>.go {e:=some {d:=dD,own},hM,rs,a6:=[cf.call f jL er H1 out H1]}
   |.ret d own,some cL=>match eD (λj=>ρ[j]?) d,kb (λj=>ρ[j]?) cL with
    |some dD,some iS=>bif Nat.beq cL.length ρ.length then some (.go {e:=some {d:=dD,own},hM,hs:=lr ρ iS,rs,a6:=[cf.call f jL er H1 out cL]})else none
    |_,_=>none
   |.bf x,none=>some (.bf x [] [cf.call f jL er H1 out H1])
   |.bf x,some cL=>match kb (λj=>ρ[j]?) cL with
    |some iS=>bif Nat.beq cL.length ρ.length then some (.bf x (lr ρ iS) [cf.call f jL er H1 out cL])else none
    |none=>none
  |_,_,_=>none
 |_=>none
def Gz:V→Option TypeId→Option TypeId
 |.bI _ _ _,t=>t
 |_,_=>none
def Vy(tt:dI):Nat→List (Nat×TypeId×Nat)→Nat→Option TypeId
 | 0,_,_=>none
 |d+1,cx,j=>match cx.find? λf=>Nat.ble f.1 j&&Nat.blt j (f.1+f.2.2) with
  |some f=>match look tt f.2.1 with
   |some {k:=.bI e,..}=>some e
   |some {k:=.cb gs,..}=>Vy tt d gs (j-f.1)
   |_=>none
  |none=>none
def Nh(tt:dI):mg→Nat→Option TypeId
 |.cb cx,j=>Vy tt 5 cx j
 |.bI e,0=>some e
 |_,_=>none
def Vz(tt:dI)(jK:List (Nat×TypeId))(k:mg)(i:Nat):Option TypeId:=
 match Nh tt k i with
 |some e=>some e
 |none=>(jK.find? λy=>Nat.beq (y.1+1) i).bind λy=>match look tt y.2 with |some {k,..}=>Nh tt k 1 |none=>none
def Cd(jK:List (Nat×TypeId))(id i:Nat)(x:V):D:=
 match x with
 |.eC=>match jK.find? λy=>Nat.beq y.1 i with
  |some y=>.cu id i y.2
  |none=>.v x
 |_=>.v x
def GA(tt:dI)(t:TypeId)(id:Nat):Option (List a7):=
 match look tt t with
 |some {k:=.bI e,zero,..}=>some (zero.map λx=>{d:=.v x,own:=Gz x (some e)})
 |some {k:=.cb cx,zero,jK,..}=>some ((cS 0 zero).map fun(i,x)=>
  {d:=Cd jK id i x,own:=Gz x (Vz tt jK (.cb cx) i)})
 |some {zero,..}=>some (zero.map λx=>{d:=.v x})
 |none=>none
def V.isAgg:V→Bool
 |.agg _=>true
 |_=>false
def Ni:V→V
 |.bI k 0 g=>.oZ k g
 |x=>x
def qZ(ty:Nat→Option TypeId):Nat→List a7→List a7
 |_,[]=>[]
 |i,e::l=>(match e.d with
  |.v (.oZ k g)=>{d:=.v (.bI k 0 g),own:=ty i}
  |_=>e)::qZ ty (i+1) l
def elems(isAgg:Bool)(size:Nat):Nat→List (Nat×D)→Option (List V)
 |_,[]=>some []
 |i,(j,.v x)::b8=>bif Nat.beq i j&&Nat.beq x.cells.length size&&(x.isAgg == isAgg) then(elems isAgg size (i+1) b8).map (x :: ·)else none
 |_,_=>none
def so(tt:dI)(t:TypeId)(i:Nat):TypeId:=
 match look tt t with
 |some {k:=.cb cx,..}=>match cx[i]? with
  |some f=>f.2.1
  |none=>0
 |some {k:=.arr _ e,..}=>e
 |some {k:=.bI e,..}=>e
 |_=>0
def yj(tt:dI)(aS:eP)(id i:Nat)(d:D):a7:=
 match d with
 |.v .eC=>{d:=Cd aS.jK id i .eC}
 |.v (.oZ k g)=>match Vz tt aS.jK aS.k i with
  |some T=>{d:=.v (.bI k 0 g),own:=some T}
  |none=>{d}
 |d=>{d}
def q0(tt:dI)(aS:eP)(id:Nat):Nat→List D→List a7
 |_,[]=>[]
 |i,d::l=>yj tt aS id i d::q0 tt aS id (i+1) l
def og(g:dm)(o:Oper):Option (Nat×Nat):=
 match o.dst.bind (look g.ids) with
 |some id=>bif (look g.H id).isNone&&Nat.blt id g.aW then some (id,0)else none
 |none=>some (g.aW,1)
def step1(cf:gE)(tt:dI)(ops:List Oper)(g:dm)(p:Path)(o:Oper):Option oe:=
 let r:=rd g.env g.b6 p tt o.type
 let val (d:Option D):Option oe:=d.map λd=>.go {e:=some {d},rs:=g.rs}
 let Ce (x:Option (V×List Prop)):Option oe:=x.map fun(x,a6)=>.go {e:=some {d:=.v x},rs:=g.rs,a6}
 let GB (raw:V) (mk:V→D) (a6:List Prop):Option oe:=match g.rs with
  |.val x::rs=>some (.go {e:=some {d:=mk x},rs,a6:=hD raw x::a6})
  |.raw::rs=>some (.go {e:=some {d:=mk raw},rs,a6:=a6})
  |_=>none
 match o.op with
 |.move x=>match r x with
  |some d=>match pU g x,x with
   |some e,.tmp t=>match g.rs with
    |.own::rs=>bif p.isEmpty then some (.go {e:=some {d,own:=some e},hM:=[t],rs})else none
    |_=>bif p.isEmpty&&aew ops o.dst then some (.go {e:=some {d,own:=some e},hM:=[t],rs:=g.rs})else some (.go {e:=some {d},rs:=g.rs})
   |_,_=>some (.go {e:=some {d},rs:=g.rs})
  |none=>none
 |.assign x=>match r x with
  |some d=>match pU g x,x with
   |some e,.tmp t=>bif p.isEmpty then some (.go {e:=some {d,own:=some e},hM:=[t],rs:=g.rs})else some (.go {e:=some {d},rs:=g.rs})
   |_,.const (.slice none 0 0)=>match look tt o.type with
    |some {k:=.bI e,..}=>bif p.isEmpty then some (.go {e:=some {d,own:=some e},rs:=g.rs})else some (.go {e:=some {d},rs:=g.rs})
    |_=>none
   |_,_=>some (.go {e:=some {d},rs:=g.rs})
  |none=>none
 |.pick (.tmp c) a b=>match r (.tmp c),rd g.env g.b6 ((c,true)::p) tt o.type a,rd g.env g.b6 ((c,false)::p) tt o.type b with
  |some (.v (.bool tO)),some (.v (.bool Cf)),some (.v (.bool vz))=>val (some (.v (.bool (bif tO then Cf else vz))))
  |_,_,_=>none
 |.alloc t=>match og g o with
  |some (id,eS)=>match GA tt t id with
   |some z=>some (.go {e:=some {d:=.ptr id 0},hs:=[(id,z)],eS,rs:=g.rs})
   |none=>none
  |none=>none
 |.box t x=>match r x,og g o,look tt t with
  |some d,some (id,eS),some aS=>bif sm d || !tN (cellsD d) || !Nat.beq (cellsD d).length aS.size then none else some (.go {e:=some {d:=.ptr id 0},hs:=[(id,q0 tt aS id 0 (cellsD d))],eS,rs:=g.rs})
  |_,_,_=>none
 |.build t parts=>match look tt t,mapM' (fun(i,x)=>(rd g.env g.b6 p tt (so tt t i) x).map λd=>(i,d)) parts.toList with
  |some {k:=.cb cx,zero,..},some b8=>bif cx.all (λf=>Nat.ble 1 f.2.2)then match g.rs with
   |.own::rs=>((sn (λi=>(cx[i]?).map λf=>(f.1,f.2.2)) (zero.map λx=>.v (Ni x)) b8).map qX).map λd=>.go {e:=some {d},rs}
   |_=>val ((sn (λi=>(cx[i]?).map λf=>(f.1,f.2.2)) (zero.map .v) b8).map qX)
   else none
  |some {k:=.arr _ e,zero,..},some b8=>match look tt e with
   |some {size,..}=>val ((sn (λi=>some (i*size,size)) (zero.map .v) b8).map qX)
   |none=>none
  |_,_=>none
 |.buildSlice t len parts=>match look tt t,mapM' (fun(i,x)=>(rd g.env g.b6 p tt (so tt t i) x).map λd=>(i,d)) parts.toList with
  |some {k:=.bI e,..},some b8=>match look tt e with
   |some {k,size,..}=>
    match elems k.isAgg size 0 b8,g.rs with
    |some xs,.val x::rs=>bif Nat.ble (len*size) 16777216&&Nat.ble 1 size&&Nat.beq xs.length len then some (.go {e:=some {d:=.v x,own:=some e},rs,a6:=[hD (.bI size len λi=>xs.getD i .eC) x]})else none
    |_,_=>none
   |none=>none
  |_,_=>none
 |.load t a=>match r a,look tt t with
  |some (
   .ptr q off),some aS=>match look g.H q with
   |some cs=>bif aS.k.isAgg then
    bif Nat.ble (off+aS.size) cs.length then val (some (qX (((cs.drop off).take aS.size).map (·.d))))else none
    else match cs[off]? with
     |some e=>match e.own,g.rs with
      |some _,.own::rs=>bif p.isEmpty then some (.go {e:=some e,hs:=[(q,setAt cs off [{d:=e.d}])],rs})else none
      |_,_=>val (some e.d)
     |none=>none
   |none=>none
  |some (.e7 x),some aS=>bif x.isAgg == aS.k.isAgg&&Nat.beq x.cells.length aS.size then val (some (.v x))else none
  |_,_=>none
 |.store t a x=>match r a,rd g.env g.b6 p tt t x,look tt t with
  |some (
   .ptr q off),some d,some aS=>match look g.H q with
   |some cs=>bif Nat.beq (cellsD d).length aS.size&&Nat.ble (off+aS.size) cs.length&&p.isEmpty && !sm d&&tN (cellsD d) then
    match x,pU g x,d with
    |.tmp u,some s,.v (.bI ..)=>some (.go {e:=none,hM:=[u],hs:=[(q,setAt cs off [{d,own:=some s}])],rs:=g.rs})
    |.const (.slice none 0 0),_,_=>match aS.k with
     |.bI s=>some (.go {e:=none,hs:=[(q,setAt cs off [{d,own:=some s}])],rs:=g.rs})
     |_=>none
    |_,_,_=>some (.go {e:=none,hs:=[(q,qZ (λi=>Nh tt aS.k (i-off)) 0 (setAt cs off ((cellsD d).map λd=>{d})))],rs:=g.rs})
    else none
   |none=>none
  |_,_,_=>none
 |.nilCheck x=>match r x with
  |some (.ptr q off)=>val (some (.ptr q off))
  |some (.e7 x)=>val (some (.e7 x))
  |_=>none
 |.binOp op t x y _=>match r x,r y with
  |some (.v (.agg xs)),some (.v (.agg ys))=>match look tt t with
   |some {k:=.cb cx,..}=>bif cf.eq t then match op,jh (mV tt 4 cx) xs ys with
    |.eql,some r=>val (some (.v (.bool r)))
    |.neq,some r=>val (some (.v (.bool (!r))))
    |_,_=>none
    else none
   |_=>none
  |some a,some b=>Ce (Vw ((look tt t).map (·.k)) (isConst y) op a b)
  |_,_=>none
 |.unOp op _ x=>match r x with
  |some (.v a)=>val ((Vx op a).map .v)
  |_=>none
 |.convert s t x=>match look tt s,look tt t,r x with
  |some {k:=.int _,..},some {k:=.int k,..},some (.v (.int _ n))=>val (some (.v (.int k (k.wrap n))))
  |some {k:=.str,..},some {k:=.str,..},some (.v (.str s))=>val (some (.v (.str s)))
  |some {k:=.bI e,..},some {k:=.str,..},some (.v (.bI 1 n get))=>match look tt e,g.rs with
   |some {k:=.int .u8,..},.val (.str l)::rs=>some (.go {e:=some {d:=.v (.str l)},rs,a6:=[l.length=n∧∀i,i<n→get i = .int .u8 ((l.getD i 0).toNat:Int)]})
   |_,_=>none
  |_,_,_=>none
 |.makeInterface t x=>match r x,look tt t with
  |some (.v x),some {k,..}=>match k with
   |.o0=>none
   |_=>val (some (.v (.iface t x)))
  |_,_=>none
 |.makeFunc (.func f) first ff=>bif first.isEmpty then(mapM' r ff.toList).map λds=>.go {e:=some {d:=.fn f ds},rs:=g.rs}else none
 |.slice t x lo hi kc=>match kc,look tt t with
  |none,some {k:=.str,..}=>match r x,lo.map r,hi.map r with
   |some (.v (.str s)),none,none=>val (some (.v (.str s)))
   |some (.v (.str s)),some (some (.v (.int _ a))),none=>Ce (some (.str (s.drop a.toNat),[ho a s.length=true]))
   |some (.v (.str s)),none,some (some (.v (.int _ b)))=>Ce (some (.str (s.take b.toNat),[ho b s.length=true]))
   |some (.v (.str s)),some (some (.v (.int _ a))),some (some (.v (.int _ b)))=>Ce (some (.str ((s.take b.toNat).drop a.toNat),[lW a b s.length=true]))
   |_,_,_=>none
  |none,some {k:=.bI e,..}=>match look tt e,r x,lo.map r,hi.map r with
   |some {size,..},some (.v (.bI k n get)),some (some (.v (.int _ a))),none=>bif Nat.beq k size then GB (.bI k (n-a.toNat) λi=>get (a.toNat+i)) .v [ho a n=true]else none
   |some {size,..},some (.v (.bI k n get)),none,some (some (.v (.int _ b)))=>bif Nat.beq k size then GB (.bI k b.toNat get) .v [ho b n=true]else none
   |some {size,..},some (.v (.bI k n get)),some (some (.v (.int _ a))),some (some (.v (.int _ b)))=>bif Nat.beq k size then GB (.bI k (b.toNat-a.toNat) λi=>get (a.toNat+i)) .v [lW a b n=true]else none
   |some {size,..},some (.v (.bI k n get)),none,none=>bif Nat.beq k size then val (some (.v (.bI k n get)))else none
   |_,_,_,_=>none
  |some _,some {k:=.bI e,..}=>match look tt e,r x,lo,hi.map r,kc.map r with
   |some {size,..},some (.v (.bI k n get)),none,some (some (.v (.int _ b))),some (some (.v (.int _ c)))=>bif Nat.beq k size then some (.go {e:=some {d:=.full k b.toNat get},rs:=g.rs,a6:=[b=c,ho b n=true]})else none
   |_,_,_,_,_=>none
  |_,_=>none
 |.fieldAddr s x f=>match r x,look tt s with
  |some (.ptr q off),some {k:=.cb cx,..}=>match cx[f]? with
   |some (dM,_,fW)=>bif Nat.ble 1 fW then val (some (.ptr q (off+dM)))else none
   |none=>none
  |some (
   .e7 (.agg cs)),some {k:=.cb cx,..}=>match cx[f]? with
   |some (
    dM,h8,fW)=>match look tt h8 with
    |some aS=>bif Nat.ble 1 fW&&Nat.ble (dM+fW) cs.length then
     bif aS.k.isAgg then val (some (.e7 (.agg ((cs.drop dM).take fW))))else bif Nat.beq fW 1 then match cs[dM]? with
      |some c=>bif c.isAgg then none else val (some (.e7 c))
      |none=>none
     else none
     else none
    |none=>none
   |none=>none
  |_,_=>none
 |.field s x f=>match r x,look tt s with
  |some (
   .v (.agg cs)),some {k:=.cb cx,..}=>match cx[f]? with
   |some (dM,h8,fW)=>match look tt h8 with
    |some aS=>bif Nat.ble (dM+fW) cs.length then bif aS.k.isAgg then val (some (.v (.agg ((cs.drop dM).take fW))))else match cs[dM]? with
     |some c=>val (some (.v c))
     |none=>none
     else none
    |none=>none
   |none=>none
  |some (.agg cs),some {k:=.cb cx,..}=>match cx[f]? with
   |some (dM,h8,fW)=>match look tt h8,cs[dM]? with
    |some aS,some c=>bif aS.k.isAgg || !Nat.beq fW 1||sm c then none else val (some c)
    |_,_=>none
   |none=>none
  |_,_=>none
 |.indexAddr t x i=>match r x,r i,look tt t with
  |some (.v (.bI k n get)),some (.v (.int _ j)),some {k:=.bI e,..}=>match look tt e with
   |some {size,..}=>bif Nat.beq k size&&Nat.ble 1 size then GB (get j.toNat) .e7 [aL j n=true]else none
   |none=>none
  |_,_,_=>none
 |.index t x i=>match r x,r i,look tt t with
  |some (.v (.str s)),some (.v (.int _ j)),some {k:=.str,..}=>Ce (some (.int .u8 (s.getD j.toNat 0).toNat,[aL j s.length=true]))
  |_,_,_=>none
 |.typeAssert x _ t ok=>match r x,look tt t with
  |some (.v (.iface bS y)),some {k,..}=>match k with
   |.o0=>none
   |_=>bif Nat.beq bS t then val (some (bif ok then .cA [.v y,.v (.bool true)]else .v y))else none
  |_,_=>none
 |.extract x i=>match r x with
  |some (.cA ds)=>val ds[i]?
  |_=>none
 |.call c=>match c.callee with
  |.value x=>match r x,lX (rd g.env g.b6 p tt) c.args.toList c.argTypes.toList with
   |some (.fn f ff),some ds=>yi cf tt g p c.args.toList c.argTypes.toList f (ds++ff)
   |_,_=>none
  |.builtin .len=>match mapM' (λy=>r y) c.args.toList,(c.argTypes.toList[0]?).bind (look tt) with
   |some [.v (.str s)],some {k:=.str,..}=>val (some (.v (.int .i64 s.length)))
   |some [.v (.bI _ n _)],some {k:=.bI _,..}=>val (some (.v (.int .i64 n)))
   |_,_=>none
  |.builtin .append=>match c.args.toList,(c.argTypes.toList[0]?).bind (look tt),(c.argTypes.toList[1]?).bind (look tt) with
   |[.tmp t,x],some {k:=.bI e,..},some t2=>match look tt e,r (.tmp t),r x,look g.env t,g.rs with
    |some ci,some (.v (.bI k n get)),some d2,some ⟨_,some bg⟩,.val y::rs=>
     bif Nat.beq e bg&&Nat.beq k ci.size&&Nat.ble 1 ci.size&&Nat.ble 1 ci.bytes&&p.isEmpty then
      match d2,t2.k with
      |.v (.bI al m mi),.bI _=>bif Nat.beq al k then
       some (.go {e:=some {d:=.v y,own:=some e},hM:=[t],rs,a6:=[hD (.bI k (n+m) λi=>bif Nat.blt i n then get i else mi (i-n)) y,room (n+m) ci.bytes=true]})
       else none
      |.v (.str s),.str=>bif Nat.beq k 1 then
       some (.go {e:=some {d:=.v y,own:=some e},hM:=[t],rs,a6:=[hD (.bI k (n+s.length) λi=>bif Nat.blt i n then get i else .int .u8 (s.getD (i-n) 0).toNat) y,room (n+s.length) ci.bytes=true]})
       else none
      |_,_=>none
     else none
    |some ci,some (.full k n get),some d2,_,.val y::rs=>
     bif Nat.beq k ci.size&&Nat.ble 1 ci.size&&Nat.ble 1 ci.bytes&&p.isEmpty then
      match d2,t2.k with
      |.v (.bI al m mi),.bI _=>bif Nat.beq al k&&Nat.ble 1 m then
       some (.go {e:=some {d:=.v y,own:=some e},hM:=[t],rs,a6:=[hD (.bI k (n+m) λi=>bif Nat.blt i n then get i else mi (i-n)) y,room (n+m) ci.bytes=true]})
       else none
      |_,_=>none
     else none
    |_,_,_,_,_=>none
   |_,_,_=>none
  |.builtin .min=>match mapM' (λy=>r y) c.args.toList with
   |some [.v (.int k a),.v (.int al b)]=>bif decide (k=al)then val (some (.v (.int k (bif decide (b<a)then b else a))))else none
   |_=>none
  |.builtin .max=>match mapM' (λy=>r y) c.args.toList with
   |some [.v (.int k a),.v (.int al b)]=>bif decide (k=al)then val (some (.v (.int k (bif decide (a<b)then b else a))))else none
   |_=>none
  |_=>none
 |.panic x=>match r x with
  |some (.v (.iface t y))=>some (.bf (.iface t y) [] [])
  |_=>none
 |_=>none
def hE:List Nat→List (Nat×a7)→List (Nat×a7)
 |[],env=>env
 |t::l,env=>match look env t with
  |some e=>(t,{e with own:=none})::hE l env
  |none=>hE l env
inductive Cg where
 |go (g:dm)
 |bf (x:V) (st:aM) (a6:List Prop)
def pV:List (Nat×a7)→List (Nat×a7)
 |[]=>[]
 |(t,e)::l=>(t,{d:=e.d})::pV l
def pW(ops:List Oper)(g:dm)(o:Oper):Option Path:=
 match o.guard with
 |none=>some []
 |some (j,w)=>match(ops[j]?).bind (·.dst) with
  |some t=>match look g.b6 t with
   |some (q,.v (.bool _))=>some (q++[(t,w)])
   |some _=>none
   |none=>match look g.env t with
    |some ⟨.v (.bool _),_⟩=>some [(t,w)]
    |_=>none
  |none=>none
def yk(b6:List (Nat×Path×D))(t:Nat):Bool:=b6.all λx=>Nat.beq x.1 t||x.2.1.all λy=>!Nat.beq y.1 t
def oh(
 cf:gE) (tt:dI) (N:Nat) (ops:List Oper) (g:dm) (o:Oper):Option Cg:=
 match pW ops g o with
 |none=>none
 |some p=>
  match step1 cf tt ops g p o with
  |none=>none
  |some (.bf x hs a6)=>bif p.isEmpty then some (.bf x {env:=pV g.env,H:=hs++g.H,aW:=g.aW} (a6++g.a6))else none
  |some (
   .go f)=>
   let e4:dm:={g with rs:=f.rs,a6:=f.a6.map (under g p)++g.a6}
   match o.dst with
   |none=>bif p.isEmpty then some (.go {e4 with env:=hE f.hM g.env,H:=f.hs++g.H,aW:=g.aW+f.eS})else none
   |some t=>bif Nat.blt t N&&yk g.b6 t then
    match p with
    |[]=>some (.go {e4 with
     env:=match f.e with|some e=>(t,e)::hE f.hM g.env|none=>del (hE f.hM g.env) t
     b6:=del g.b6 t,H:=f.hs++g.H,aW:=g.aW+f.eS})
    |_::_=>match f.e,f.hs,f.hM with
     |some e,[],[]=>bif p.all (λy=>!Nat.beq y.1 t)&&Nat.beq f.eS 0 then some (.go {e4 with env:=del g.env t,b6:=(t,p,e.d)::del g.b6 t})else none
     |_,_,_=>none
    else none
def tP(cf:gE)(tt:dI)(N:Nat)(ops:List Oper):List Oper→dm→Option Cg
 |[],g=>some (.go g)
 |o::l,g=>match oh cf tt N ops g o with
  |some (.go e4)=>tP cf tt N ops l e4
  |x=>x
mutual
def below(n:Nat):D→Bool
 |.v _ |.e7 _ |.full _ _ _=>true
 |.ptr r _=>Nat.blt r n
 |.cu r _ _=>Nat.blt r n
 |.fn _ ff=>vA n ff
 |.agg cs |.cA cs=>vA n cs
def vA(n:Nat):List D→Bool
 |[]=>true
 |d::l=>below n d&&vA n l
end
def tQ(n:Nat):List a7→Bool
 |[]=>true
 |e::l=>below n e.d&&tQ n l
def Ch(env:List (Nat×a7)):List Nat→Option (List (Nat×a7))
 |[]=>some []
 |t::l=>match look env t,Ch env l with
  |some e,some cI=>some ((t,e)::cI)
  |_,_=>none
def Ci(H:List (Nat×List a7)):List Nat→Option (List (Nat×List a7))
 |[]=>some []
 |r::l=>match look H r,Ci H l with
  |some e,some cI=>some ((r,e)::cI)
  |_,_=>none
def vB(live:List Nat)(boxes:List Nat)(n:Nat)(env:List (Nat×a7))(H:List (Nat×List a7))(aW:Nat):Option aM:=
 match Ch env live,Ci H boxes with
 |some oi,some bQ=>bif Nat.ble n aW&&oi.all (λx=>below n x.2.d)&&bQ.all (λx=>Nat.blt x.1 n&&tQ n x.2)then some {env:=oi,H:=bQ,aW:=n}else none
 |_,_=>none
inductive Fin where
 |go (st:aM) (a6:List Prop)
 |bf (x:V) (st:aM) (a6:List Prop)
def df.mono{M M':Mem}(cV:M.le M'){v:Value}{x:V}(h:df M v x):df M' v x:=by
 induction h with
 |int k n=>exact .int k n
 |bool b=>exact .bool b
 |str l=>exact .str l
 |agg vs cs hn Z _ aG=>exact .agg vs cs hn Z aG
 |mh k get=>exact .mh k get
 |pS a k get=>exact .pS a k get
 |bI b off k n cap get val hc hk hm Z _ aG=>exact .bI b off k n cap get val hc hk (λi j hi hj=>cV _ _ _ (hm i j hi hj)) Z aG
 |iface t v x _ aG=>exact .iface t v x aG
 |eC=>exact .eC
 |iw=>exact .iw
 |aV=>exact .aV
 |any v Z=>exact .any v Z
 |oZ k get=>exact .oZ k get
inductive cy(M:Mem)(β:Nat→Option Nat):Value→D→Prop where
 |v (u:Value) (x:V) (h:df M u x):cy M β u (.v x)
 |ptr (r off b:Nat) (h:β r=some b):cy M β (.pointer (some ⟨b,off,none⟩)) (.ptr r off)
 |lY (r off:Nat) (u:TypeId):cy M β (.pointer none) (.cu r off u)
 |cu (r off b:Nat) (u:TypeId) (h:β r=some b):cy M β (.pointer (some ⟨b,off,none⟩)) (.cu r off u)
 |e7 (b off:Nat) (x:V) (val:Nat→Value) (cV:∀j,j<x.cells.length→M b (off+j)=some (val j)) (Z:∀j,j<x.cells.length→(val j).oneCell'=true)
  (h:∀(j:Nat) c,x.cells[j]? = some c→df M (val j) c):cy M β (.pointer (some ⟨b,off,none⟩)) (.e7 x)
 |full (base:Option Addr) (k n:Nat) (get:Nat→V) (h:df M (.slice base n n) (.bI k n get)):cy M β (.slice base n n) (.full k n get)
 |fn (f:FuncId) (vs:List Value) (cs:List D) (hn:vs.length=cs.length)
  (h:∀(i:Nat) v c,vs[i]? = some v→cs[i]? = some c→cy M β v c):cy M β (.func (.func f) #[] ⟨vs⟩) (.fn f cs)
 |agg (vs:List Value) (cs:List D) (hn:vs.length=cs.length) (Z:∀v,v∈vs→v.oneCell'=true)
  (h:∀(i:Nat) v c,vs[i]? = some v→cs[i]? = some c→cy M β v c):cy M β (.agg ⟨vs⟩) (.agg cs)
 |cA (vs:List Value) (cs:List D) (hn:vs.length=cs.length)
  (h:∀(i:Nat) v c,vs[i]? = some v→cs[i]? = some c→cy M β v c):cy M β (.tuple ⟨vs⟩) (.cA cs)
def cy.mono{M M':Mem}{β:Nat→Option Nat}(cV:M.le M'){v:Value}{d:D}(h:cy M β v d):cy M' β v d:=by
 induction h with
 |v u x h=>exact .v u x (h.mono cV)
 |ptr r off b h=>exact .ptr r off b h
 |lY r off u=>exact .lY r off u
 |cu r off b u h=>exact .cu r off b u h
 |e7 b off x val hm Z h=>exact .e7 b off x val (λj hj=>cV _ _ _ (hm j hj)) Z (λj c hc=>(h j c hc).mono cV)
 |full b k n get h=>exact .full b k n get (h.mono cV)
 |fn f vs cs hn _ aG=>exact .fn f vs cs hn aG
 |agg vs cs hn Z _ aG=>exact .agg vs cs hn Z aG
 |cA vs cs hn _ aG=>exact .cA vs cs hn aG
def tR{n:Nat}:∀{l:List D} {i:Nat} {d:D},vA n l=true→l[i]? = some d→below n d=true
 |[],_,_,_,h=>by simp at h
 |d::l,0,_,hb,h=>by simp [vA]at hb;simp at h;exact h ▸ hb.1
 |d::l,i+1,_,hb,h=>by simp [vA]at hb;simp at h;exact tR hb.2 h
def cy.VA{M:Mem}{β β':Nat→Option Nat}{n:Nat}(hF:∀r,r<n→β' r=β r){v:Value}{d:D}(h:cy M β v d):Ab.below n d=true→cy M β' v d:=by
 induction h with
 |v u x h=>intro _;exact .v u x h
 |ptr r off b h=>intro hb;exact .ptr r off b (by rw [hF r (by simpa [Ab.below,Nat.blt_eq]using hb)];exact h)
 |lY r off u=>intro hb;exact .lY r off u
 |cu r off b u h=>intro hb;exact .cu r off b u (by rw [hF r (by simpa [Ab.below,Nat.blt_eq]using hb)];exact h)
 |e7 b off x val hm Z h=>intro _;exact .e7 b off x val hm Z h
 |full b k n get h=>intro _;exact .full b k n get h
 |fn f vs cs hn _ aG=>intro hb;exact .fn f vs cs hn λi v c av hc=>aG i v c av hc (tR (by simpa [Ab.below]using hb) hc)
 |agg vs cs hn Z _ aG=>intro hb;exact .agg vs cs hn Z λi v c av hc=>aG i v c av hc (tR (by simpa [Ab.below]using hb) hc)
 |cA vs cs hn _ aG=>intro hb;exact .cA vs cs hn λi v c av hc=>aG i v c av hc (tR (by simpa [Ab.below]using hb) hc)
def yl{f:Nat→Option Nat}:∀{l cI:List D},lq f l=some cI→l.length=cI.length∧∀(i:Nat) d,l[i]? = some d→∃dD,cI[i]? = some dD∧eD f d=some dD
 |[],cI,h=>by simp [lq]at h;subst h;simp
 |d::l,cI,h=>by
  simp only [lq]at h;split at h<;>simp at h
  rename_i dD hN hd aa;subst h;obtain⟨Z,ab⟩:=yl aa;refine⟨by simp [Z],λi x hx=>?_⟩
  cases i with
  |zero=>simp at hx;subst hx;exact⟨dD,by simp,hd⟩
  |succ i=>simp at hx;simpa using ab i x hx
def cy.eD{M:Mem}{β β':Nat→Option Nat}{f:Nat→Option Nat}(hF:∀r s b,f r=some s→β r=some b→β' s=some b){v:Value}{d:D}(h:cy M β v d):
 ∀{dD},eD f d=some dD→cy M β' v dD:=by
 induction h with
 |v u x h=>intro dD hd;simp [Ab.eD]at hd;subst hd;exact .v u x h
 |ptr r off b h=>
  intro dD hd;simp only [Ab.eD,Option.map_eq_some_iff]at hd;obtain⟨s,hs,rfl⟩:=hd;exact .ptr s off b (hF r s b hs h)
 |lY r off u=>
  intro dD hd;simp only [Ab.eD,Option.map_eq_some_iff]at hd;obtain⟨s,hs,rfl⟩:=hd;exact .lY s off u
 |cu r off b u h=>
  intro dD hd;simp only [Ab.eD,Option.map_eq_some_iff]at hd;obtain⟨s,hs,rfl⟩:=hd;exact .cu s off b u (hF r s b hs h)
 |e7 b off x val hm Z h=>intro dD hd;simp [Ab.eD]at hd;subst hd;exact .e7 b off x val hm Z h
 |full b k n get h=>intro dD hd;simp [Ab.eD]at hd;subst hd;exact .full b k n get h
 |fn f vs cs hn _ aG=>
  intro dD hd;simp only [Ab.eD,Option.map_eq_some_iff]at hd;obtain⟨cs',eu,rfl⟩:=hd;obtain⟨Z,ab⟩:=yl eu;refine .fn f vs cs' (by omega) λi v c av hc=>?_
  have hi:i<cs.length:=by have:=(List.getElem?_eq_some_iff.1 hc).1;omega
  obtain⟨d1,gF,ai⟩:=ab i cs[i] (List.getElem?_eq_getElem hi);rw [hc]at gF;cases gF;exact aG i v _ av (List.getElem?_eq_getElem hi) ai
 |agg vs cs hn Z _ aG=>
  intro dD hd;simp only [Ab.eD,Option.map_eq_some_iff]at hd;obtain⟨cs',eu,rfl⟩:=hd;obtain⟨h0,ab⟩:=yl eu;refine .agg vs cs' (by omega) Z λi v c av hc=>?_
  have hi:i<cs.length:=by have:=(List.getElem?_eq_some_iff.1 hc).1;omega
  obtain⟨d1,gF,ai⟩:=ab i cs[i] (List.getElem?_eq_getElem hi);rw [hc]at gF;cases gF;exact aG i v _ av (List.getElem?_eq_getElem hi) ai
 |cA vs cs hn _ aG=>
  intro dD hd;simp only [Ab.eD,Option.map_eq_some_iff]at hd;obtain⟨cs',eu,rfl⟩:=hd;obtain⟨Z,ab⟩:=yl eu;refine .cA vs cs' (by omega) λi v c av hc=>?_
  have hi:i<cs.length:=by have:=(List.getElem?_eq_some_iff.1 hc).1;omega
  obtain⟨d1,gF,ai⟩:=ab i cs[i] (List.getElem?_eq_getElem hi);rw [hc]at gF;cases gF;exact aG i v _ av (List.getElem?_eq_getElem hi) ai
def cy.Nj{M:Mem}{β β':Nat→Option Nat}(hF:∀r b,β r=some b→β' r=some b){v:Value}{d:D}(h:cy M β v d):cy M β' v d:=by
 induction h with
 |v u x h=>exact .v u x h
 |ptr r off b h=>exact .ptr r off b (hF r b h)
 |lY r off u=>exact .lY r off u
 |cu r off b u h=>exact .cu r off b u (hF r b h)
 |e7 b off x val hm Z h=>exact .e7 b off x val hm Z h
 |full b k n get h=>exact .full b k n get h
 |fn f vs cs hn _ aG=>exact .fn f vs cs hn aG
 |agg vs cs hn Z _ aG=>exact .agg vs cs hn Z aG
 |cA vs cs hn _ aG=>exact .cA vs cs hn aG
def cy.aex{M:Mem}{β β':Nat→Option Nat}{n:Nat}(hF:∀r,r<n→∀b,β r=some b→β' r=some b){v:Value}{d:D}(h:cy M β v d):Ab.below n d=true→cy M β' v d:=by
 induction h with
 |v u x h=>intro _;exact .v u x h
 |ptr r off b h=>intro hb;exact .ptr r off b (hF r (by simpa [Ab.below,Nat.blt_eq]using hb) b h)
 |lY r off u=>intro hb;exact .lY r off u
 |cu r off b u h=>intro hb;exact .cu r off b u (hF r (by simpa [Ab.below,Nat.blt_eq]using hb) b h)
 |e7 b off x val hm Z h=>intro _;exact .e7 b off x val hm Z h
 |full b k n get h=>intro _;exact .full b k n get h
 |fn f vs cs hn _ aG=>intro hb;exact .fn f vs cs hn λi v c av hc=>aG i v c av hc (tR (by simpa [Ab.below]using hb) hc)
 |agg vs cs hn Z _ aG=>intro hb;exact .agg vs cs hn Z λi v c av hc=>aG i v c av hc (tR (by simpa [Ab.below]using hb) hc)
 |cA vs cs hn _ aG=>intro hb;exact .cA vs cs hn λi v c av hc=>aG i v c av hc (tR (by simpa [Ab.below]using hb) hc)
structure Ctx where
 Cj:Mem
 F:Nat→Option Obj
 ls:Nat→Option Nat
 h9:Os×Array (Nat×ByteArray)
 ds:List Deferred:=[]
inductive Loc where
 |slot (s:Nat)
 |cell (r i:Nat)
deriving DecidableEq
def aM.at(st:aM):Loc→Option a7
 |.slot s=>look st.env s
 |.cell r i=>(look st.H r).bind (·[i]?)
def cv(tmps:Array Value)(w:World)(β:Nat→Option Nat):Loc→Value
 |.slot s=>tmps.getD s undef
 |.cell r i=>match β r with
  |some b=>(w.cell? ⟨b,i,none⟩).getD undef
  |none=>undef
def h':Value→Option Nat
 |.slice (some a) _ _=>some a.block
 |_=>none
def pX(P:Program)(F:Nat→Option Obj)(M:Mem)(w:World)(T:TypeId)(v:Value):Prop:=
 v = .slice none 0 0∨∃b n cap vs T',v = .slice (some ⟨b,0,none⟩) n cap∧n≤cap∧w.heap[b]? = some (.cells ⟨vs⟩ T' (0,0))∧cap*P.cellsOf T≤vs.length∧
  (∀o,n*P.cellsOf T≤o→M b o=none)∧F b=none∧T'=T
def Nk (P : Program) : List Nat := ["strconv.ErrSyntax", "strconv.ErrRange"].filterMap P.globalNamed
def Nl:Array Value:=((List.range 20).map λi=>Value.int .u64 ((10 ^ i:Nat):Int)).toArray
def sq(P:Program)(F:Nat→Option Obj):Prop:=
 (∀g,g∈Nk P→∃cs t kW fN,F g=some (.cells cs t kW)∧cs[0]? = some fN∧(fN = .nilIface∨∃ci sr,fN = .iface ci sr))∧
 ∀ g, P.globalNamed "internal/strconv.uint64pow10" = some g → ∃ t kW, F g = some (.cells Nl t kW)
def sq.mono{P:Program}{F VB:Nat→Option Obj}(h:sq P F)(dP:∀b a6,F b=some a6→VB b=some a6):sq P VB:=⟨λg hg=>by
 obtain⟨cs,t,kW,fN,Z,ab,aj⟩:=h.1 g hg;exact⟨cs,t,kW,fN,dP _ _ Z,ab,aj⟩,λg hg=>by
 obtain⟨t,kW,Z⟩:=h.2 g hg;exact⟨t,kW,dP _ _ Z⟩⟩
def lu(P:Program)(T:TypeId)(n:Nat)(cs:List a7):Prop:=∀e,e∈cs→∀r off u,e.d = .cu r off u→liesAt P P.depth T (n / P.cellsOf T) off u 1=true
def aey(P:Program)(T:TypeId)(vs:List Value)(cs:List a7):Prop:=(∀v,v∈vs→v.oneCell'=true)∧lu P T vs.length cs
def lu.sub{P:Program}{T:TypeId}{n:Nat}{cs cs':List a7}(h:lu P T n cs)(hs:∀e,e∈cs'→∃b4,b4∈cs∧b4.d=e.d):lu P T n cs':=λe he r off u hd=>by
 obtain⟨b4,Z,ab⟩:=hs e he;exact h b4 Z r off u (ab.trans hd)
structure bN(P:Program)(K:Ctx)(M:Mem)(β:Nat→Option Nat)(st:aM)(tmps:Array Value)(w:World):Prop where
 fw:∀l e,st.at l=some e→cy M β (cv tmps w β l) e.d
 own:∀l e T,st.at l=some e→e.own=some T→pX P K.F M w T (cv tmps w β l)
 uniq:∀l cI e bg T T' b,st.at l=some e→e.own=some T→st.at cI=some bg→bg.own=some T'→
  h' (cv tmps w β l)=some b→h' (cv tmps w β cI)=some b→l=cI
 unbox:∀l e T b r cs,st.at l=some e→e.own=some T→h' (cv tmps w β l)=some b→look st.H r=some cs→β r≠some b
 box:∀r cs,look st.H r=some cs→∃b vs T,β r=some b∧w.heap[b]? = some (.cells ⟨vs⟩ T (0,0))∧vs.length=cs.length∧(∀o,M b o=none)∧K.F b=none∧aey P T vs cs
 inj:∀r dw b cs cs',look st.H r=some cs→look st.H dw=some cs'→β r=some b→β dw=some b→r=dw
 lt:∀r b,β r=some b→r<st.aW
 mem:∀b o v,M b o=some v→w.cell? ⟨b,o,none⟩=some v
 m0:K.Cj.le M
 frame:∀b a6,K.F b=some a6→w.heap[b]? = some a6∧∀o,M b o=K.Cj b o
 iT:∀r b,K.ls r=some b→β r=some b
 jA:sq P K.F
 h9:(w.os,w.output)=K.h9
def aM.Nn{st:aM}{r i:Nat}{cs:List a7}(h:look st.H r=some cs):st.at (.cell r i)=cs[i]? := by simp [aM.at,h]
def GC:∀{l:List D},tN l=true→∀d,d∈l→∀r off u,d ≠ .cu r off u
 |[],h,d,hd=>by cases hd
 |x::l,h,d,hd=>by
  have ab:tN l=true:=by cases x<;>first|exact h|cases h
  rcases List.mem_cons.1 hd with rfl|kv
  ·intro r off u e;subst e;cases h
  ·exact GC ab d kv
def lu.VC{P:Program}{T:TypeId}{n r:Nat}{st b9:aM}{cs cs':List a7}(h:lu P T n cs)(Z:look st.H r=some cs)(ab:look b9.H r=some cs')
 (he:∀l bg,b9.at l=some bg→∃e,st.at l=some e∧(e.d=bg.d∨∀q off u,bg.d ≠ .cu q off u)):lu P T n cs':=λe hm q off u hd=>by
 obtain⟨i,hi,rfl⟩:=List.getElem_of_mem hm;obtain⟨b4,g1,g2⟩:=he (.cell r i) cs'[i] (by rw [aM.Nn ab];exact List.getElem?_eq_getElem hi)
 rw [aM.Nn Z]at g1;rcases g2 with g2|g2
 ·exact h b4 (List.mem_of_getElem? g1) q off u (g2.trans hd)
 ·exact absurd hd (g2 q off u)
def dZ{α:Type}(j:Nat)(x:α)(l:List (Nat×α))(i:Nat):look ((j,x)::l) i=if j=i then some x else look l i:=by
 by_cases h:j=i
 ·simp [look,h]
 ·have:Nat.beq j i=false:=by rw [Bool.eq_false_iff];simpa using h
  simp [look,h,this]
def q1{α:Type}(l:List (Nat×α))(t i:Nat):look (del l t) i=if t=i then none else look l i:=by
 induction l with
 |nil=>simp [del,look]
 |cons x l aG=>
  obtain⟨j,x⟩:=x;by_cases h:j=t
  ·subst h;have:Nat.beq j j=true:=by simp
   simp only [del,this,cond_true,aG,dZ];by_cases ab:j=i<;>simp [ab]
  ·have cO:Nat.beq j t=false:=by rw [Bool.eq_false_iff];simpa using h
   simp only [del,cO,cond_false,dZ,aG];by_cases ab:j=i
   ·subst ab;simp [Ne.symm h]
   ·simp [ab]
def cell_of_heap{w:World}{b o:Nat}{vs:List Value}{T:TypeId}{o3:Nat×Nat}(h:w.heap[b]? = some (.cells ⟨vs⟩ T o3)):w.cell? ⟨b,o,none⟩=vs[o]? := by
 simp [World.cell?,h]
def lt_of_heap{w:World}{b:Nat}{a6:Obj}(h:w.heap[b]? = some a6):b<w.heap.size:=by
 rcases Nat.lt_or_ge b w.heap.size with cO|cO
 ·exact cO
 ·simp [Array.getElem?_eq_none cO]at h
def lt_of_cell{w:World}{b o:Nat}{v:Value}(h:w.cell? ⟨b,o,none⟩=some v):b<w.heap.size:=by
 unfold World.cell? at h;split at h
 ·rename_i bn;exact lt_of_heap bn
 ·cases h
def ss{w w':World}{b o:Nat}(h:w'.heap[b]? = w.heap[b]?):w'.cell? ⟨b,o,none⟩=w.cell? ⟨b,o,none⟩:=by
 simp [World.cell?,h]
section
variable {P:Program} {K:Ctx} {M M':Mem} {β β':Nat→Option Nat} {st b9:aM} {tmps fX:Array Value} {w w':World}
def pX.lt{F:Nat→Option Obj}{T:TypeId}{v:Value}{b:Nat}(h:pX P F M w T v)(hb:h' v=some b):b<w.heap.size:=by
 rcases h with rfl|⟨bH,n,cap,vs,T',rfl,_,bn,_⟩
 ·simp [h']at hb
 ·simp [h']at hb;subst hb;exact lt_of_heap bn
def pX.free{F:Nat→Option Obj}{T:TypeId}{v:Value}{b:Nat}(h:pX P F M w T v)(hb:h' v=some b):F b=none:=by
 rcases h with rfl|⟨bH,n,cap,vs,T',rfl,_,bn,_,_,dP,_⟩
 ·simp [h']at hb
 ·simp [h']at hb;subst hb;exact dP
def pX.congr{F:Nat→Option Obj}{T:TypeId}{v:Value}(h:pX P F M w T v)(hw:∀b,h' v=some b→w'.heap[b]? = w.heap[b]?)(cV:∀b o,h' v=some b→M' b o=M b o):
 pX P F M' w' T v:=by
 rcases h with rfl|⟨bH,n,cap,vs,T',rfl,Z,bn,ab,aj,dP⟩
 ·exact .inl rfl
 ·exact .inr ⟨bH,n,cap,vs,T',rfl,Z,(hw bH rfl).trans bn,ab,λo aw=>(cV bH o rfl).trans (aj o aw),dP⟩
def No(h:bN P K M β st tmps w){r i:Nat}{cs:List a7}{e:a7}(ai:look st.H r=some cs)(hi:cs[i]? = some e):
 ∃b vs T v,β r=some b∧w.heap[b]? = some (.cells ⟨vs⟩ T (0,0))∧vs[i]? = some v∧cv tmps w β (.cell r i)=v:=by
 obtain⟨b,vs,T,hb,bn,aa,_⟩:=h.box r cs ai;have Np:i<cs.length:=(List.getElem?_eq_some_iff.1 hi).1;have av:vs[i]? = some vs[i]:=List.getElem?_eq_getElem (by omega)
 exact⟨b,vs,T,_,hb,bn,av,by simp only [cv,hb,cell_of_heap bn,av,Option.getD_some]⟩
def bN.Ck(h:bN P K M β st tmps w){r b:Nat}{cs:List a7}(ai:look st.H r=some cs)(hb:β r=some b):b<w.heap.size:=by
 obtain⟨bH,vs,T,bY,bn,_⟩:=h.box r cs ai;rw [hb]at bY;cases bY;exact lt_of_heap bn
def bN.free(h:bN P K M β st tmps w)(b:Nat)(dP:K.F b=none)(vC:∀r cs,look st.H r=some cs→β r≠some b)
 (gk:∀l e T,st.at l=some e→e.own=some T→h' (cv tmps w β l)≠some b)
 (hw:∀bH,bH≠b→bH<w.heap.size→w'.heap[bH]? = w.heap[bH]?) (cV:M.le M') (GD:∀bH o,bH≠b→M' bH o=M bH o)
 (GE:∀o v,M' b o=some v→w'.cell? ⟨b,o,none⟩=some v) (o4:(w'.os,w'.output)=(w.os,w.output):=by rfl):bN P K M' β st tmps w':=by
 have cj:∀l e,st.at l=some e→cv tmps w' β l=cv tmps w β l:=by
  intro l e aa;cases l with
  |slot s=>rfl
  |cell r i=>
   simp only [aM.at]at aa;cases ai:look st.H r with
   |none=>simp [ai]at aa
   |some cs=>
    obtain⟨c6,vs,T,dc,bn,_⟩:=h.box r cs ai;have di:c6≠b:=λe=>vC r cs ai (e ▸ dc)
    simp only [cv,dc];rw [ss (hw c6 di (lt_of_heap bn))]
 constructor
 ·intro l e aa;rw [cj l e aa];exact(h.fw l e aa).mono cV
 ·intro l e T aa aH;rw [cj l e aa];refine(h.own l e T aa aH).congr (λc6 dc=>hw c6 ?_ ((h.own l e T aa aH).lt dc)) (λc6 o dc=>GD c6 o ?_) <;>
  ·rintro rfl;exact gk l e T aa aH dc
 ·intro l cI e bg T T' c6 aa aH dE eh hb bY;rw [cj l e aa]at hb;rw [cj cI bg dE]at bY;exact h.uniq l cI e bg T T' c6 aa aH dE eh hb bY
 ·intro l e T c6 r cs aa aH hb ai;rw [cj l e aa]at hb;exact h.unbox l e T c6 r cs aa aH hb ai
 ·intro r cs ai;obtain⟨c6,vs,T,dc,bn,Z,ab,aj⟩:=h.box r cs ai;have di:c6≠b:=λe=>vC r cs ai (e ▸ dc)
  exact⟨c6,vs,T,dc,(hw c6 di (lt_of_heap bn)).trans bn,Z,λo=>(GD c6 o di).trans (ab o),aj⟩
 ·exact h.inj
 ·exact h.lt
 ·intro c6 o v av;by_cases di:c6=b
  ·subst di;exact GE o v av
  ·rw [GD c6 o di]at av;have:=h.mem c6 o v av
   rw [ss (hw c6 di (lt_of_cell this))];exact this
 ·exact Mem.le_trans h.m0 cV
 ·intro c6 a6 dc;have di:c6≠b:=by rintro rfl;rw [dP]at dc;cases dc
  obtain⟨Z,ab⟩:=h.frame c6 a6 dc;exact⟨(hw c6 di (lt_of_heap Z)).trans Z,λo=>(GD c6 o di).trans (ab o)⟩
 ·exact h.iT
 ·exact h.jA
 ·exact o4.trans h.h9
def bN.grow(h:bN P K M β st tmps w)(hw:∀b,b<w.heap.size→w'.heap[b]? = w.heap[b]?)(o4:(w'.os,w'.output)=(w.os,w.output):=by rfl):bN P K M β st tmps w':=by
 have hn:∀b,w.heap.size≤b→K.F b=none:=by
  intro b hb;cases dP:K.F b with
  |none=>rfl
  |some a6=>have:=lt_of_heap (h.frame b a6 dP).1;omega
 refine h.free w.heap.size (hn _ (Nat.le_refl _)) ?_ ?_ (λb _ hb=>hw b hb) (Mem.le_refl _) (λ_ _ _=>rfl) ?_ o4
 ·intro r cs ai hb;have:=h.Ck ai hb;omega
 ·intro l e T aa aH hb;have:=(h.own l e T aa aH).lt hb;omega
 ·intro o v av;have:=lt_of_cell (h.mem _ _ _ av);omega
def bN.sub(h:bN P K M β st tmps w)(hn:b9.aW=st.aW)
 (he:∀l bg,b9.at l=some bg→∃e,st.at l=some e∧e.d=bg.d∧∀T,bg.own=some T→e.own=some T)
 (fl:∀r cs',look b9.H r=some cs'→∃cs,look st.H r=some cs∧cs.length=cs'.length):bN P K M β b9 tmps w:=by
 constructor
 ·intro l bg aa;obtain⟨e,Z,ab,_⟩:=he l bg aa;rw [←ab];exact h.fw l e Z
 ·intro l bg T aa aH;obtain⟨e,Z,_,aj⟩:=he l bg aa;exact h.own l e T Z (aj T aH)
 ·intro l cI e bg T T' b aa aH dE eh;obtain⟨e1,Z,_,aj⟩:=he l e aa;obtain⟨e2,lw,_,GF⟩:=he cI bg dE;exact h.uniq l cI e1 e2 T T' b Z (aj T aH) lw (GF T' eh)
 ·intro l e T b r cs aa aH hb ai;obtain⟨e1,Z,_,aj⟩:=he l e aa;obtain⟨vD,ix,_⟩:=fl r cs ai;exact h.unbox l e1 T b r vD Z (aj T aH) hb ix
 ·intro r cs ai;obtain⟨vD,ix,hlen⟩:=fl r cs ai;obtain⟨b,vs,T,Z,ab,aj,aC,aT,bP,cM⟩:=h.box r vD ix
  exact⟨b,vs,T,Z,ab,aj.trans hlen,aC,aT,bP,cM.VC ix ai λl bg aa=>by
   obtain⟨e,g1,g2,_⟩:=he l bg aa;exact⟨e,g1,.inl g2⟩⟩
 ·intro r dw b cs cs' ai ge hb bY;obtain⟨c1,Z,_⟩:=fl r cs ai;obtain⟨c2,ab,_⟩:=fl dw cs' ge;exact h.inj r dw b c1 c2 Z ab hb bY
 ·intro r b hb;rw [hn];exact h.lt r b hb
 ·exact h.mem
 ·exact h.m0
 ·exact h.frame
 ·exact h.iT
 ·exact h.jA
 ·exact h.h9
def bN.aez(h:bN P K M β st tmps w)(hn:b9.aW=st.aW)
 (he:∀l bg,b9.at l=some bg→∃e,st.at l=some e∧((e.d=bg.d∧∀T,bg.own=some T→e.own=some T)∨∃k g,e.d = .v (.oZ k g)∧bg.d = .v (.bI k 0 g)))
 (fl:∀r cs',look b9.H r=some cs'→∃cs,look st.H r=some cs∧cs.length=cs'.length):bN P K M β b9 tmps w:=by
 have pY:∀l e k g,st.at l=some e→e.d = .v (.oZ k g)→cv tmps w β l = .slice none 0 0:=by
  intro l e k g aa hd;have:=h.fw l e aa
  rw [hd]at this;generalize cv tmps w β l=u at this ⊢
  cases this with
  |v u x hx=>cases hx;rfl
 constructor
 ·intro l bg aa;obtain⟨e,Z,⟨ab,_⟩|⟨k,g,ab,aj⟩⟩:=he l bg aa
  ·rw [←ab];exact h.fw l e Z
  ·rw [aj,pY l e k g Z ab];exact .v _ _ (.mh k g)
 ·intro l bg T aa aH;obtain⟨e,Z,⟨_,aj⟩|⟨k,g,ab,aj⟩⟩:=he l bg aa
  ·exact h.own l e T Z (aj T aH)
  ·exact .inl (pY l e k g Z ab)
 ·intro l cI e bg T T' b aa aH dE eh hb bY;obtain⟨e1,Z,⟨_,aj⟩|⟨k,g,ab,aj⟩⟩:=he l e aa
  ·obtain⟨e2,lw,⟨_,GF⟩|⟨k,g,aeA,GF⟩⟩:=he cI bg dE
   ·exact h.uniq l cI e1 e2 T T' b Z (aj T aH) lw (GF T' eh) hb bY
   ·rw [pY cI e2 k g lw aeA]at bY;cases bY
  ·rw [pY l e1 k g Z ab]at hb;cases hb
 ·intro l e T b r cs aa aH hb ai;obtain⟨vD,ix,_⟩:=fl r cs ai;obtain⟨e1,Z,⟨_,aj⟩|⟨k,g,ab,aj⟩⟩:=he l e aa
  ·exact h.unbox l e1 T b r vD Z (aj T aH) hb ix
  ·rw [pY l e1 k g Z ab]at hb;cases hb
 ·intro r cs ai;obtain⟨vD,ix,hlen⟩:=fl r cs ai;obtain⟨b,vs,T,Z,ab,aj,aC,aT,bP,cM⟩:=h.box r vD ix
  exact⟨b,vs,T,Z,ab,aj.trans hlen,aC,aT,bP,cM.VC ix ai λl bg aa=>by
   obtain⟨e,g1,⟨g2,_⟩|⟨k,g,_,g3⟩⟩:=he l bg aa
   ·exact⟨e,g1,.inl g2⟩
   ·exact⟨e,g1,.inr λq off u ao=>by rw [g3]at ao;cases ao⟩⟩
 ·intro r dw b cs cs' ai ge hb bY;obtain⟨c1,Z,_⟩:=fl r cs ai;obtain⟨c2,ab,_⟩:=fl dw cs' ge;exact h.inj r dw b c1 c2 Z ab hb bY
 ·intro r b hb;rw [hn];exact h.lt r b hb
 ·exact h.mem
 ·exact h.m0
 ·exact h.frame
 ·exact h.iT
 ·exact h.jA
 ·exact h.h9
structure nt(P:Program)(K:Ctx)(M:Mem)(β:Nat→Option Nat)(st:aM)(tmps:Array Value)(w:World)(l0:Loc)(v:Value)(T:TypeId):Prop where
 own:pX P K.F M w T v
 apart:∀l e T' b,st.at l=some e→e.own=some T'→l≠l0→h' v=some b→h' (cv tmps w β l)≠some b
 unbox:∀b r cs,h' v=some b→look st.H r=some cs→β r≠some b
def bN.put(h:bN P K M β st tmps w){t:Nat}{v:Value}{e:a7}(aF:t<tmps.size)(av:cy M β v e.d)
 (aw:∀T,e.own=some T→nt P K M β st tmps w (.slot t) v T):
 bN P K M β {st with env:=(t,e)::st.env} (tmps.setIfInBounds t v) w:=by
 have gl:∀l,({st with env:=(t,e)::st.env}:aM).at l=if l = .slot t then some e else st.at l:=by
  intro l;cases l with
  |slot s=>
   simp only [aM.at,dZ,Loc.slot.injEq];by_cases hs:t=s
   ·subst hs;simp
   ·simp [hs,Ne.symm hs]
  |cell r i=>simp [aM.at]
 have cj:∀l,cv (tmps.setIfInBounds t v) w β l=if l = .slot t then v else cv tmps w β l:=by
  intro l;cases l with
  |slot s=>
   simp only [cv,Loc.slot.injEq];by_cases hs:s=t
   ·subst hs;simp [aF]
   ·simp [hs,Ne.symm hs]
  |cell r i=>simp [cv]
 constructor
 ·intro l e1 aa;rw [gl]at aa;rw [cj];by_cases h0:l = .slot t
  ·simp only [h0,if_true]at aa ⊢;cases aa;exact av
  ·simp only [h0,if_false]at aa ⊢;exact h.fw l e1 aa
 ·intro l e1 T aa aH;rw [gl]at aa;rw [cj];by_cases h0:l = .slot t
  ·simp only [h0,if_true]at aa ⊢;cases aa;exact(aw T aH).own
  ·simp only [h0,if_false]at aa ⊢;exact h.own l e1 T aa aH
 ·intro l cI e1 e2 T T' b aa aH dE eh hb bY;rw [gl]at aa dE;rw [cj]at hb bY;by_cases h0:l = .slot t<;>by_cases tS:cI = .slot t
  ·rw [h0,tS]
  ·simp only [h0,tS,if_true,if_false]at aa dE hb bY;cases aa;exact absurd bY ((aw T aH).apart cI e2 T' b dE eh tS hb)
  ·simp only [h0,tS,if_true,if_false]at aa dE hb bY;cases dE;exact absurd hb ((aw T' eh).apart l e1 T b aa aH h0 bY)
  ·simp only [h0,tS,if_false]at aa dE hb bY;exact h.uniq l cI e1 e2 T T' b aa aH dE eh hb bY
 ·intro l e1 T b r cs aa aH hb ai;rw [gl]at aa;rw [cj]at hb;by_cases h0:l = .slot t
  ·simp only [h0,if_true]at aa hb;cases aa;exact(aw T aH).unbox b r cs hb ai
  ·simp only [h0,if_false]at aa hb;exact h.unbox l e1 T b r cs aa aH hb ai
 ·exact h.box
 ·exact h.inj
 ·exact h.lt
 ·exact h.mem
 ·exact h.m0
 ·exact h.frame
 ·exact h.iT
 ·exact h.jA
 ·exact h.h9
def bN.drop(h:bN P K M β st tmps w){t:Nat}{v:Value}:bN P K M β {st with env:=del st.env t} (tmps.setIfInBounds t v) w:=by
 have gl:∀l,({st with env:=del st.env t}:aM).at l=if l = .slot t then none else st.at l:=by
  intro l;cases l with
  |slot s=>
   simp only [aM.at,q1,Loc.slot.injEq];by_cases hs:t=s
   ·subst hs;simp
   ·simp [hs,Ne.symm hs]
  |cell r i=>simp [aM.at]
 have Z:bN P K M β {st with env:=del st.env t} tmps w:=by
  refine h.sub rfl (λl bg aa=>?_) (λr cs ai=>⟨cs,ai,rfl⟩)
  rw [gl]at aa;by_cases h0:l = .slot t
  ·simp [h0]at aa
  ·simp only [h0,if_false]at aa;exact⟨bg,aa,rfl,λ_ h=>h⟩
 have cj:∀l e,({st with env:=del st.env t}:aM).at l=some e→cv (tmps.setIfInBounds t v) w β l=cv tmps w β l:=by
  intro l e aa;cases l with
  |slot s=>
   have hs:t≠s:=by rintro rfl;simp [aM.at,q1]at aa
   simp [cv,hs]
  |cell r i=>rfl
 constructor
 ·intro l e aa;rw [cj l e aa];exact Z.fw l e aa
 ·intro l e T aa aH;rw [cj l e aa];exact Z.own l e T aa aH
 ·intro l cI e bg T T' b aa aH dE eh hb bY;rw [cj l e aa]at hb;rw [cj cI bg dE]at bY;exact Z.uniq l cI e bg T T' b aa aH dE eh hb bY
 ·intro l e T b r cs aa aH hb ai;rw [cj l e aa]at hb;exact Z.unbox l e T b r cs aa aH hb ai
 ·exact Z.box
 ·exact Z.inj
 ·exact Z.lt
 ·exact Z.mem
 ·exact Z.m0
 ·exact Z.frame
 ·exact Z.iT
 ·exact Z.jA
 ·exact Z.h9
def bN.aeB(h:bN P K M β st tmps w){dF n':Nat}(mj:∀b,β dF≠some b)(aeC:dF<n')(asI:st.aW≤n'){vs:List Value}{T:TypeId}{cs:List a7}(hlen:vs.length=cs.length)(ji:∀v,v∈vs→v.oneCell'=true)(hlies:lu P T vs.length cs)
 (av:∀(i:Nat) v e,vs[i]? = some v→cs[i]? = some e→cy M β v e.d∧∀T,e.own=some T→v = .slice none 0 0):
 bN P K M (λr=>if r=dF then some w.heap.size else β r) {st with H:=(dF,cs)::st.H,aW:=n'} tmps {w with heap:=w.heap.push (.cells ⟨vs⟩ T (0,0))}:=by
 have VD:∀r b,β r=some b→r≠dF:=λr b hb e=>mj b (e ▸ hb)
 have dc:∀r b,β r=some b→(λr=>if r=dF then some w.heap.size else β r) r=some b:=by
  intro r b hb;simp [VD r b hb,hb]
 have gM:∀{v d},cy M β v d→cy M (λr=>if r=dF then some w.heap.size else β r) v d:=by
  intro v d hd;refine hd.Nj ?_;exact dc
 have hg:=h.grow (w':={w with heap:=w.heap.push (.cells ⟨vs⟩ T (0,0))}) (λb hb=>by simp [Array.getElem?_push,Nat.ne_of_lt hb])
 have hold:∀r cs,r≠dF→look ((dF,cs)::st.H) r=look st.H r:=λr cs di=>by simp [dZ,Ne.symm di]
 have aeD:∀r cs,look st.H r=some cs→r≠dF:=λr cs ai=>by obtain⟨b,_,_,hb,_⟩:=h.box r cs ai;exact VD r b hb
 have cj:∀l e,st.at l=some e→cv tmps {w with heap:=w.heap.push (.cells ⟨vs⟩ T (0,0))} (λr=>if r=dF then some w.heap.size else β r) l=cv tmps {w with heap:=w.heap.push (.cells ⟨vs⟩ T (0,0))} β l:=by
  intro l e aa;cases l with
  |slot s=>rfl
  |cell r i=>
   simp only [aM.at]at aa;cases ai:look st.H r with
   |none=>simp [ai]at aa
   |some c=>simp [cv,aeD r c ai]
 have VE:∀i e,cs[i]? = some e→∃v,vs[i]? = some v∧cv tmps {w with heap:=w.heap.push (.cells ⟨vs⟩ T (0,0))} (λr=>if r=dF then some w.heap.size else β r) (.cell dF i)=v:=by
  intro i e hi;have Np:i<cs.length:=(List.getElem?_eq_some_iff.1 hi).1;have fa:vs[i]? = some vs[i]:=List.getElem?_eq_getElem (by omega)
  exact⟨_,fa,by simp [cv,World.cell?,hlen ▸ Np]⟩
 have gl:∀l e,({st with H:=(dF,cs)::st.H,aW:=n'}:aM).at l=some e→(∃i,l = .cell dF i∧cs[i]? = some e)∨(st.at l=some e∧∀i,l ≠ .cell dF i):=by
  intro l e aa;cases l with
  |slot s=>exact .inr ⟨aa,by simp⟩
  |cell r i=>
   by_cases ai:r=dF
   ·subst ai;simp [aM.at,dZ]at aa;exact .inl ⟨i,rfl,aa⟩
   ·refine .inr ⟨?_,by simp [ai]⟩
    simpa [aM.at,dZ,Ne.symm ai]using aa
 have kw:∀l e T',({st with H:=(dF,cs)::st.H,aW:=n'}:aM).at l=some e→e.own=some T'→(∃i,l = .cell dF i)→cv tmps {w with heap:=w.heap.push (.cells ⟨vs⟩ T (0,0))} (λr=>if r=dF then some w.heap.size else β r) l = .slice none 0 0:=by
  rintro l e T' aa aH ⟨i,rfl⟩
  have hi:cs[i]? = some e:=by simpa [aM.at,dZ]using aa
  obtain⟨v,Z,ab⟩:=VE i e hi;rw [ab];exact(av i v e Z hi).2 T' aH
 constructor
 ·intro l e aa;rcases gl l e aa with⟨i,rfl,hi⟩|⟨aw,_⟩
  ·obtain⟨v,Z,ab⟩:=VE i e hi;rw [ab];exact gM (av i v e Z hi).1
  ·rw [cj l e aw];exact gM (hg.fw l e aw)
 ·intro l e T' aa aH;rcases gl l e aa with⟨i,mW,hi⟩|⟨aw,_⟩
  ·rw [kw l e T' aa aH ⟨i,mW⟩];exact .inl rfl
  ·rw [cj l e aw];exact hg.own l e T' aw aH
 ·intro l cI e bg hG pZ b aa aH dE eh hb bY;rcases gl l e aa with⟨i,mW,hi⟩|⟨aw,_⟩
  ·rw [kw l e hG aa aH ⟨i,mW⟩]at hb;simp [h']at hb
  ·rcases gl cI bg dE with⟨i,mW,hi⟩|⟨kX,_⟩
   ·rw [kw cI bg pZ dE eh ⟨i,mW⟩]at bY;simp [h']at bY
   ·rw [cj l e aw]at hb;rw [cj cI bg kX]at bY;exact hg.uniq l cI e bg hG pZ b aw aH kX eh hb bY
 ·intro l e hG b r c aa aH hb ai;rcases gl l e aa with⟨i,mW,hi⟩|⟨aw,_⟩
  ·rw [kw l e hG aa aH ⟨i,mW⟩]at hb;simp [h']at hb
  ·rw [cj l e aw]at hb
   have cZ:b<w.heap.size:=by
    have Z:=(h.own l e hG aw aH)
    have ab:cv tmps {w with heap:=w.heap.push (.cells ⟨vs⟩ T (0,0))} β l=cv tmps w β l:=by
     cases l with
     |slot s=>rfl
     |cell r i=>
      simp only [aM.at]at aw;cases ai:look st.H r with
      |none=>simp [ai]at aw
      |some c=>
       obtain⟨c6,kx,pZ,fC,bn,_⟩:=h.box r c ai;simp only [cv,fC];rw [ss (w:=w) (by simp [Array.getElem?_push,Nat.ne_of_lt (lt_of_heap bn)])]
    rw [ab]at hb;exact Z.lt hb
   by_cases jM:r=dF
   ·subst jM;simp;omega
   ·simp [jM];exact hg.unbox l e hG b r c aw aH hb (by simpa [dZ,Ne.symm jM]using ai)
 ·intro r c ai;by_cases jM:r=dF
  ·subst jM;simp [dZ]at ai;subst ai;refine⟨w.heap.size,vs,T,by simp,by simp,hlen,λo=>?_,?_,ji,hlies⟩
   ·cases hm:M w.heap.size o with
    |none=>rfl
    |some v=>have:=lt_of_cell (h.mem _ _ _ hm);omega
   ·cases dP:K.F w.heap.size with
    |none=>rfl
    |some a6=>have:=lt_of_heap (h.frame _ a6 dP).1;omega
  ·obtain⟨b,kx,hG,Z,ab,aj⟩:=hg.box r c (by simpa [dZ,Ne.symm jM]using ai)
   exact⟨b,kx,hG,by simp [jM,Z],ab,aj⟩
 ·intro r dw b c ml ai ge hb bY;by_cases jM:r=dF<;>by_cases ym:dw=dF
  ·rw [jM,ym]
  ·simp [jM]at hb;simp [ym]at bY;have:=h.Ck (by simpa [dZ,Ne.symm ym]using ge) bY
   omega
  ·simp [ym]at bY;simp [jM]at hb;have:=h.Ck (by simpa [dZ,Ne.symm jM]using ai) hb
   omega
  ·simp [jM]at hb;simp [ym]at bY;exact h.inj r dw b c ml (by simpa [dZ,Ne.symm jM]using ai) (by simpa [dZ,Ne.symm ym]using ge) hb bY
 ·intro r b hb;by_cases jM:r=dF
  ·subst jM;exact aeC
  ·simp [jM]at hb;have:=h.lt r b hb;simp;omega
 ·exact hg.mem
 ·exact hg.m0
 ·exact hg.frame
 ·intro r b hb;exact dc r b (h.iT r b hb)
 ·exact hg.jA
 ·exact hg.h9
end
section
variable {P:Program} {K:Ctx} {M M':Mem} {β β':Nat→Option Nat} {st b9:aM} {tmps fX:Array Value} {w w':World}
def bN.Nq(h:bN P K M β st tmps w){r b:Nat}{cs:List a7}(ai:look st.H r=some cs)(hb:β r=some b){vs vs':List Value}{T:TypeId}
 (bn:w.heap[b]? = some (.cells ⟨vs⟩ T (0,0))) {cs':List a7} (hlen:vs'.length=cs'.length) (ji:∀v,v∈vs'→v.oneCell'=true) (hlies:lu P T vs.length cs→lu P T vs'.length cs') (eu:cs'.length=cs.length)
 (oj:w'.heap[b]? = some (.cells ⟨vs'⟩ T (0,0))) (Cl:∀bH,bH≠b→w'.heap[bH]? = w.heap[bH]?) (i0:Nat)
 (av:∀(i:Nat) v e,vs'[i]? = some v→cs'[i]? = some e→cy M β v e.d∧∀T,e.own=some T→
  (i≠i0∧(∃b4,cs[i]? = some b4∧b4.own=some T)∧vs[i]? = some v)∨(i=i0∧nt P K M β st tmps w (.cell r i0) v T)) (o4:(w'.os,w'.output)=(w.os,w.output):=by rfl):
 bN P K M β {st with H:=(r,cs')::st.H} tmps w':=by
 have GG:K.F b=none∧∀o,M b o=none:=by
  obtain⟨c6,_,_,Z,_,_,ab,aj,_⟩:=h.box r cs ai;rw [hb]at Z;cases Z;exact⟨aj,ab⟩
 have aeE:lu P T vs.length cs:=by
  obtain⟨c6,kx,hG,Z,ab,_,_,_,_,aj⟩:=h.box r cs ai;rw [hb]at Z;cases Z;rw [bn]at ab;cases ab;exact aj
 have ij:∀bH,bH≠b→∀o,w'.cell? ⟨bH,o,none⟩=w.cell? ⟨bH,o,none⟩:=λbH di o=>ss (Cl bH di)
 have di:∀dw c bH,look st.H dw=some c→β dw=some bH→dw≠r→bH≠b:=λdw c bH ge bY di e=>di (h.inj dw r bH c cs ge ai bY (e ▸ hb))
 have gl:∀l e,({st with H:=(r,cs')::st.H}:aM).at l=some e→(∃i v,l = .cell r i∧cs'[i]? = some e∧vs'[i]? = some v∧cv tmps w' β l=v)∨(st.at l=some e∧cv tmps w' β l=cv tmps w β l∧∀i,l ≠ .cell r i):=by
  intro l e aa;cases l with
  |slot s=>exact .inr ⟨aa,rfl,by simp⟩
  |cell dw i=>
   by_cases lx:dw=r
   ·subst lx;simp [aM.at,dZ]at aa;have hi:i<cs'.length:=(List.getElem?_eq_some_iff.1 aa).1;have fa:vs'[i]? = some vs'[i]:=List.getElem?_eq_getElem (by omega)
    exact .inl ⟨i,_,rfl,aa,fa,by simp only [cv,hb,cell_of_heap oj,fa,Option.getD_some]⟩
   ·have dE:st.at (.cell dw i)=some e:=by simpa [aM.at,dZ,Ne.symm lx]using aa
    refine .inr ⟨dE,?_,by simp [lx]⟩
    simp only [aM.at]at dE;cases ge:look st.H dw with
    |none=>simp [ge]at dE
    |some c=>
     obtain⟨c6,_,_,dc,_⟩:=h.box dw c ge;simp only [cv,dc];rw [ij c6 (di dw c c6 ge dc lx)]
 have gk:∀l e T,({st with H:=(r,cs')::st.H}:aM).at l=some e→e.own=some T→
  (l ≠ .cell r i0∧(∃b4,st.at l=some b4∧b4.own=some T)∧cv tmps w' β l=cv tmps w β l)∨(l = .cell r i0∧nt P K M β st tmps w (.cell r i0) (cv tmps w' β l) T):=by
  intro l e hG aa aH;rcases gl l e aa with⟨i,v,rfl,hi,fa,cj⟩|⟨aw,cj,iU⟩
  ·rcases(av i v e fa hi).2 hG aH with⟨aeF,⟨b4,Nr,kY⟩,hold⟩|⟨rfl,hn⟩
   ·refine .inl ⟨by simp [aeF],⟨b4,by simp [aM.at,ai,Nr],kY⟩,?_⟩
    rw [cj];simp only [cv,hb,cell_of_heap bn,hold,Option.getD_some]
   ·exact .inr ⟨rfl,by rw [cj];exact hn⟩
  ·exact .inl ⟨iU i0,⟨e,aw,aH⟩,cj⟩
 have fl:∀dw c,look ((r,cs')::st.H) dw=some c→∃ml,look st.H dw=some ml:=by
  intro dw c hc;by_cases lx:r=dw
  ·exact⟨cs,lx ▸ ai⟩
  ·exact⟨c,by simpa [dZ,lx]using hc⟩
 constructor
 ·intro l e aa;rcases gl l e aa with⟨i,v,rfl,hi,fa,cj⟩|⟨aw,cj,iU⟩
  ·rw [cj];exact(av i v e fa hi).1
  ·rw [cj];exact h.fw l e aw
 ·intro l e hG aa aH;rcases gk l e hG aa aH with⟨_,⟨b4,h0,kY⟩,cj⟩|⟨rfl,hn⟩
  ·rw [cj];refine(h.own l b4 hG h0 kY).congr (λc6 dc=>Cl c6 ?_) (λ_ _ _=>rfl)
   rintro rfl
   exact h.unbox l b4 hG c6 r cs h0 kY dc ai hb
  ·refine hn.own.congr (λc6 dc=>Cl c6 ?_) (λ_ _ _=>rfl)
   rintro rfl
   exact hn.unbox c6 r cs dc ai hb
 ·intro l cI e bg hG pZ c6 aa aH dE eh dc vE;rcases gk l e hG aa aH with⟨hl0,⟨b4,h0,kY⟩,cj⟩|⟨rfl,hn⟩<;>rcases gk cI bg pZ dE eh with⟨aeG,⟨yn,tS,Cm⟩,q2⟩|⟨rfl,GH⟩
  ·rw [cj]at dc;rw [q2]at vE;exact h.uniq l cI b4 yn hG pZ c6 h0 kY tS Cm dc vE
  ·rw [cj]at dc;exact absurd dc (GH.apart l b4 hG c6 h0 kY hl0 vE)
  ·rw [q2]at vE;exact absurd vE (hn.apart cI yn pZ c6 tS Cm aeG dc)
  ·rfl
 ·intro l e hG c6 dw c aa aH dc ge;obtain⟨ml,ke⟩:=fl dw c ge;rcases gk l e hG aa aH with⟨_,⟨b4,h0,kY⟩,cj⟩|⟨rfl,hn⟩
  ·rw [cj]at dc;exact h.unbox l b4 hG c6 dw ml h0 kY dc ke
  ·exact hn.unbox c6 dw ml dc ke
 ·intro dw c ge;by_cases lx:r=dw
  ·subst lx;simp [dZ]at ge;subst ge;exact⟨b,vs',T,hb,oj,hlen,GG.2,GG.1,ji,hlies aeE⟩
  ·have iV:look st.H dw=some c:=by simpa [dZ,lx]using ge
   obtain⟨c6,kx,hG,Z,ab,aj⟩:=h.box dw c iV;exact⟨c6,kx,hG,Z,(Cl c6 (di dw c c6 iV Z (Ne.symm lx))).trans ab,aj⟩
 ·intro r1 r2 c6 c1 c2 ix iV dc fC;obtain⟨VF,Z⟩:=fl r1 c1 ix;obtain⟨VG,ab⟩:=fl r2 c2 iV;exact h.inj r1 r2 c6 VF VG Z ab dc fC
 ·exact h.lt
 ·intro c6 o v hm;by_cases q3:c6=b
  ·subst q3;rw [GG.2 o]at hm;cases hm
  ·rw [ij c6 q3];exact h.mem c6 o v hm
 ·exact h.m0
 ·intro c6 a6 dP;have q3:c6≠b:=by rintro rfl;rw [GG.1]at dP;cases dP
  obtain⟨Z,ab⟩:=h.frame c6 a6 dP;exact⟨(Cl c6 q3).trans Z,ab⟩
 ·exact h.iT
 ·exact h.jA
 ·exact o4.trans h.h9
def ol:∀(l:List Nat) (env:List (Nat×a7)) (s:Nat),
 look (hE l env) s=if s∈l then(look env s).map (λe=>{e with own:=none})else look env s
 |[],env,s=>by simp [hE]
 |t::l,env,s=>by
  have aG:=ol l env s;simp only [hE];cases aF:look env t with
  |none=>
   simp only [aG];by_cases hs:s=t
   ·subst hs;simp [aF]
   ·simp [hs]
  |some e=>
   simp only [dZ];by_cases hs:t=s
   ·subst hs;simp [aF]
   ·simp [hs,Ne.symm hs,aG]
def bN.hM(h:bN P K M β st tmps w)(l:List Nat):bN P K M β {st with env:=hE l st.env} tmps w:=by
 refine h.sub rfl (λhN bg aa=>?_) (λr cs ai=>⟨cs,ai,rfl⟩)
 cases hN with
 |slot s=>
  simp only [aM.at,ol]at aa ⊢;by_cases hs:s∈l
  ·simp only [hs,if_true,Option.map_eq_some_iff]at aa;obtain⟨e,he,rfl⟩:=aa;exact⟨e,he,rfl,by simp⟩
  ·simp only [hs,if_false]at aa;exact⟨bg,aa,rfl,λ_ h=>h⟩
 |cell r i=>exact⟨bg,aa,rfl,λ_ h=>h⟩
def bN.hand(h:bN P K M β st tmps w){s:Nat}{e:a7}{T:TypeId}(hs:look st.env s=some e)(aH:e.own=some T)(l0:Loc):
 nt P K M β {st with env:=hE [s] st.env} tmps w l0 (tmps.getD s undef) T:=by
 have aa:st.at (.slot s)=some e:=hs;refine⟨h.own (.slot s) e T aa aH,λl bg T' b dE eh _ hb bY=>?_,λb r cs hb ai=>h.unbox (.slot s) e T b r cs aa aH hb ai⟩
 have eT:∃e2,st.at l=some e2∧e2.own=some T'∧l ≠ .slot s:=by
  cases l with
  |slot yo=>
   simp only [aM.at,ol]at dE ⊢;by_cases Ns:yo=s
   ·subst Ns;simp at dE;obtain⟨_,_,rfl⟩:=dE;simp at eh
   ·simp [Ns]at dE;exact⟨bg,dE,eh,by simp [Ns]⟩
  |cell r i=>exact⟨bg,dE,eh,by simp⟩
 obtain⟨e2,ab,aeH,di⟩:=eT;exact di (h.uniq l (.slot s) e2 e T' T b ab aeH aa aH bY hb)
def bN.VH(h:bN P K M β st tmps w){r i:Nat}{cs cs':List a7}{e:a7}{T:TypeId}(ai:look st.H r=some cs)(hi:cs[i]? = some e)(aH:e.own=some T)
 (eu:cs'.length=cs.length) (mX:∀(j:Nat) bg,cs'[j]? = some bg→∃b4,cs[j]? = some b4∧b4.d=bg.d∧(∀T,bg.own=some T→b4.own=some T∧j≠i)) (l0:Loc):
 bN P K M β {st with H:=(r,cs')::st.H} tmps w∧nt P K M β {st with H:=(r,cs')::st.H} tmps w l0 (cv tmps w β (.cell r i)) T:=by
 have aa:st.at (.cell r i)=some e:=by simp [aM.at,ai,hi]
 have gl:∀l bg,({st with H:=(r,cs')::st.H}:aM).at l=some bg→∃b4,st.at l=some b4∧b4.d=bg.d∧∀T,bg.own=some T→b4.own=some T∧l ≠ .cell r i:=by
  intro l bg dE;cases l with
  |slot s=>exact⟨bg,dE,rfl,λT h=>⟨h,by simp⟩⟩
  |cell dw j=>
   by_cases lx:r=dw
   ·subst lx;simp [aM.at,dZ]at dE;obtain⟨b4,Z,ab,aj⟩:=mX j bg dE;exact⟨b4,by simp [aM.at,ai,Z],ab,λT aH=>⟨(aj T aH).1,by simp [(aj T aH).2]⟩⟩
   ·refine⟨bg,by simpa [aM.at,dZ,lx]using dE,rfl,λT h=>⟨h,by simp [Ne.symm lx]⟩⟩
 have fl:∀dw c,look ((r,cs')::st.H) dw=some c→∃ml,look st.H dw=some ml∧ml.length=c.length:=by
  intro dw c hc;by_cases lx:r=dw
  ·subst lx;simp [dZ]at hc;subst hc;exact⟨cs,ai,eu.symm⟩
  ·exact⟨c,by simpa [dZ,lx]using hc,rfl⟩
 refine⟨h.sub rfl (λl bg dE=>?_) fl,h.own _ e T aa aH,λl bg T' b dE eh _ hb bY=>?_,λb dw c hb ge=>?_⟩
 ·obtain⟨b4,Z,ab,aj⟩:=gl l bg dE;exact⟨b4,Z,ab,λT aH=>(aj T aH).1⟩
 ·obtain⟨b4,Z,_,aj⟩:=gl l bg dE;exact(aj T' eh).2 (h.uniq l _ b4 e T' T b Z (aj T' eh).1 aa aH bY hb)
 ·obtain⟨ml,Z,_⟩:=fl dw c ge;exact h.unbox _ e T b dw ml aa aH hb Z
def Nt(l0:Loc)(T:TypeId):nt P K M β st tmps w l0 (.slice none 0 0) T:=
 ⟨.inl rfl,λ_ _ _ _ _ _ _ hb=>by simp [h']at hb,λ_ _ _ hb=>by simp [h']at hb⟩
def VI:∀{l:List Nat} {env oi:List (Nat×a7)},Ch env l=some oi→∀s e,look oi s=some e→look env s=some e
 |[],env,oi,h,s,e,he=>by simp [Ch]at h;subst h;simp [look]at he
 |t::l,env,oi,h,s,e,he=>by
  simp only [Ch]at h;split at h<;>simp at h
  rename_i e1 hN Z ab;subst h;rw [dZ]at he;by_cases ky:t=s
  ·simp [ky]at he;subst he;rw [←ky];exact Z
  ·simp [ky]at he;exact VI ab s e he
def Nu:∀{l:List Nat} {H bQ:List (Nat×List a7)},Ci H l=some bQ→∀s e,look bQ s=some e→look H s=some e
 |[],env,oi,h,s,e,he=>by simp [Ci]at h;subst h;simp [look]at he
 |t::l,env,oi,h,s,e,he=>by
  simp only [Ci]at h;split at h<;>simp at h
  rename_i e1 hN Z ab;subst h;rw [dZ]at he;by_cases ky:t=s
  ·simp [ky]at he;subst he;rw [←ky];exact Z
  ·simp [ky]at he;exact Nu ab s e he
def su{α:Type}:∀{l:List (Nat×α)} {i:Nat} {x:α},look l i=some x→(i,x)∈l
 |[],_,_,h=>by simp [look]at h
 |(j,y)::l,i,x,h=>by
  rw [dZ]at h;by_cases hj:j=i
  ·simp [hj]at h;subst h;simp [hj]
  ·simp [hj]at h;exact List.mem_cons_of_mem _ (su h)
def Nv{n:Nat}:∀{l:List a7} {i:Nat} {e:a7},tQ n l=true→l[i]? = some e→below n e.d=true
 |[],_,_,_,h=>by simp at h
 |d::l,0,_,hb,h=>by simp [tQ]at hb;simp at h;exact h ▸ hb.1
 |d::l,i+1,_,hb,h=>by simp [tQ]at hb;simp at h;exact Nv hb.2 h
def bN.vB(h:bN P K M β st tmps w){live yp:List Nat}{n:Nat}(ai:Ab.vB live yp n st.env st.H st.aW=some b9)(eG:∀r b,K.ls r=some b→r<n):
 ∃ β',bN P K M β' b9 tmps w:=by
 unfold Ab.vB at ai;split at ai
 case h_2=>cases ai
 rename_i oi bQ he fl;rw [Bool.cond_eq_ite]at ai;split at ai
 case isFalse=>cases ai
 rename_i hc;cases ai;simp only [Bool.and_eq_true,List.all_eq_true,Prod.forall,Nat.blt_eq,Nat.ble_eq]at hc;obtain⟨⟨hn,aeI⟩,VJ⟩:=hc
 have Z:bN P K M β {env:=oi,H:=bQ,aW:=st.aW} tmps w:=by
  refine h.sub rfl (λl bg aa=>?_) (λr cs ai=>⟨cs,Nu fl _ _ ai,rfl⟩)
  refine⟨bg,?_,rfl,λ_ h=>h⟩
  cases l with
  |slot s=>exact VI he _ _ aa
  |cell r i=>
   simp only [aM.at]at aa ⊢;cases ai:look bQ r with
   |none=>simp [ai]at aa
   |some c=>simp [ai]at aa;simp [Nu fl _ _ ai,aa]
 have nu:∀l e,({env:=oi,H:=bQ,aW:=st.aW}:aM).at l=some e→below n e.d=true∧(∀r i,l = .cell r i→r<n):=by
  intro l e aa;cases l with
  |slot s=>exact⟨aeI s e (su aa),by simp⟩
  |cell r i=>
   simp only [aM.at]at aa;cases ai:look bQ r with
   |none=>simp [ai]at aa
   |some c=>
    simp [ai]at aa;have:=VJ r c (su ai)
    exact⟨Nv this.2 aa,by rintro dw mY h;cases h;exact this.1⟩
 refine⟨λr=>if r<n then β r else none,?_⟩
 have cj:∀l e,({env:=oi,H:=bQ,aW:=st.aW}:aM).at l=some e→cv tmps w (λr=>if r<n then β r else none) l=cv tmps w β l:=by
  intro l e aa;cases l with
  |slot s=>rfl
  |cell r i=>simp [cv,(nu _ _ aa).2 r i rfl]
 have jM:∀r c,look bQ r=some c→r<n:=λr c ai=>(VJ r c (su ai)).1
 constructor
 ·intro l e aa;rw [cj l e aa];exact(Z.fw l e aa).VA (λr ai=>by simp [ai]) (nu l e aa).1
 ·intro l e T aa aH;rw [cj l e aa];exact Z.own l e T aa aH
 ·intro l cI e bg T T' b aa aH dE eh hb bY;rw [cj l e aa]at hb;rw [cj cI bg dE]at bY;exact Z.uniq l cI e bg T T' b aa aH dE eh hb bY
 ·intro l e T b r cs aa aH hb ai;rw [cj l e aa]at hb;have:=Z.unbox l e T b r cs aa aH hb ai
  simpa [jM r cs ai]using this
 ·intro r cs ai;obtain⟨b,vs,T,ab,aj⟩:=Z.box r cs ai;exact⟨b,vs,T,by simpa [jM r cs ai]using ab,aj⟩
 ·intro r dw b cs cs' ai ge hb bY;exact Z.inj r dw b cs cs' ai ge (by simpa [jM r cs ai]using hb) (by simpa [jM dw cs' ge]using bY)
 ·intro r b hb;by_cases cZ:r<n
  ·exact cZ
  ·simp [cZ]at hb
 ·exact Z.mem
 ·exact Z.m0
 ·exact Z.frame
 ·intro r b hb;simp [eG r b hb,Z.iT r b hb]
 ·exact Z.jA
 ·exact Z.h9
end
def ly(P:Program):TypeDesc→Option mg
 |.int k=>some (.int k)
 |.bool=>some .bool
 |.string=>some .str
 |.struct cx=>some (.cb (cx.toList.map λf=>(f.offset,f.type,P.cellsOf f.type)))
 |.slice e=>some (.bI e)
 |.array n e=>some (.arr n e)
 |.pointer _=>some .ptr
 |.func _ _ _=>some .a'
 |.interface _=>some .o0
 |_=>none
def vF:Value→V→Bool
 |.int k n,.int k' n'=>decide (k=k')&&decide (n=n')
 |.bool a,.bool b=>a == b
 |.string s,.str l=>decide (s.data.toList=l)
 |.slice none 0 0,.bI _ n _=>Nat.beq n 0
 |.pointer none,.eC=>true
 |.nilIface,.iw=>true
 |.nilFunc,.aV=>true
 |_,_=>false
def vG:List Value→List V→Bool
 |[],[]=>true
 |v::vs,x::xs=>vF v x&&vG vs xs
 |_,_=>false
def yq(P:Program)(inner:TypeId→List Field→Bool):Nat→List Field→Bool
 |_,[]=>true
 | i, f :: l => Nat.beq f.offset i && !decide (f.name = "_") && (match P.underlying f.type with
  |some (.int _) |some .bool |some .string=>yq P inner (i+1) l
  |some (.struct gs)=>inner f.type gs.toList&&yq P inner (i+P.cellsOf f.type) l
  |_=>false)
def sv(P:Program):Nat→List Field→Nat
 | 0,cx=>cx.length
 |d+1,cx=>(cx.map λf=>match P.underlying f.type with
  |some (.struct gs)=>sv P d gs.toList
  |_=>1).sum
def vH(P:Program):Nat→Nat→List Field→Bool
 | 0=>yq P λ_ _=>false
 |d+1=>yq P λt gs=>!P.stoodInHeld t&&Nat.beq (P.cellsOf t) (sv P d gs)&&vH P d 0 gs
def Nw(P:Program)(t:TypeId):Bool:=
 match P.underlying t with
 |some (.struct cx)=>!P.stoodInHeld t && !P.eqGuardType P.depth t&&vH P 4 0 cx.toList
 |_=>false
def VK(P:Program)(t:TypeId)(aS:eP):Bool:=
 match P.info? t,P.underlying t with
 |some i,some d=>decide (ly P d=some aS.k)&&Nat.beq i.size aS.size&&Nat.beq i.bytes aS.bytes&&Nat.beq aS.zero.length aS.size &&
  aS.jK.all (λx=>liesAt P P.depth t (aS.size / P.cellsOf t) x.1 x.2 1) &&
  (match i.zero with|some z=>vG z.cells.toList aS.zero&&(match z with|.agg _=>aS.k.isAgg|.tuple _=>false|_=>!aS.k.isAgg)|none=>false)
 |_,_=>false
def fD(P:Program)(tt:dI):Bool:=tt.all λx=>VK P x.1 x.2
def Nx{M:Mem}{v:Value}{x:V}(h:vF v x=true):df M v x∧v.oneCell'=true:=by
 unfold vF at h;split at h<;>simp at h
 ·obtain⟨rfl,rfl⟩:=h;exact⟨.int _ _,rfl⟩
 ·subst h;exact⟨.bool _,rfl⟩
 ·rename_i s l;subst h;exact⟨by exact .str s.data.toList,rfl⟩
 ·subst h;exact⟨.mh _ _,rfl⟩
 ·exact⟨.eC,rfl⟩
 ·exact⟨.iw,rfl⟩
 ·exact⟨.aV,rfl⟩
def yr{M:Mem}:∀{vs:List Value} {xs:List V},vG vs xs=true→vs.length=xs.length∧(∀v,v∈vs→v.oneCell'=true)∧∀(i:Nat) v x,vs[i]? = some v→xs[i]? = some x→df M v x∧vF v x=true
 |[],[],_=>by simp
 |[],_::_,h=>by simp [vG]at h
 |_::_,[],h=>by simp [vG]at h
 |v::vs,x::xs,h=>by
  simp [vG]at h;obtain⟨Z,ab,aj⟩:=yr (M:=M) h.2;refine⟨by simp [Z],?_,?_⟩
  ·intro u hu;rcases List.mem_cons.1 hu with rfl|hu
   ·exact(Nx (M:=M) h.1).2
   ·exact ab u hu
  ·intro i u y hu cg;cases i with
   |zero=>simp at hu cg;subst hu;subst cg;exact⟨(Nx h.1).1,h.1⟩
   |succ i=>simp at hu cg;exact aj i u y hu cg
structure Row(P:Program)(t:TypeId)(aS:eP) where
 info:TypeInfo
 desc:TypeDesc
 z:Value
 hi:P.info? t=some info
 hd:P.underlying t=some desc
 hk:ly P desc=some aS.k
 size:info.size=aS.size
 bytes:info.bytes=aS.bytes
 dx:info.zero=some z
 Ny:aS.zero.length=aS.size
 Cn:vG z.cells.toList aS.zero=true
 jK:(aS.jK.all λx=>liesAt P P.depth t (aS.size / P.cellsOf t) x.1 x.2 1)=true
 asJ:match z with|.agg _=>aS.k.isAgg=true|.tuple _=>False|_=>aS.k.isAgg=false
theorem eK{P:Program}{tt:dI}(h:fD P tt=true){t:TypeId}{aS:eP}(aF:look tt t=some aS):Nonempty (Row P t aS):=by
 have hm:=su aF;unfold fD at h;rw [List.all_eq_true]at h;have:=h _ hm
 unfold VK at this
 dsimp only at this
 split at this
 case h_2=>cases this
 rename_i i d hi hd;simp only [Bool.and_eq_true,decide_eq_true_eq,Nat.beq_eq]at this;obtain⟨⟨⟨⟨⟨Z,ab⟩,aj⟩,aC⟩,nu⟩,aT⟩:=this;split at aT
 case h_2=>cases aT
 rename_i z dx;simp only [Bool.and_eq_true]at aT
 exact⟨⟨i,d,z,hi,hd,Z,ab,aj,dx,aC,aT.1,nu,by
  have:=aT.2
  cases z<;>simp at this<;>simp [this]⟩⟩
def Row.cellsOf{P:Program}{t:TypeId}{aS:eP}(r:Row P t aS):P.cellsOf t=aS.size:=by
 simp [Program.cellsOf,r.hi,r.size]
section runs
variable {P:Program} {t:TypeId} {aS:eP} (w:World)
def Row.run_sizeOf(r:Row P t aS):(sizeOf t).run P w = .ok aS.size w:=by
 rw [Go.run_sizeOf w r.hi,r.cellsOf]
def Row.GI(r:Row P t aS):(zeroValue t).run P w = .ok r.z w:=by
 simp [zeroValue,typeInfo,r.hi,r.dx]
def Row.run_underlying(r:Row P t aS):(underlying t).run P w = .ok r.desc w:=Go.run_underlying r.hd w
def Row.yt(r:Row P t aS):(isAgg t).run P w = .ok aS.k.isAgg w:=by
 have hk:=r.hk;simp only [isAgg,Sem.run_bind,r.run_underlying,Result.andThen_ok];cases hd:r.desc<;>simp [hd,ly]at hk<;>simp [←hk,mg.isAgg]
end runs
def fO(tmps:Array Value)(p:Path):Prop:=∀x,x∈p→tmps.getD x.1 undef = .bool x.2
structure fY(P:Program)(K:Ctx)(N:Nat)(M:Mem)(β:Nat→Option Nat)(g:dm)(tmps:Array Value)(w:World):Prop where
 bA:bN P K M β {env:=g.env,H:=g.H,aW:=g.aW} tmps w
 size:tmps.size=N
 fresh:∀s id,look g.ids s=some id→look g.H id=none→∀b,β id≠some b
 cond:∀t q d,look g.b6 t=some (q,d)→(fO tmps q→cy M β (tmps.getD t undef) d)∧(¬ fO tmps q→tmps.getD t undef=undef)
def Path.aeJ{q p:Path}(h:q.sub p=true){tmps:Array Value}(hp:fO tmps p):fO tmps q:=by
 intro x hx;unfold Path.sub at h;rw [List.all_eq_true]at h;have:=h x hx
 unfold Path.has at this;rw [List.any_eq_true]at this;obtain⟨y,cg,p0⟩:=this;simp at p0
 have Z:=hp y cg;rw [←p0.1,←p0.2];exact Z
def aeK{M:Mem}{v:Value}{x:V}(h:Nb v=some x):df M v x:=by
 unfold Nb at h;split at h<;>simp at h<;>subst h
 ·exact .int _ _
 ·exact .bool _
 ·rename_i s;exact .str s.data.toList
 ·exact .eC
 ·exact .iw
 ·exact .aV
def ei{P:Program}{K:Ctx}{N:Nat}{M:Mem}{β:Nat→Option Nat}{g:dm}{tmps:Array Value}{w:World}(h:fY P K N M β g tmps w){p:Path}(hp:fO tmps p){tt:dI}{ty:TypeId}{x:Operand}{d:D}
 (hx:rd g.env g.b6 p tt ty x=some d) {ds:List Deferred}:cy M β ((⟨tmps,ds⟩:Act).eval x) d:=by
 cases x with
 |tmp t=>
  simp only [rd]at hx;split at hx
  ·rename_i q dD hc;rw [Bool.cond_eq_ite]at hx;split at hx<;>simp at hx
   subst hx;exact(h.cond t q dD hc).1 (Path.aeJ (by assumption) hp)
  ·simp only [Option.map_eq_some_iff]at hx;obtain⟨e,he,rfl⟩:=hx;exact h.bA.fw (.slot t) e he
 |const v=>
  simp only [rd]at hx;split at hx
  ·rename_i heq;cases heq
  ·rename_i heq;cases heq;split at hx
   ·cases hx;exact .v _ _ (.mh _ _)
   ·cases hx
  ·rename_i heq;cases heq;simp only [Option.map_eq_some_iff]at hx;obtain⟨y,cg,rfl⟩:=hx;exact .v _ _ (aeK cg)
  ·rename_i heq;cases heq
  ·rename_i heq;cases heq
 |global n=>simp [rd]at hx
 |func f=>
  simp [rd]at hx;subst hx;exact .fn f [] [] rfl (by simp)
def aeL{v:Value}(h:v.oneCell'=true):v.cells = #[v]:=by
 cases v<;>first|rfl|(simp [Value.oneCell']at h)
def cy.cells{M:Mem}{β:Nat→Option Nat}{v:Value}{d:D}(h:cy M β v d)(aF:sm d=false):
 v.cells.toList.length=(cellsD d).length∧(∀u,u∈v.cells.toList→u.oneCell'=true)∧∀(i:Nat) u c,v.cells.toList[i]? = some u→(cellsD d)[i]? = some c→cy M β u c:=by
 have single:∀{v:Value} {d:D},v.cells = #[v]→cellsD d=[d]→v.oneCell'=true→cy M β v d→
  v.cells.toList.length=(cellsD d).length∧(∀u,u∈v.cells.toList→u.oneCell'=true)∧∀(i:Nat) u c,v.cells.toList[i]? = some u→(cellsD d)[i]? = some c→cy M β u c:=by
  intro v d Z ab aj aC;rw [Z,ab];refine⟨rfl,by simpa using aj,λi u c hu hc=>?_⟩
  cases i with
  |zero=>simp at hu hc;subst hu;subst hc;exact aC
  |succ i=>simp at hu
 cases h with
 |v u x hx=>
  cases hx with
  |agg vs cs hn Z ai=>
   refine⟨by simp [Value.cells,cellsD,V.cells,hn],by simpa [Value.cells]using Z,λi u c hu hc=>?_⟩
   simp [Value.cells]at hu;simp [cellsD,V.cells]at hc;obtain⟨a,ha,rfl⟩:=hc;exact .v _ _ (ai i u a hu ha)
  |any v Z=>exact single (aeL Z) rfl Z (.v _ _ (.any _ Z))
  |_=>exact single rfl rfl rfl (.v _ _ (by constructor<;>assumption))
 |ptr r off b hb=>exact single rfl rfl rfl (.ptr r off b hb)
 |lY r off u=>exact single rfl rfl rfl (.lY r off u)
 |cu r off b u hb=>exact single rfl rfl rfl (.cu r off b u hb)
 |e7 b off x val cV Z ai=>exact single rfl rfl rfl (.e7 b off x val cV Z ai)
 |full b k n get h=>exact single rfl rfl rfl (.full b k n get h)
 |fn f vs cs hn ai=>exact single rfl rfl rfl (.fn f vs cs hn ai)
 |agg vs cs hn Z ai=>exact⟨hn,Z,ai⟩
 |cA vs cs hn ai=>simp [sm]at aF
def aeM{cs:List D}:∀{xs:List V},Cb cs=some xs→cs=xs.map .v:=by
 induction cs with
 |nil=>intro xs h;simp [Cb]at h;subst h;rfl
 |cons d l aG=>
  intro xs h;cases d<;>simp [Cb]at h
  obtain⟨ys,cg,rfl⟩:=h;simp [aG cg]
def GJ{M:Mem}{β:Nat→Option Nat}{vs:List Value}{cs:List D}(hn:vs.length=cs.length)(Z:∀v,v∈vs→v.oneCell'=true)
 (h:∀(i:Nat) v c,vs[i]? = some v→cs[i]? = some c→cy M β v c):cy M β (.agg ⟨vs⟩) (qX cs):=by
 unfold qX;split
 ·rename_i xs hx;have:=aeM hx
  subst this;refine .v _ _ (.agg vs xs (by simpa using hn) Z λi v c av hc=>?_)
  have:=h i v (.v c) av (by simp [hc])
  cases this;assumption
 ·exact .agg vs cs hn Z h
section
variable {P:Program} {K:Ctx} {N:Nat} {M:Mem} {β:Nat→Option Nat} {st:aM} {g:dm} {tmps:Array Value} {w:World} {v:Value}
def mm{k:IntKind}{n:Int}(h:cy M β v (.v (.int k n))):v = .int k n:=by
 cases h with|v u x h=>cases h;rfl
def om{x:V}(h:cy M β v (.v x)):df M v x:=by
 cases h with|v u x h=>exact h
def vI{b:Bool}(h:cy M β v (.v (.bool b))):v = .bool b:=by
 cases h with|v u x h=>cases h;rfl
def mZ{l:aux}(h:cy M β v (.v (.str l))):v = .string ⟨⟨l⟩⟩:=by
 cases h with|v u x h=>cases h;rfl
def sw{r off:Nat}(h:cy M β v (.ptr r off)):∃b,β r=some b∧v = .pointer (some ⟨b,off,none⟩):=by
 cases h with|ptr r off b h=>exact⟨b,h,rfl⟩
def Nz{t:TypeId}{x:V}(h:cy M β v (.v (.iface t x))):∃u,v = .iface t u∧df M u x:=by
 cases h with|v u x h=>cases h with|iface t u x h=>exact⟨u,rfl,h⟩
def aeN{cs:List V}(h:cy M β v (.v (.agg cs))):∃vs:List Value,v = .agg ⟨vs⟩∧vs.length=cs.length∧(∀u,u∈vs→u.oneCell'=true)∧∀(i:Nat) u c,vs[i]? = some u→cs[i]? = some c→df M u c:=by
 cases h with|v u x h=>cases h with|agg vs cs hn Z h=>exact⟨vs,rfl,hn,Z,h⟩
def aeO{cs:List D}(h:cy M β v (.cA cs)):∃vs:List Value,v = .tuple ⟨vs⟩∧vs.length=cs.length∧∀(i:Nat) u c,vs[i]? = some u→cs[i]? = some c→cy M β u c:=by
 cases h with|cA vs cs hn h=>exact⟨vs,rfl,hn,h⟩
def VL{f:FuncId}{cs:List D}(h:cy M β v (.fn f cs)):∃vs:List Value,v = .func (.func f) #[] ⟨vs⟩∧vs.length=cs.length∧∀(i:Nat) u c,vs[i]? = some u→cs[i]? = some c→cy M β u c:=by
 cases h with|fn f vs cs hn h=>exact⟨vs,rfl,hn,h⟩
def tT{k n:Nat}{get:Nat→V}(h:cy M β v (.v (.bI k n get))):((v = .slice none 0 0∨∃a,v = .slice (some a) 0 0)∧n=0)∨
 ∃(b off cap:Nat) (val:Nat→Nat→Value),v = .slice (some ⟨b,off,none⟩) n cap∧n≤cap∧(∀i,i<n→(get i).cells.length=k)∧(∀i j,i<n→j<k→M b (off+i*k+j)=some (val i j))∧
  (∀i j,i<n→j<k→(val i j).oneCell'=true)∧(∀(i j:Nat) c,i<n→(get i).cells[j]? = some c→df M (val i j) c):=by
 cases h with
 |v u x h=>
  cases h with
  |mh=>exact .inl ⟨.inl rfl,rfl⟩
  |pS a=>exact .inl ⟨.inr ⟨a,rfl⟩,rfl⟩
  |bI b off k n cap get val hc hk cV Z h=>exact .inr ⟨b,off,cap,val,rfl,hc,hk,cV,Z,h⟩
def GK{x:V}(h:cy M β v (.e7 x)):∃(b off:Nat) (val:Nat→Value),v = .pointer (some ⟨b,off,none⟩)∧(∀j,j<x.cells.length→M b (off+j)=some (val j))∧(∀j,j<x.cells.length→(val j).oneCell'=true)∧
 (∀(j:Nat) c,x.cells[j]? = some c→df M (val j) c):=by
 cases h with|e7 b off x val cV Z h=>exact⟨b,off,val,rfl,cV,Z,h⟩
def vJ{k n:Nat}{get:Nat→V}(h:cy M β v (.v (.bI k n get))):∃a cap,v = .slice a n cap∧n≤cap:=by
 rcases tT h with⟨rfl|⟨a,rfl⟩,rfl⟩|⟨b,off,cap,val,rfl,hc,_⟩
 ·exact⟨_,_,rfl,Nat.le_refl _⟩
 ·exact⟨_,_,rfl,Nat.le_refl _⟩
 ·exact⟨_,_,rfl,hc⟩
def addr_add(b off n:Nat):(⟨b,off,none⟩:Addr).add n=⟨b,off+n,none⟩:=by
 unfold Addr.add;split<;>simp_all
def yu{x:V}(hx:x.isAgg=false):x.cells=[x]:=by
 cases x<;>first|rfl|simp [V.isAgg]at hx
def VM{x:V}{val:Nat→Value}(Z:∀j,j<x.cells.length→(val j).oneCell'=true)(h:∀(j:Nat) c,x.cells[j]? = some c→df M (val j) c):
 df M (bif x.isAgg then .agg ⟨(List.range x.cells.length).map val⟩else val 0) x:=by
 cases hx:x.isAgg with
 |false=>
  have:=yu hx
  simpa using h 0 x (by simp [this])
 |true=>
  cases x<;>simp [V.isAgg]at hx
  rename_i cs;refine .agg _ cs (by simp [V.cells]) ?_ ?_
  ·intro u hu;obtain⟨j,hj,rfl⟩:=List.mem_map.1 hu;exact Z j (by simpa using hj)
  ·intro i u c hu hc;simp only [List.getElem?_map,Option.map_eq_some_iff]at hu;obtain⟨j,hj,rfl⟩:=hu
   have:j=i:=by
    rw [List.getElem?_eq_some_iff]at hj;obtain⟨_,h⟩:=hj;simpa using h.symm
   subst this;exact h j c hc
def aeP{t:TypeId}{aS:eP}(r:Row P t aS)(GE:∀b o v,M b o=some v→w.cell? ⟨b,o,none⟩=some v){x:V}(av:cy M β v (.e7 x))(hx:x.isAgg=aS.k.isAgg)(hs:x.cells.length=aS.size):
 ∃u,(Instr.loadAt t v).run P w = .ok u w∧df M u x:=by
 obtain⟨b,off,val,rfl,cV,Z,h⟩:=GK av;refine⟨_,?_,VM Z h⟩
 have aa:∀j,j<aS.size→w.cell? ((⟨b,off,none⟩:Addr).add j)=some (val j):=λj hj=>by rw [addr_add];exact GE _ _ _ (cV j (by omega))
 cases ha:x.isAgg with
 |true=>
  rw [ha]at hx;simp [Instr.loadAt,Instr.sureAddr,loadVar,r.yt,←hx,r.run_sizeOf,run_loadCells w ⟨b,off,none⟩ aS.size val aa,hs]
 |false=>
  rw [ha]at hx;have h0:=cV 0 (by rw [yu ha];simp)
  have:=GE _ _ _ h0
  simp [Instr.loadAt,Instr.sureAddr,loadVar,r.yt,←hx,run_load];simp at this
  rw [this]
def VN{t:TypeId}{aS:eP}(r:Row P t aS){b off:Nat}{vs:List Value}{T:TypeId}{f:Nat×Nat}(bn:w.heap[b]? = some (.cells ⟨vs⟩ T f))(hle:off+aS.size≤vs.length)(ha:aS.k.isAgg=true):
 (Instr.loadAt t (.pointer (some ⟨b,off,none⟩))).run P w = .ok (.agg ⟨(vs.drop off).take aS.size⟩) w:=by
 have hlen:((vs.drop off).take aS.size).length=aS.size:=by simp;omega
 have:=run_loadCells_list (P:=P) w ⟨b,off,none⟩ ((vs.drop off).take aS.size) (λj u hj=>by
  rw [addr_add,cell_of_heap bn];rw [List.getElem?_take]at hj;split at hj
  ·simpa using hj
  ·cases hj)
 rw [hlen]at this;simp [Instr.loadAt,Instr.sureAddr,loadVar,r.yt,ha,r.run_sizeOf,this]
def NA{t:TypeId}{aS:eP}(r:Row P t aS){b off:Nat}{u:Value}(hc:w.cell? ⟨b,off,none⟩=some u)(ha:aS.k.isAgg=false):
 (Instr.loadAt t (.pointer (some ⟨b,off,none⟩))).run P w = .ok u w:=by
 simp [Instr.loadAt,Instr.sureAddr,loadVar,r.yt,ha,run_load,hc]
def NB{t:TypeId}{aS:eP}(r:Row P t aS){cx:List (Nat×TypeId×Nat)}(hk:aS.k = .cb cx):∃gs:Array Field,r.desc = .struct gs∧cx=gs.toList.map λf=>(f.offset,f.type,P.cellsOf f.type):=by
 have:=r.hk
 rw [hk]at this;cases hd:r.desc<;>simp [hd,ly]at this
 exact⟨_,rfl,this.symm⟩
def p1{t:TypeId}{aS:eP}(r:Row P t aS){e:TypeId}(hk:aS.k = .bI e):r.desc = .slice e:=by
 have:=r.hk
 rw [hk]at this;cases hd:r.desc<;>simp [hd,ly]at this
 rw [this]
def q4{t:TypeId}{aS:eP}(r:Row P t aS)(hk:aS.k = .str):r.desc = .string:=by
 have:=r.hk
 rw [hk]at this;cases hd:r.desc<;>simp [hd,ly]at this;rfl
def Co{t:TypeId}{aS:eP}(r:Row P t aS){k:IntKind}(hk:aS.k = .int k):r.desc = .int k:=by
 have:=r.hk
 rw [hk]at this;cases hd:r.desc<;>simp [hd,ly]at this
 rw [this]
def aeQ{t:TypeId}{aS:eP}(r:Row P t aS){n:Nat}{e:TypeId}(hk:aS.k = .arr n e):r.desc = .array n e:=by
 have:=r.hk
 rw [hk]at this;cases hd:r.desc<;>simp [hd,ly]at this
 rw [this.1,this.2]
def VO{s:TypeId}{aS:eP}(r:Row P s aS){cx:List (Nat×TypeId×Nat)}(hk:aS.k = .cb cx){f dM h8 fW:Nat}(aY:cx[f]? = some (dM,h8,fW))(ev:1≤fW)(b off:Nat):
 (Instr.fieldAt s (.pointer (some ⟨b,off,none⟩)) f).run P w = .ok (.pointer (some ⟨b,off+dM,none⟩)) w:=by
 obtain⟨gs,hd,rfl⟩:=NB r hk;simp only [List.getElem?_map,Option.map_eq_some_iff]at aY;obtain⟨fd,kf,he⟩:=aY;simp only [Prod.mk.injEq]at he;obtain⟨rfl,rfl,rfl⟩:=he;have GL:gs[f]? = some fd:=by simpa using kf
 have hs:(sizeOf fd.type).run P w = .ok (P.cellsOf fd.type) w:=by
  cases hi:P.info? fd.type with
  |none=>simp [Program.cellsOf,hi]at ev
  |some i=>exact Go.run_sizeOf w hi
 have di:P.cellsOf fd.type≠0:=by omega
 simp [Instr.fieldAt,r.run_underlying,hd,GL,Instr.sureAddr,fieldPlace,hs,di,addr_add]
def VP{s:TypeId}{aS:eP}(r:Row P s aS){cx:List (Nat×TypeId×Nat)}(hk:aS.k = .cb cx){f dM h8 fW:Nat}(aY:cx[f]? = some (dM,h8,fW)){yv:eP}(r2:Row P h8 yv)(vs:List Value)(hle:dM+fW≤vs.length):
 (yv.k.isAgg=true→(Instr.field s (.agg ⟨vs⟩) f).run P w = .ok (.agg ⟨(vs.drop dM).take fW⟩) w)∧
 (yv.k.isAgg=false→∀u,vs[dM]? = some u→(Instr.field s (.agg ⟨vs⟩) f).run P w = .ok u w):=by
 obtain⟨gs,hd,rfl⟩:=NB r hk;simp only [List.getElem?_map,Option.map_eq_some_iff]at aY;obtain⟨fd,kf,he⟩:=aY;simp only [Prod.mk.injEq]at he;obtain⟨rfl,rfl,rfl⟩:=he;have GL:gs[f]? = some fd:=by simpa using kf
 have ev:=r2.cellsOf;refine⟨λha=>?_,λha u hu=>?_⟩
 ·simp [Instr.field,r.run_underlying,hd,GL,asAgg,part,r2.yt,ha,r2.run_sizeOf,ev,List.extract_eq_take_drop]
 ·simp [Instr.field,r.run_underlying,hd,GL,asAgg,part,r2.yt,ha,hu]
def aeR{t:TypeId}{aS:eP}(r:Row P t aS){e:TypeId}(hk:aS.k = .bI e){ci:eP}(dQ:Row P e ci){k:IntKind}{j:Int}{b off n cap:Nat}(h0:0≤j)(Z:j<n):
 (Instr.indexAt t (.slice (some ⟨b,off,none⟩) n cap) (.int k j)).run P w = .ok (.pointer (some ⟨b,off+j.toNat*ci.size,none⟩)) w:=by
 simp [Instr.indexAt,asIntOf,r.run_underlying,p1 r hk,h0,Z,dQ.run_sizeOf,addr_add]
def aeS{t:TypeId}{aS:eP}(r:Row P t aS)(hk:aS.k = .str){k:IntKind}{j:Int}{l:aux}(h0:0≤j)(Z:j<l.length):
 (Instr.index t (.string ⟨⟨l⟩⟩) (.int k j)).run P w = .ok (.int .u8 (l.getD j.toNat 0).toNat) w:=by
 have cZ:j.toNat<l.length:=by omega
 have aeT:j.toNat<(ByteArray.mk ⟨l⟩).size:=cZ;have hs:(ByteArray.mk ⟨l⟩)[j.toNat]? = some l[j.toNat]:=by rw [getElem?_pos (ByteArray.mk ⟨l⟩) j.toNat aeT];rfl
 simp [Instr.index,asIntOf,r.run_underlying,q4 r hk,h0,hs,List.getElem?_eq_getElem cZ]
def GM(l:aux):(⟨⟨l⟩⟩:ByteArray).toList=l:=by
 rw [ByteArray.toList_eq]
end
section
variable {P:Program} {K:Ctx} {N:Nat} {M:Mem} {β:Nat→Option Nat} {g:dm} {tmps:Array Value} {w:World} {o:Oper} {f:lp} {p:Path} {tt:dI} {cf:gE} {ops:List Oper}
def after(g:dm)(f:lp):aM:={env:=hE f.hM g.env,H:=f.hs++g.H,aW:=g.aW+f.eS}
def iW(P:Program)(K:Ctx)(M:Mem)(β:Nat→Option Nat)(g:dm)(f:lp)(tmps:Array Value)(v:Value)(w':World):Prop:=
 ∃M' β',M.le M'∧(∀r b,β r=some b→β' r=some b)∧(∀r b,β' r=some b→β r=some b∨(look f.hs r).isSome=true)∧bN P K M' β' (after g f) tmps w'∧
  ∀e,f.e=some e→cy M' β' v e.d∧∀T l0,e.own=some T→nt P K M' β' (after g f) tmps w' l0 v T
def Yields(P:Program)(K:Ctx)(M:Mem)(β:Nat→Option Nat)(g:dm)(f:lp)(o:Oper)(tmps:Array Value)(w:World):Prop:=
 (∃v w',(execOp (Act.eval ⟨tmps,[]⟩) o).run P w = .ok (.value v) w'∧iW P K M β g f tmps v w')∨
 (f.e=none∧∃w',(execOp (Act.eval ⟨tmps,[]⟩) o).run P w = .ok .skip w'∧iW P K M β g f tmps undef w')∨
 (∃fn vs,(execOp (Act.eval ⟨tmps,[]⟩) o).run P w = .ok (.enter fn vs) w∧Calls P fn vs w λe w'=>∃v,e = .returned v∧iW P K M β g f tmps v w')
def fb(h:fY P K N M β g tmps w){v:Value}{d:D}(ai:(execOp (Act.eval ⟨tmps,[]⟩) o).run P w = .ok (.value v) w)(hd:cy M β v d){rs:List fv}{a6:List Prop}:
 Yields P K M β g {e:=some {d},rs,a6} o tmps w:=
 .inl ⟨v,w,ai,M,β,Mem.le_refl _,λ_ _ h=>h,λ_ _ h=>.inl h,h.bA,λe he=>by cases he;exact⟨hd,by simp⟩⟩
def jB(x:Sem Value){v:Value}{w':World}(h:x.run P w = .ok v w'):(do pure (.value (←x)):Sem Next).run P w = .ok (.value v) w':=by
 simp [h]
def GN(h:fY P K N M β g tmps w)(hp:fO tmps p){x:Operand}(aw:o.op = .move x∨o.op = .assign x){d:D}(hx:rd g.env g.b6 p tt o.type x=some d):
 Yields P K M β g {e:=some {d},rs:=g.rs} o tmps w:=
 fb h (v:=(⟨tmps,[]⟩:Act).eval x) (by rcases aw with aw|aw<;>simp [execOp,aw]) (ei h hp hx)
def VQ(h:fY P K N M β g tmps w)(hp:fO tmps p){t:Nat}(aw:o.op = .move (.tmp t)∨o.op = .assign (.tmp t)){d:D}(hx:rd g.env g.b6 p tt o.type (.tmp t)=some d)
 {s:TypeId} (hs:pU g (.tmp t)=some s) {rs:List fv}:Yields P K M β g {e:=some {d,own:=some s},hM:=[t],rs} o tmps w:=by
 refine .inl ⟨(⟨tmps,[]⟩:Act).eval (.tmp t),w,by rcases aw with aw|aw<;>simp [execOp,aw],M,β,Mem.le_refl _,λ_ _ h=>h,λ_ _ h=>.inl h,?_,λe he=>?_⟩
 ·have:=h.bA.hM [t];exact this
 ·cases he;refine⟨ei h hp hx,λT l0 aH=>?_⟩
  cases aH;simp only [pU,Option.bind_eq_some_iff]at hs;obtain⟨e,he,hs⟩:=hs;exact h.bA.hand he hs l0
def aeU(h:fY P K N M β g tmps w)(hp:fO tmps p)(aw:o.op = .assign (.const (.slice none 0 0))){d:D}(hx:rd g.env g.b6 p tt o.type (.const (.slice none 0 0))=some d)(s:TypeId):
 Yields P K M β g {e:=some {d,own:=some s},rs:=g.rs} o tmps w:=by
 refine .inl ⟨.slice none 0 0,w,by simp [execOp,aw,Act.eval],M,β,Mem.le_refl _,λ_ _ h=>h,λ_ _ h=>.inl h,h.bA,λe he=>?_⟩
 cases he;exact⟨ei (ds:=[]) h hp hx,λT l0 _=>Nt l0 T⟩
def aeV(h:fY P K N M β g tmps w)(hp:fO tmps p){c:Nat}{a b:Operand}(aw:o.op = .pick (.tmp c) a b){tO Cf vz:Bool}(hc:rd g.env g.b6 p tt o.type (.tmp c)=some (.v (.bool tO)))
 (ha:rd g.env g.b6 ((c,true)::p) tt o.type a=some (.v (.bool Cf))) (hb:rd g.env g.b6 ((c,false)::p) tt o.type b=some (.v (.bool vz))):
 Yields P K M β g {e:=some {d:=.v (.bool (bif tO then Cf else vz))},rs:=g.rs} o tmps w:=by
 have ke:(⟨tmps,[]⟩:Act).eval (.tmp c) = .bool tO:=vI (ei h hp hc);have VR:tmps.getD c undef = .bool tO:=ke;cases tO with
 |true=>
  refine fb h (v:=(⟨tmps,[]⟩:Act).eval a) (by simp [execOp,aw,ke,asBool]) ?_
  exact ei h (p:=(c,true)::p) (λx hx=>by rcases List.mem_cons.1 hx with rfl|hx;exact VR;exact hp x hx) ha
 |false=>
  refine fb h (v:=(⟨tmps,[]⟩:Act).eval b) (by simp [execOp,aw,ke,asBool]) ?_
  exact ei h (p:=(c,false)::p) (λx hx=>by rcases List.mem_cons.1 hx with rfl|hx;exact VR;exact hp x hx) hb
def bN.NC{st:aM}(h:bN P K M β st tmps w)(o:Nat):M w.heap.size o=none:=by
 cases hm:M w.heap.size o with
 |none=>rfl
 |some v=>have:=lt_of_cell (h.mem _ _ _ hm);omega
def VS(h:fY P K N M β g tmps w){vs:List Value}{T:TypeId}{cs:List a7}(hlen:vs.length=cs.length)(ji:∀v,v∈vs→v.oneCell'=true)(hlies:lu P T vs.length cs)
 (av:∀(i:Nat) v e,vs[i]? = some v→cs[i]? = some e→cy M β v e.d∧∀T,e.own=some T→v = .slice none 0 0)
 (ai:(execOp (Act.eval ⟨tmps,[]⟩) o).run P w = .ok (.value (.pointer (some ⟨w.heap.size,0,none⟩))) {w with heap:=w.heap.push (.cells ⟨vs⟩ T (0,0))}) {id eS:Nat} (hid:og g o=some (id,eS)):
 Yields P K M β g {e:=some {d:=.ptr id 0},hs:=[(id,cs)],eS,rs:=g.rs} o tmps w:=by
 have aY:(∀b,β id≠some b)∧id<g.aW+eS:=by
  unfold og at hid;split at hid
  ·rename_i asK aa;rw [Bool.cond_eq_ite]at hid;split at hid<;>cases hid
   rename_i hc;simp only [Bool.and_eq_true,Option.isNone_iff_eq_none,Nat.blt_eq]at hc;rw [Option.bind_eq_some_iff]at aa;obtain⟨s,_,aa⟩:=aa;exact⟨h.fresh s _ aa hc.1,by omega⟩
  ·cases hid;exact⟨λb hb=>by have:=h.bA.lt _ b hb;simp at this,by omega⟩
 refine .inl ⟨_,_,ai,M,_,Mem.le_refl _,?_,?_,h.bA.aeB (n':=g.aW+eS) aY.1 aY.2 (by simp) (T:=T) hlen ji hlies av,λe he=>?_⟩
 ·intro r b hb;have di:r≠id:=λe=>aY.1 b (e ▸ hb)
  simp [di,hb]
 ·intro r b hb;by_cases di:r=id
  ·exact .inr (by simp [dZ,di])
  ·simp [di]at hb;exact .inl hb
 ·cases he;exact⟨.ptr _ _ _ (by simp),by simp⟩
def VT{α:Type}:∀(l:List α) (n i:Nat),(cS n l)[i]? = (l[i]?).map (n+i,·)
 |[],n,i=>by simp [cS]
 |x::l,n,0=>by simp [cS]
 |x::l,n,i+1=>by simp [cS,VT l (n+1) i];congr 1;funext;congr 1;omega
def VU{α:Type}:∀(l:List α) (n:Nat),(cS n l).length=l.length
 |[],n=>rfl
 |x::l,n=>by simp [cS,VU l (n+1)]
def VV{x:V}{t:Option TypeId}{T:TypeId}(h:Gz x t=some T):∃k n get,x = .bI k n get:=by
 cases x<;>simp [Gz]at h;exact⟨_,_,_,rfl⟩
def VW(jK:List (Nat×TypeId))(id i:Nat)(x:V):Cd jK id i x = .v x∨(x = .eC∧∃u,Cd jK id i x = .cu id i u∧(i,u)∈jK):=by
 unfold Cd;split
 ·split
  ·rename_i y cg;right
   have Z:=List.find?_some cg;have ab:=List.mem_of_find?_eq_some cg;obtain⟨j,u⟩:=y;obtain rfl:j=i:=by simpa using Z
   exact⟨rfl,u,rfl,ab⟩
  ·exact .inl rfl
 ·exact .inl rfl
def aeW{t:TypeId}{id:Nat}{z:List a7}(h:GA tt t id=some z):∃aS,look tt t=some aS∧z.length=aS.zero.length∧
 ∀(i:Nat) e,z[i]? = some e→∃x,aS.zero[i]? = some x∧(e.d = .v x∨(x = .eC∧∃u,e.d = .cu id i u∧(i,u)∈aS.jK))∧∀T,e.own=some T→∃k n get,x = .bI k n get:=by
 unfold GA at h;split at h<;>simp at h
 ·rename_i e fW kz zero kZ aa;subst h;refine⟨_,aa,by simp,λi bg he=>?_⟩
  simp only [List.getElem?_map,Option.map_eq_some_iff]at he;obtain⟨x,hx,rfl⟩:=he;exact⟨x,hx,.inl rfl,λT aH=>VV aH⟩
 ·rename_i cx fW kz zero kZ aa;subst h;refine⟨_,aa,by simp [VU],λi bg he=>?_⟩
  simp only [List.getElem?_map,Option.map_eq_some_iff,VT]at he;obtain⟨_,⟨x,hx,rfl⟩,rfl⟩:=he;simp only [Nat.zero_add];exact⟨x,hx,VW kZ id i x,λT aH=>VV aH⟩
 ·rename_i k fW kz zero kZ _ _ aa;subst h;refine⟨_,aa,by simp,λi bg he=>?_⟩
  simp only [List.getElem?_map,Option.map_eq_some_iff]at he;obtain⟨x,hx,rfl⟩:=he;exact⟨x,hx,.inl rfl,by simp⟩
def aeX(h:fY P K N M β g tmps w)(cz:fD P tt=true){t:TypeId}(aw:o.op = .alloc t){z:List a7}{id eS:Nat}(dx:GA tt t id=some z)(hid:og g o=some (id,eS)):
 Yields P K M β g {e:=some {d:=.ptr id 0},hs:=[(id,z)],eS,rs:=g.rs} o tmps w:=by
 obtain⟨aS,aa,hlen,VX⟩:=aeW dx;obtain⟨r⟩:=eK cz aa;obtain⟨Z,ab,aj⟩:=yr (M:=M) r.Cn;refine VS h (vs:=r.z.cells.toList) (T:=t) (by omega) ab (λe he q off u hd=>?_) (λi v e av he=>?_) ?_ hid
 ·obtain⟨i,hi,rfl⟩:=List.getElem_of_mem he;obtain⟨x,hx,jj,_⟩:=VX i z[i] (List.getElem?_eq_getElem hi);rcases jj with jj|⟨_,asL,jj,hm⟩
  ·rw [jj]at hd;cases hd
  ·rw [jj]at hd;cases hd;have:=List.all_eq_true.1 r.jK _ hm
   have ev:=r.Ny;rw [show r.z.cells.toList.length=aS.size by omega]
   exact this
 ·obtain⟨x,hx,hd,gk⟩:=VX i e he;obtain⟨aC,aT⟩:=aj i v x av hx
  refine⟨by
   rcases hd with hd|⟨rfl,u,hd,_⟩
   ·rw [hd];exact .v _ _ aC
   ·rw [hd];cases aC;exact .lY _ _ _,λT aH=>?_⟩
  obtain⟨k,n,get,rfl⟩:=gk T aH;unfold vF at aT;split at aT<;>simp_all
 ·simp [execOp,aw,Instr.alloc,r.GI,newVar,newRow]
def ND(tt:dI)(aS:eP)(id:Nat):∀(l:List D) (i j:Nat),(q0 tt aS id i l)[j]? = (l[j]?).map (yj tt aS id (i+j))
 |[],i,j=>by simp [q0]
 |d::l,i,0=>by simp [q0]
 |d::l,i,j+1=>by
  simp only [q0,List.getElem?_cons_succ];rw [ND tt aS id l (i+1) j,show i+1+j=i+(j+1)by omega]
def NE(tt:dI)(aS:eP)(id:Nat):∀(l:List D) (i:Nat),(q0 tt aS id i l).length=l.length
 |[],i=>rfl
 |d::l,i=>by simp only [q0,List.length_cons,NE tt aS id l (i+1)]
def VY{M:Mem}{β:Nat→Option Nat}(tt:dI)(aS:eP)(id i:Nat)(d:D)(tU:∀r o u,d ≠ .cu r o u){v:Value}(h:cy M β v d):
 cy M β v (yj tt aS id i d).d∧(∀T,(yj tt aS id i d).own=some T→v = .slice none 0 0)∧∀r o u,(yj tt aS id i d).d = .cu r o u→(o,u)∈aS.jK:=by
 unfold yj;split
 ·rcases VW aS.jK id i .eC with Z|⟨_,u,Z,ab⟩
  ·simp only [Z];exact⟨h,(λT aH=>by cases aH),(λr o u e=>by cases e)⟩
  ·simp only [Z]
   cases h with|v u x hx=>cases hx with
    |eC=>exact⟨.lY _ _ _,(λT aH=>by cases aH),(λr o u e=>by cases e;exact ab)⟩
 ·split
  ·cases h with|v u x hx=>cases hx with
    |oZ=>exact⟨.v _ _ (.mh _ _),λ_ _=>rfl,λr o u e=>by cases e⟩
  ·exact⟨h,(λT aH=>by cases aH),(λr o u e=>by cases e)⟩
 ·exact⟨h,(λT aH=>by cases aH),λr o u e=>absurd e (tU r o u)⟩
def aeY(h:fY P K N M β g tmps w)(hp:fO tmps p){t:TypeId}{x:Operand}(aw:o.op = .box t x){d:D}(hx:rd g.env g.b6 p tt o.type x=some d)(aF:sm d=false)(tU:tN (cellsD d)=true)(cz:fD P tt=true){aS:eP}(aa:look tt t=some aS)(ev:(cellsD d).length=aS.size){id eS:Nat}(hid:og g o=some (id,eS)):
 Yields P K M β g {e:=some {d:=.ptr id 0},hs:=[(id,q0 tt aS id 0 (cellsD d))],eS,rs:=g.rs} o tmps w:=by
 obtain⟨r⟩:=eK cz aa;obtain⟨Z,ab,aj⟩:=(ei (ds:=[]) h hp hx).cells aF;refine VS h (vs:=((⟨tmps,[]⟩:Act).eval x).cells.toList) (T:=t) (by rw [NE];simpa using Z) ab (λe he q off u hd=>?_) (λi v e av he=>?_) ?_ hid
 ·obtain⟨i,hi,rfl⟩:=List.getElem_of_mem he;have hg:(q0 tt aS id 0 (cellsD d))[i]? = some _:=List.getElem?_eq_getElem hi;rw [ND,Option.map_eq_some_iff]at hg;obtain⟨c,hc,NF⟩:=hg;rw [←NF]at hd;have NG:i<((⟨tmps,[]⟩:Act).eval x).cells.toList.length:=by rw [NE]at hi;omega
  have:=(VY tt aS id (0+i) c (GC tU c (List.mem_of_getElem? hc)) (aj i _ c (List.getElem?_eq_getElem NG) hc)).2.2 q off u hd
  have hb:=List.all_eq_true.1 r.jK _ this;rw [Z,ev];exact hb
 ·rw [ND,Option.map_eq_some_iff]at he;obtain⟨c,hc,rfl⟩:=he;obtain⟨g1,g2,_⟩:=VY tt aS id (0+i) c (GC tU c (List.mem_of_getElem? hc)) (aj i v c av hc);exact⟨g1,g2⟩
 ·simp [execOp,aw,Instr.box,newVar,newRow]
end
def sx{α:Type}:∀(cs:List α) (off:Nat) (xs:List α),off+xs.length≤cs.length→(setAt cs off xs).length=cs.length∧∀(i:Nat),(setAt cs off xs)[i]? = if off≤i∧i<off+xs.length then xs[i-off]? else cs[i]?
 |[],0,[],_=>by simp [setAt]
 |[],0,x::xs,h=>by simp at h
 |[],n+1,xs,h=>by simp at h
 |c::cs,0,[],_=>by
  refine⟨by simp [setAt],λi=>?_⟩
  simp only [setAt,List.length_nil];rw [if_neg (by omega)]
 |c::cs,0,x::xs,h=>by
  obtain⟨Z,ab⟩:=sx cs 0 xs (by simp at h ⊢;omega)
  refine⟨by simp [setAt,Z],λi=>?_⟩
  cases i with
  |zero=>simp [setAt]
  |succ i=>
   simp only [setAt,List.getElem?_cons_succ,ab i,Nat.zero_add,List.length_cons];by_cases hi:i<xs.length<;>simp [hi]
 |c::cs,n+1,xs,h=>by
  obtain⟨Z,ab⟩:=sx cs n xs (by simp at h ⊢;omega)
  refine⟨by simp [setAt,Z],λi=>?_⟩
  cases i with
  |zero=>simp [setAt]
  |succ i=>
   simp only [setAt,List.getElem?_cons_succ,ab i];by_cases hi:n≤i∧i<n+xs.length
   ·rw [if_pos hi,if_pos (by omega)];congr 1;omega
   ·rw [if_neg hi,if_neg (by omega)]
def NH(off:Nat):∀(l:List Value) (k:Nat) (cs:Array Value),off+k+l.length≤cs.size→
 ((l.zipIdx k).foldl (λcs (x:Value×Nat)=>cs.setIfInBounds (off+x.2) x.1) cs).size=cs.size∧
 ∀(i:Nat),((l.zipIdx k).foldl (λcs (x:Value×Nat)=>cs.setIfInBounds (off+x.2) x.1) cs)[i]? = if off+k≤i∧i<off+k+l.length then l[i-(off+k)]? else cs[i]?
 |[],k,cs,h=>by
  refine⟨rfl,λi=>?_⟩
  simp only [List.zipIdx_nil,List.foldl_nil,List.length_nil];rw [if_neg (by omega)]
 |x::l,k,cs,h=>by
  obtain⟨Z,ab⟩:=NH off l (k+1) (cs.setIfInBounds (off+k) x) (by simp at h ⊢;omega)
  simp only [List.zipIdx_cons,List.foldl_cons];refine⟨by simpa using Z,λi=>?_⟩
  rw [ab i];simp only [List.length_cons]at h ⊢;by_cases aj:off+(k+1)≤i∧i<off+(k+1)+l.length
  ·rw [if_pos aj,if_pos (by omega)]
   obtain⟨j,rfl⟩:∃j,i=off+k+1+j:=⟨i-(off+k+1),by omega⟩
   rw [show off+k+1+j-(off+(k+1))=j by omega,show off+k+1+j-(off+k)=j+1 by omega]
   simp
  ·rw [if_neg aj];by_cases aC:i=off+k
   ·subst aC;rw [if_pos (by omega)]
    have:off+k<cs.size:=by omega
    simp [this]
   ·rw [if_neg (by omega)]
    rw [Array.getElem?_setIfInBounds_ne (Ne.symm aC)]
section
variable {P:Program} {K:Ctx} {N:Nat} {M:Mem} {β:Nat→Option Nat} {g:dm} {tmps:Array Value} {w:World} {o:Oper} {f:lp} {p:Path} {tt:dI} {cf:gE} {ops:List Oper}
structure Cells(M:Mem)(β:Nat→Option Nat)(vs:List Value)(cs:List D):Prop where
 len:vs.length=cs.length
 one:∀v,v∈vs→v.oneCell'=true
 rep:∀(i:Nat) v c,vs[i]? = some v→cs[i]? = some c→cy M β v c
def GO{vs:List Value}(h:∀v,v∈vs→v.oneCell'=true){i:Nat}{v:Value}(hi:vs[i]? = some v):v.oneCell'=true:=h v (List.mem_of_getElem? hi)
def VZ{vs:List Value}(h:∀(i:Nat) v,vs[i]? = some v→v.oneCell'=true):∀v,v∈vs→v.oneCell'=true:=λv av=>by
 obtain⟨i,hi⟩:=List.getElem?_of_mem av;exact h i v hi
def Cells.set{vs:List Value}{cs:List D}(h:Cells M β vs cs){ws:List Value}{ds:List D}(cO:Cells M β ws ds){off:Nat}(hle:off+ds.length≤cs.length){vs':List Value}(hlen:vs'.length=vs.length)
 (iX:∀(i:Nat),vs'[i]? = if off≤i∧i<off+ws.length then ws[i-off]? else vs[i]?):Cells M β vs' (setAt cs off ds):=by
 obtain⟨Z,ab⟩:=sx cs off ds hle;refine⟨by rw [hlen,Z,h.len],VZ λi v av=>?_,λi v c av hc=>?_⟩
 ·rw [iX i]at av;split at av
  ·exact GO cO.one av
  ·exact GO h.one av
 ·rw [iX i]at av;rw [ab i]at hc;by_cases hi:off≤i∧i<off+ds.length
  ·rw [if_pos hi]at hc;rw [if_pos (by rw [cO.len];exact hi)]at av
   exact cO.rep _ v c av hc
  ·rw [if_neg hi]at hc;rw [if_neg (by rw [cO.len];exact hi)]at av
   exact h.rep _ v c av hc
def NI{place:Nat→Option (Nat×Nat)}:∀{b8:List (Nat×D)} {vs:List (Nat×Value)} {cs cs':List D} {cells:Array Value},vs.length=b8.length→
 (∀(i:Nat) a b,b8[i]? = some a→vs[i]? = some b→a.1=b.1∧cy M β b.2 a.2)→Cells M β cells.toList cs→sn place cs b8=some cs'→
 ∃jN,Instr.fill place cells vs=some jN∧Cells M β jN.toList cs'
 |[],[],cs,cs',cells,_,_,hc,h=>by simp [sn]at h;subst h;exact⟨cells,rfl,hc⟩
 |[],_::_,_,_,_,h,_,_,_=>by simp at h
 |_::_,[],_,_,_,h,_,_,_=>by simp at h
 |(i,d)::b8,(j,v)::vs,cs,cs',cells,hn,ai,hc,h=>by
  obtain⟨V0,hd⟩:=ai 0 (i,d) (j,v) (by simp) (by simp)
  simp only at V0 hd
  subst V0;simp only [sn]at h;split at h
  ·cases h
  ·rename_i off size oo;rw [Bool.cond_eq_ite]at h;split at h
   case isFalse=>cases h
   rename_i hb;simp only [Bool.and_eq_true,Nat.beq_eq,Nat.ble_eq,Bool.not_eq_true']at hb;obtain⟨⟨dc,fC⟩,NJ⟩:=hb;obtain⟨Z,ab,aj⟩:=hd.cells NJ;have ev:cells.size=cs.length:=by simpa using hc.len
   have eu:v.cells.size=size:=by simpa [dc]using Z
   have aY:=NH off v.cells.toList 0 cells (by simp [eu];omega)
   have NK:v.cells.zipIdx.foldl (λcs (x:Value×Nat)=>cs.setIfInBounds (off+x.2) x.1) cells=(v.cells.toList.zipIdx 0).foldl (λcs (x:Value×Nat)=>cs.setIfInBounds (off+x.2) x.1) cells:=by
    rw [←Array.foldl_toList,Array.toList_zipIdx]
   have ke:Cells M β (v.cells.zipIdx.foldl (λcs (x:Value×Nat)=>cs.setIfInBounds (off+x.2) x.1) cells).toList (setAt cs off (cellsD d)):=by
    rw [NK];refine hc.set ⟨Z,ab,aj⟩ (by omega) (by simpa using aY.1) (λk=>?_)
    have:=aY.2 k
    simp only [Nat.add_zero]at this;rw [Array.getElem?_toList,this];simp only [Array.getElem?_toList]
   obtain⟨jN,Cp,p2⟩:=NI (place:=place) (by simpa using hn) (λk a b ha hb=>ai (k+1) a b (by simpa using ha) (by simpa using hb)) ke h
   refine⟨jN,?_,p2⟩
   simp only [Instr.fill,oo];rw [if_neg (by simp;omega)]
   exact Cp
def tV{α dG:Type}{f:α→Option dG}:∀{l:List α} {cI:List dG},mapM' f l=some cI→cI.length=l.length∧∀(i:Nat) a b,l[i]? = some a→cI[i]? = some b→f a=some b
 |[],cI,h=>by simp [mapM']at h;subst h;simp
 |x::l,cI,h=>by
  simp only [mapM']at h;split at h<;>simp at h
  rename_i y ys cg aeZ;subst h;obtain⟨Z,ab⟩:=tV aeZ;refine⟨by simp [Z],λi a b ha hb=>?_⟩
  cases i with
  |zero=>simp at ha hb;subst ha;subst hb;exact cg
  |succ i=>simp at ha hb;exact ab i a b ha hb
def Row.V1{t:TypeId}{aS:eP}(r:Row P t aS):Cells M β r.z.cells.toList (aS.zero.map .v):=by
 obtain⟨Z,ab,aj⟩:=yr (M:=M) r.Cn;refine⟨by simpa using Z,ab,λi v c av hc=>?_⟩
 simp only [List.getElem?_map,Option.map_eq_some_iff]at hc;obtain⟨x,hx,rfl⟩:=hc;exact .v _ _ (aj i v x av hx).1
def ae0{M:Mem}{v:Value}{x:V}(h:vF v x=true):df M v (Ni x):=by
 have h0:=(Nx (M:=M) h).1;unfold vF at h;split at h<;>first|exact h0|skip
 ·rename_i k n g;have:n=0:=by simpa using h
  subst this;exact .oZ _ _
 ·cases h
def Row.ae1{t:TypeId}{aS:eP}(r:Row P t aS):Cells M β r.z.cells.toList (aS.zero.map λx=>.v (Ni x)):=by
 obtain⟨Z,ab,aj⟩:=yr (M:=M) r.Cn;refine⟨by simpa using Z,ab,λi v c av hc=>?_⟩
 simp only [List.getElem?_map,Option.map_eq_some_iff]at hc;obtain⟨x,hx,rfl⟩:=hc;exact .v _ _ (ae0 (aj i v x av hx).2)
def NL(h:fY P K N M β g tmps w)(hp:fO tmps p){ty:Nat→TypeId}{parts:Array (Nat×Operand)}{b8:List (Nat×D)}(mn:mapM' (fun(x:Nat×Operand)=>(rd g.env g.b6 p tt (ty x.1) x.2).map λd=>(x.1,d)) parts.toList=some b8):
 ((parts.map fun(x:Nat×Operand)=>(x.1,(⟨tmps,[]⟩:Act).eval x.2)).toList).length=b8.length∧
 ∀(i:Nat) a b,b8[i]? = some a→(parts.map fun(x:Nat×Operand)=>(x.1,(⟨tmps,[]⟩:Act).eval x.2)).toList[i]? = some b→a.1=b.1∧cy M β b.2 a.2:=by
 obtain⟨Z,ab⟩:=tV mn;refine⟨by simpa using Z.symm,λi a b ha hb=>?_⟩
 simp only [Array.toList_map,List.getElem?_map,Option.map_eq_some_iff]at hb;obtain⟨x,hx,rfl⟩:=hb;have:=ab i x a hx ha
 simp only [Option.map_eq_some_iff]at this;obtain⟨d,hd,rfl⟩:=this;exact⟨rfl,ei h hp hd⟩
def run_places{cx:Array Field}{l:List (Nat×TypeId×Nat)}(aa:l=cx.toList.map λf=>(f.offset,f.type,P.cellsOf f.type))(hs:∀f,f∈cx.toList→1≤P.cellsOf f.type):
 (cx.mapM λf=>(do pure (f.offset,←sizeOf f.type):Sem (Nat×Nat))).run P w = .ok (cx.map λf=>(f.offset,P.cellsOf f.type)) w:=by
 obtain⟨tW⟩:=cx;rw [List.mapM_toArray]
 have key:∀(l:List Field),(∀f,f∈l→1≤P.cellsOf f.type)→(l.mapM λf=>(do pure (f.offset,←sizeOf f.type):Sem (Nat×Nat))).run P w = .ok (l.map λf=>(f.offset,P.cellsOf f.type)) w:=by
  intro l;induction l with
  |nil=>intro _;rfl
  |cons f l aG=>
   intro aY;have h0:=aY f (by simp)
   have Z:(sizeOf f.type).run P w = .ok (P.cellsOf f.type) w:=by
    cases hi:P.info? f.type with
    |none=>simp [Program.cellsOf,hi]at h0
    |some i=>exact Go.run_sizeOf w hi
   simp only [List.mapM_cons,Sem.run_bind,Z,Result.andThen_ok,Sem.run_pure,aG (λf h=>aY f (by simp [h])),List.map_cons]
 simp only [Sem.run_map,key tW (by simpa using hs),Result.andThen_ok]
 simp
def V2(h:fY P K N M β g tmps w)(hp:fO tmps p)(cz:fD P tt=true){t:TypeId}{aS:eP}(aa:look tt t=some aS){cx:List (Nat×TypeId×Nat)}(hk:aS.k = .cb cx)(lZ:cx.all (λf=>Nat.ble 1 f.2.2)=true)
 {parts:Array (Nat×Operand)} (aw:o.op = .build t parts) {b8:List (Nat×D)} (mn:mapM' (fun(x:Nat×Operand)=>(rd g.env g.b6 p tt (so tt t x.1) x.2).map λd=>(x.1,d)) parts.toList=some b8)
 {zs:List D} (vK:∀(r:Row P t aS),Cells M β r.z.cells.toList zs) {cs:List D} (aY:sn (fun(i:Nat)=>(cx[i]?).map fun(f:Nat×TypeId×Nat)=>(f.1,f.2.2)) zs b8=some cs) {rs:List fv}:
 Yields P K M β g {e:=some {d:=qX cs},rs} o tmps w:=by
 obtain⟨r⟩:=eK cz aa;obtain⟨gs,hd,NM⟩:=NB r hk;obtain⟨Z,ab⟩:=NL h hp mn;obtain⟨cells,Cp,hc⟩:=NI Z ab (vK r) aY
 have GP:∀f,f∈gs.toList→1≤P.cellsOf f.type:=by
  intro fd kf;rw [List.all_eq_true]at lZ;have:=lZ (fd.offset,fd.type,P.cellsOf fd.type) (by rw [NM];exact List.mem_map.2 ⟨fd,kf,rfl⟩)
  simpa using this
 have oo:(fun(i:Nat)=>(gs.map λf=>(f.offset,P.cellsOf f.type))[i]?)=fun(i:Nat)=>(cx[i]?).map fun(f:Nat×TypeId×Nat)=>(f.1,f.2.2):=by
  funext i
  rw [NM];cases hi:gs[i]? <;> simp [hi]
 refine fb h (v:=.agg cells) ?_ ?_
 ·simp only [execOp,aw];refine jB _ ?_;have ae2:=run_places (P:=P) (w:=w) NM GP;simp only [Instr.build,Sem.run_bind,r.GI,Result.andThen_ok,r.run_underlying,hd,ae2,oo];have:Instr.fill (fun(i:Nat)=>(cx[i]?).map fun(f:Nat×TypeId×Nat)=>(f.1,f.2.2)) r.z.cells (parts.map fun(x:Nat×Operand)=>(x.1,(⟨tmps,[]⟩:Act).eval x.2)).toList=some cells:=Cp
  rw [this];rfl
 ·have:=GJ hc.len hc.one hc.rep
  simpa using this
def ae3(h:fY P K N M β g tmps w)(hp:fO tmps p)(cz:fD P tt=true){t:TypeId}{aS:eP}(aa:look tt t=some aS){n:Nat}{e:TypeId}(hk:aS.k = .arr n e){ci:eP}(eT:look tt e=some ci)
 {parts:Array (Nat×Operand)} (aw:o.op = .build t parts) {b8:List (Nat×D)} (mn:mapM' (fun(x:Nat×Operand)=>(rd g.env g.b6 p tt (so tt t x.1) x.2).map λd=>(x.1,d)) parts.toList=some b8)
 {cs:List D} (aY:sn (λi=>some (i*ci.size,ci.size)) (aS.zero.map .v) b8=some cs):
 Yields P K M β g {e:=some {d:=qX cs},rs:=g.rs} o tmps w:=by
 obtain⟨r⟩:=eK cz aa;obtain⟨r2⟩:=eK cz eT;obtain⟨Z,ab⟩:=NL h hp mn;obtain⟨cells,Cp,hc⟩:=NI Z ab (r.V1 (β:=β)) aY;refine fb h (v:=.agg cells) ?_ ?_
 ·simp only [execOp,aw];refine jB _ ?_;simp only [Instr.build,Sem.run_bind,r.GI,Result.andThen_ok,r.run_underlying,aeQ r hk,r2.run_sizeOf];have:Instr.fill (λi=>some (i*ci.size,ci.size)) r.z.cells (parts.map fun(x:Nat×Operand)=>(x.1,(⟨tmps,[]⟩:Act).eval x.2)).toList=some cells:=Cp
  rw [this];rfl
 ·have:=GJ hc.len hc.one hc.rep
  simpa using this
end
section
variable {P:Program} {K:Ctx} {N:Nat} {M:Mem} {β:Nat→Option Nat} {g:dm} {tmps:Array Value} {w:World} {o:Oper} {f:lp} {p:Path} {tt:dI} {cf:gE} {ops:List Oper}
def jk(M:Mem)(b:Nat)(lo:Nat)(vs:List Value):Mem:=λbH o=>if bH=b∧lo≤o∧o<lo+vs.length then vs[o-lo]? else M bH o
def NN{b lo:Nat}{vs:List Value}(h:∀o,lo≤o→M b o=none):M.le (jk M b lo vs):=by
 intro bH o v av;unfold jk;split
 ·rename_i hc;obtain⟨rfl,Z,ab⟩:=hc;rw [h o Z]at av;cases av
 ·exact av
def GQ{b lo:Nat}{vs:List Value}{i:Nat}{v:Value}(h:vs[i]? = some v):jk M b lo vs b (lo+i)=some v:=by
 have hi:i<vs.length:=(List.getElem?_eq_some_iff.1 h).1;unfold jk;rw [if_pos ⟨rfl,by omega,by omega⟩,show lo+i-lo=i by omega,h]
def ae4{k:Nat}{n:Nat}{cells:List Value}(aa:cells.length=n*k){i j:Nat}(hi:i<n)(hj:j<k):cells[i*k+j]? = some (cells.getD (i*k+j) undef):=by
 have:i*k+j<cells.length:=by
  have Z:(i+1)*k≤n*k:=Nat.mul_le_mul_right k hi;rw [Nat.add_mul]at Z;omega
 simp [List.getD,List.getElem?_eq_getElem this]
def bN.newRow{st:aM}(h:bN P K M β st tmps w){vs:List Value}{T:TypeId}{n:Nat}{w':World}(hw:w'.heap=w.heap.push (.cells ⟨vs⟩ T (0,0)))(o4:(w'.os,w'.output)=(w.os,w.output):=by rfl):
 bN P K (jk M w.heap.size 0 (vs.take n)) β st tmps w'∧M.le (jk M w.heap.size 0 (vs.take n)):=by
 have cV:M.le (jk M w.heap.size 0 (vs.take n)):=NN λo _=>h.NC o
 refine⟨h.free w.heap.size ?_ ?_ ?_ ?_ cV ?_ ?_ o4,cV⟩
 ·cases dP:K.F w.heap.size with
  |none=>rfl
  |some a6=>have:=lt_of_heap (h.frame _ a6 dP).1;omega
 ·intro r cs ai hb;have:=h.Ck ai hb;omega
 ·intro l e T aa aH hb;have:=(h.own l e T aa aH).lt hb;omega
 ·intro bH _ bY;rw [hw];simp [Array.getElem?_push,Nat.ne_of_lt bY]
 ·intro bH o bY;simp [jk,bY]
 ·intro o v av;unfold jk at av;split at av
  ·rename_i hc;simp only [Nat.sub_zero]at av;rw [List.getElem?_take]at av;split at av
   ·have:w'.heap[w.heap.size]? = some (.cells ⟨vs⟩ T (0,0)):=by rw [hw];simp
    rw [cell_of_heap this,av]
   ·cases av
  ·rw [h.NC o]at av;cases av
def NO{st:aM}(h:bN P K M β st tmps w){l0:Loc}{T:TypeId}{vs:List Value}{T':TypeId}(sy:T'=T){n cap:Nat}{w':World}(hw:w'.heap=w.heap.push (.cells ⟨vs⟩ T' (0,0)))(hn:n≤cap)
 (hcap:cap*P.cellsOf T≤vs.length):nt P K (jk M w.heap.size 0 (vs.take (n*P.cellsOf T))) β st tmps w' l0 (.slice (some ⟨w.heap.size,0,none⟩) n cap) T:=by
 have vL:w'.heap[w.heap.size]? = some (.cells ⟨vs⟩ T' (0,0)):=by rw [hw];simp
 refine⟨.inr ⟨w.heap.size,n,cap,vs,T',rfl,hn,vL,hcap,λo aw=>?_,?_,sy⟩,?_,?_⟩
 ·have hle:n*P.cellsOf T≤vs.length:=Nat.le_trans (Nat.mul_le_mul_right _ hn) hcap;unfold jk;rw [if_neg,h.NC o]
  rintro ⟨_,_,aj⟩
  simp only [List.length_take]at aj;omega
 ·cases dP:K.F w.heap.size with
  |none=>rfl
  |some a6=>have:=lt_of_heap (h.frame _ a6 dP).1;omega
 ·intro l e pZ b aa aH _ hb bY;simp [h']at hb;subst hb
  have hold:cv tmps w' β l=cv tmps w β l:=by
   cases l with
   |slot s=>rfl
   |cell r i=>
    simp only [aM.at]at aa;cases ai:look st.H r with
    |none=>simp [ai]at aa
    |some cs=>
     obtain⟨c6,kx,hG,dc,bn,_⟩:=h.box r cs ai;simp only [cv,dc];rw [ss (w:=w) (by rw [hw];simp [Array.getElem?_push,Nat.ne_of_lt (lt_of_heap bn)])]
  rw [hold]at bY;have:=(h.own l e pZ aa aH).lt bY
  omega
 ·intro b r cs hb ai bY;simp [h']at hb;subst hb;have:=h.Ck ai bY
  omega
def V3{size:Nat}:∀(l:List (Nat×Value)) (m:Nat) (cells:Array Value),(∀(i:Nat) x,l[i]? = some x→x.1=m+i∧x.2.cells.size=size)→(m+l.length)*size≤cells.size→
 ∃jN,Instr.fill (λi=>some (i*size,size)) cells l=some jN∧jN.size=cells.size∧(∀i,i<m*size→jN[i]? = cells[i]?)∧
  ∀(i:Nat) x (j:Nat) u,l[i]? = some x→x.2.cells[j]? = some u→jN[(m+i)*size+j]? = some u
 |[],m,cells,_,_=>⟨cells,rfl,rfl,λ_ _=>rfl,by simp⟩
 |(a,v)::l,m,cells,aa,hle=>by
  obtain⟨ha,ev⟩:=aa 0 (a,v) (by simp)
  simp only [Nat.add_zero]at ha;simp only at ev
  subst ha
  have asM:a*size+size≤cells.size:=by
   have Z:(a+1)*size≤(a+((a,v)::l).length)*size:=Nat.mul_le_mul_right _ (by simp)
   rw [Nat.add_mul,Nat.one_mul]at Z;omega
  have aY:=NH (a*size) v.cells.toList 0 cells (by simp [ev];omega)
  have NK:v.cells.zipIdx.foldl (λcs (x:Value×Nat)=>cs.setIfInBounds (a*size+x.2) x.1) cells=(v.cells.toList.zipIdx 0).foldl (λcs (x:Value×Nat)=>cs.setIfInBounds (a*size+x.2) x.1) cells:=by
   rw [←Array.foldl_toList,Array.toList_zipIdx]
  rw [←NK]at aY;generalize k0:v.cells.zipIdx.foldl (λcs (x:Value×Nat)=>cs.setIfInBounds (a*size+x.2) x.1) cells=c1 at aY
  obtain⟨jN,Z,ab,aj,aC⟩:=V3 l (a+1) c1 (λi x hx=>by
   obtain⟨Z,ab⟩:=aa (i+1) x (by simpa using hx)
   exact⟨by omega,ab⟩) (by rw [aY.1];simpa [Nat.add_assoc,Nat.add_comm 1]using hle)
  refine⟨jN,?_,by rw [ab,aY.1],λi hi=>?_,λi x j u hx hu=>?_⟩
  ·simp only [Instr.fill];rw [if_neg (by simp [ev];omega)]
   have:v.cells.zipIdx.foldl (λcs (c,j)=>cs.setIfInBounds (a*size+j) c) cells=c1:=k0
   rw [this];exact Z
  ·rw [aj i (by rw [Nat.add_mul];omega),aY.2 i,if_neg (by omega)]
  ·cases i with
   |zero=>
    simp at hx;subst hx
    simp only at hu
    have hj:j<size:=by rw [←ev];exact(Array.getElem?_eq_some_iff.1 hu).1
    rw [Nat.add_zero,aj _ (by rw [Nat.add_mul,Nat.one_mul];omega),aY.2,if_pos (by simp [ev];omega)]
    simpa using hu
   |succ i=>
    have:=aC i x j u (by simpa using hx) hu
    rw [show a+(i+1)=a+1+i by omega];exact this
def V4{l1:Bool}{size:Nat}:∀{b8:List (Nat×D)} {n:Nat} {xs:List V},elems l1 size n b8=some xs→xs.length=b8.length∧
 ∀(i:Nat) y x,b8[i]? = some y→xs[i]? = some x→y=(n+i,.v x)∧x.cells.length=size∧x.isAgg=l1
 |[],n,xs,h=>by simp [elems]at h;subst h;simp
 |(j,d)::b8,n,xs,h=>by
  cases d<;>simp only [elems]at h<;>try cases h
  rename_i fI;rw [Bool.cond_eq_ite]at h;split at h
  case isFalse=>cases h
  rename_i hb;simp only [Bool.and_eq_true,Nat.beq_eq,beq_iff_eq]at hb;obtain⟨⟨dc,fC⟩,NJ⟩:=hb;simp only [Option.map_eq_some_iff]at h;obtain⟨ys,cg,rfl⟩:=h;obtain⟨Z,ab⟩:=V4 cg;refine⟨by simp [Z],λi y x hi hx=>?_⟩
  cases i with
  |zero=>simp at hi hx;subst hi;subst hx;exact⟨by simp [dc],fC,NJ⟩
  |succ i=>
   simp at hi hx
   obtain⟨aj,aC⟩:=ab i y x hi hx;exact⟨by rw [aj];simp;omega,aC⟩
def ae5(h:fY P K N M β g tmps w)(hp:fO tmps p)(cz:fD P tt=true){t e:TypeId}{aS ci:eP}(aa:look tt t=some aS)(hk:aS.k = .bI e)(eT:look tt e=some ci){len:Nat}
 {parts:Array (Nat×Operand)} (aw:o.op = .buildSlice t len parts) {b8:List (Nat×D)} (mn:mapM' (fun(x:Nat×Operand)=>(rd g.env g.b6 p tt (so tt t x.1) x.2).map λd=>(x.1,d)) parts.toList=some b8)
 {xs:List V} (hx:elems ci.k.isAgg ci.size 0 b8=some xs) (hlen:xs.length=len) (_hs:1≤ci.size) (hb:len*ci.size≤16777216) {x:V} (av:hD (.bI ci.size len λi=>xs.getD i .eC) x) {rs:List fv} {a6:List Prop}:
 Yields P K M β g {e:=some {d:=.v x,own:=some e},rs,a6} o tmps w:=by
 obtain⟨r⟩:=eK cz aa;obtain⟨dQ⟩:=eK cz eT;obtain⟨Z,ab⟩:=NL h hp mn;obtain⟨Cq,q5⟩:=V4 hx;generalize sz:(parts.map fun(x:Nat×Operand)=>(x.1,(⟨tmps,[]⟩:Act).eval x.2))=pa at Z ab
 generalize nv:pa.toList=vs at Z ab
 have oo:vs.length=len:=by omega
 have ij:∀(i:Nat) b,vs[i]? = some b→∃x,xs[i]? = some x∧b.1=i∧df M b.2 x∧x.cells.length=ci.size:=by
  intro i b hi;have Np:i<vs.length:=(List.getElem?_eq_some_iff.1 hi).1;have ha:b8[i]? = some b8[i]:=List.getElem?_eq_getElem (by omega)
  have m4:xs[i]? = some xs[i]:=List.getElem?_eq_getElem (by omega)
  obtain⟨aj,aC,_⟩:=q5 i _ _ ha m4;obtain⟨aT,bP⟩:=ab i _ b ha hi;rw [aj]at aT bP;exact⟨_,m4,by simpa using aT.symm,om bP,aC⟩
 have p2:∀(i:Nat) b,vs[i]? = some b→∃x,xs[i]? = some x∧b.1=i∧b.2.cells.size=ci.size∧(∀u,u∈b.2.cells.toList→u.oneCell'=true)∧∀(j:Nat) u c,b.2.cells.toList[j]? = some u→x.cells[j]? = some c→df M u c:=by
  intro i b hi;obtain⟨x,aj,aC,aT,bP⟩:=ij i b hi;obtain⟨cM,dj,en⟩:=(cy.v (β:=β) _ _ aT).cells rfl;refine⟨x,aj,aC,by simp [cellsD]at cM;omega,dj,λj u c hu hc=>?_⟩
  exact om (en j u (.v c) hu (by simp [cellsD,hc]))
 obtain⟨jN,tX,tY,asN,ae6⟩:=V3 (size:=ci.size) vs 0 ((Array.range (len*ci.size)).map λi=>dQ.z.cells[i % dQ.z.cells.size]!) (λi x hi=>by
  obtain⟨y,aj,aC,aT,_⟩:=p2 i x hi;exact⟨by omega,aT⟩) (by simp [oo])
 have ev:jN.size=len*ci.size:=by rw [tY];simp
 have iX:∀i j,i<len→j<ci.size→∃b u,vs[i]? = some b∧b.2.cells.toList[j]? = some u∧jN.toList[i*ci.size+j]? = some u:=by
  intro i j hi hj;have fa:vs[i]? = some vs[i]:=List.getElem?_eq_getElem (by omega)
  obtain⟨y,aj,aC,aT,_⟩:=p2 i _ fa;have hu:vs[i].2.cells[j]? = some vs[i].2.cells[j]:=Array.getElem?_eq_getElem (by omega)
  refine⟨vs[i],vs[i].2.cells[j],fa,(Array.getElem?_toList ..).trans hu,?_⟩
  have:=ae6 i _ j _ fa hu
  simpa using this
 have fg:(execOp (Act.eval ⟨tmps,[]⟩) o).run P w = .ok (.value (.slice (some ⟨w.heap.size,0,none⟩) len len)) {w with heap:=w.heap.push (.cells ⟨jN.toList⟩ e (0,0))}:=by
  simp only [execOp,aw];refine jB _ ?_;have bY:¬ (16777216<len*ci.size):=by omega
  have ae7:(parts.map fun(x:Nat×Operand)=>match x with|(i,x)=>(i,(⟨tmps,[]⟩:Act).eval x))=pa:=sz
  rw [ae7];simp only [Instr.buildSlice,Sem.run_bind,r.run_underlying,p1 r hk,Result.andThen_ok,dQ.run_sizeOf];by_cases h0:len*ci.size=0
  ·have b4:∀f:Nat→Value,(Array.range (len*ci.size)).map f = #[]:=by intro f;rw [h0];simp
   rw [b4]at tX;have e1:∀f:Nat→Value,(Array.range 0).map f = #[]:=by intro f;simp
   simp [h0,nv,e1,tX,newRow]
  ·simp [h0,bY,dQ.GI,nv,tX,newRow]
 obtain⟨cP,hle⟩:=h.bA.newRow (w':={w with heap:=w.heap.push (.cells ⟨jN.toList⟩ e (0,0))}) (T:=e) (vs:=jN.toList) (n:=len*ci.size) rfl;have Cr:jN.toList.take (len*ci.size)=jN.toList:=List.take_of_length_le (by simp [ev])
 refine .inl ⟨_,_,fg,_,β,hle,λ_ _ h=>h,λ_ _ h=>.inl h,cP,λe1 he=>?_⟩
 cases he;refine⟨.v _ _ (av _ _ (.bI _ 0 ci.size len len _ (λi j=>jN.toList.getD (i*ci.size+j) undef) (Nat.le_refl _) ?_ ?_ ?_ ?_)),λT l0 aH=>?_⟩
 ·intro i hi;have m4:xs[i]? = some xs[i]:=List.getElem?_eq_getElem (by omega)
  have ha:b8[i]? = some b8[i]:=List.getElem?_eq_getElem (by omega)
  simp only [List.getD,m4,Option.getD_some];exact(q5 i _ _ ha m4).2.1
 ·intro i j hi hj;obtain⟨b,u,_,_,hu⟩:=iX i j hi hj;rw [Cr,Nat.zero_add];have:=GQ (M:=M) (b:=w.heap.size) (lo:=0) hu
  simpa [List.getD,hu]using this
 ·intro i j hi hj;obtain⟨b,u,dc,NP,hu⟩:=iX i j hi hj;obtain⟨y,_,_,_,bP,_⟩:=p2 i b dc;simp only [List.getD,hu,Option.getD_some];exact GO bP NP
 ·intro i j c hi hc;have m4:xs[i]? = some xs[i]:=List.getElem?_eq_getElem (by omega)
  simp only [List.getD,m4,Option.getD_some]at hc
  have hj:j<ci.size:=by
   have ha:b8[i]? = some b8[i]:=List.getElem?_eq_getElem (by omega)
   rw [←(q5 i _ _ ha m4).2.1];exact(List.getElem?_eq_some_iff.1 hc).1
  obtain⟨b,u,dc,NP,hu⟩:=iX i j hi hj;obtain⟨y,cg,_,_,_,cM⟩:=p2 i b dc;rw [m4]at cg;cases cg;simp only [List.getD,hu,Option.getD_some];exact(cM j u c NP hc).mono hle
 ·cases aH;have:=NO (l0:=l0) (T:=e) h.bA (vs:=jN.toList) (T':=e) (n:=len) (cap:=len) (w':={w with heap:=w.heap.push (.cells ⟨jN.toList⟩ e (0,0))}) rfl rfl (Nat.le_refl _) (by rw [dQ.cellsOf];simp [ev])
  rw [dQ.cellsOf]at this;exact this
end
section
variable {P:Program} {K:Ctx} {N:Nat} {M:Mem} {β:Nat→Option Nat} {g:dm} {tmps:Array Value} {w:World} {o:Oper} {f:lp} {p:Path} {tt:dI} {cf:gE} {ops:List Oper}
def ae8(h:fY P K N M β g tmps w)(hp:fO tmps p)(cz:fD P tt=true){t:TypeId}{aS:eP}(aa:look tt t=some aS){a:Operand}(aw:o.op = .load t a){q off:Nat}(ha:rd g.env g.b6 p tt o.type a=some (.ptr q off))
 {cs:List a7} (ao:look g.H q=some cs) (jO:aS.k.isAgg=true) (hle:off+aS.size≤cs.length):
 Yields P K M β g {e:=some {d:=qX (((cs.drop off).take aS.size).map (·.d))},rs:=g.rs} o tmps w:=by
 obtain⟨r⟩:=eK cz aa;obtain⟨b,hb,av⟩:=sw (ei (ds:=[]) h hp ha);obtain⟨bH,vs,T,bY,bn,hlen,_,_,ji,mW⟩:=h.bA.box q cs ao;rw [hb]at bY;cases bY;have fg:=VN (P:=P) (w:=w) r (off:=off) bn (by omega) jO
 refine fb h (v:=.agg ⟨(vs.drop off).take aS.size⟩) ?_ ?_
 ·simp only [execOp,aw];rw [av];exact jB _ fg
 ·refine GJ (by simp;omega) (λv av=>ji v (List.mem_of_mem_drop (List.mem_of_mem_take av))) (λi v c av hc=>?_)
  rw [List.getElem?_map,Option.map_eq_some_iff]at hc;obtain⟨e,he,rfl⟩:=hc;rw [List.getElem?_take]at av he;split at av
  ·rename_i hi;rw [if_pos hi,List.getElem?_drop]at he;rw [List.getElem?_drop]at av;have:=h.bA.fw (.cell q (off+i)) e (by simp [aM.at,ao,he])
   simpa [cv,hb,cell_of_heap bn,av]using this
  ·cases av
def ae9(h:fY P K N M β g tmps w)(hp:fO tmps p)(cz:fD P tt=true){t:TypeId}{aS:eP}(aa:look tt t=some aS){a:Operand}(aw:o.op = .load t a){q off:Nat}(ha:rd g.env g.b6 p tt o.type a=some (.ptr q off))
 {cs:List a7} (ao:look g.H q=some cs) (jO:aS.k.isAgg=false) {e:a7} (he:cs[off]? = some e):
 Yields P K M β g {e:=some {d:=e.d},rs:=g.rs} o tmps w:=by
 obtain⟨r⟩:=eK cz aa;obtain⟨b,hb,av⟩:=sw (ei (ds:=[]) h hp ha);obtain⟨bH,vs,T,v,bY,bn,fa,cj⟩:=No h.bA ao he;rw [hb]at bY;cases bY;have hc:w.cell? ⟨b,off,none⟩=some v:=by rw [cell_of_heap bn,fa]
 refine fb h (v:=v) ?_ ?_
 ·simp only [execOp,aw];rw [av];exact jB _ (NA (P:=P) r hc jO)
 ·have:=h.bA.fw (.cell q off) e (by simp [aM.at,ao,he])
  rwa [cj]at this
def V5{cs:List a7}{off:Nat}{e:a7}(cZ:off<cs.length)(i:Nat):(setAt cs off [e])[i]? = if i=off then some e else cs[i]? := by
 rw [(sx cs off [e] (by simp;omega)).2 i]
 by_cases hi:i=off
 ·subst hi;simp
 ·rw [if_neg (by simp;omega),if_neg hi]
def ae'(h:fY P K N M β g tmps w)(hp:fO tmps p)(cz:fD P tt=true){t:TypeId}{aS:eP}(aa:look tt t=some aS){a:Operand}(aw:o.op = .load t a){q off:Nat}(ha:rd g.env g.b6 p tt o.type a=some (.ptr q off))
 {cs:List a7} (ao:look g.H q=some cs) (jO:aS.k.isAgg=false) {e:a7} (he:cs[off]? = some e) {s:TypeId} (hs:e.own=some s) {rs:List fv}:
 Yields P K M β g {e:=some e,hs:=[(q,setAt cs off [{d:=e.d}])],rs} o tmps w:=by
 obtain⟨r⟩:=eK cz aa;obtain⟨b,hb,av⟩:=sw (ei (ds:=[]) h hp ha);obtain⟨bH,vs,T,v,bY,bn,fa,cj⟩:=No h.bA ao he;rw [hb]at bY;cases bY;have hc:w.cell? ⟨b,off,none⟩=some v:=by rw [cell_of_heap bn,fa]
 have cZ:off<cs.length:=(List.getElem?_eq_some_iff.1 he).1
 have mX:=λl0=>h.bA.VH ao he hs (cs':=setAt cs off [{d:=e.d}]) (sx cs off _ (by simp;omega)).1 (λj bg hj=>by
  rw [V5 cZ]at hj;by_cases NQ:j=off
  ·subst NQ;simp at hj;subst hj;exact⟨e,he,rfl,by simp⟩
  ·rw [if_neg NQ]at hj;exact⟨bg,hj,rfl,λT aH=>⟨aH,NQ⟩⟩) l0
 refine .inl ⟨v,w,?_,M,β,Mem.le_refl _,λ_ _ h=>h,λ_ _ h=>.inl h,(mX (.slot 0)).1,λe1 sA=>?_⟩
 ·simp only [execOp,aw];rw [av];exact jB _ (NA (P:=P) r hc jO)
 ·cases sA;refine⟨?_,λT l0 aH=>?_⟩
  ·have:=h.bA.fw (.cell q off) e (by simp [aM.at,ao,he])
   rwa [cj]at this
  ·rw [hs]at aH;cases aH;have:=(mX l0).2
   rwa [cj]at this
def ae_(h:fY P K N M β g tmps w)(hp:fO tmps p)(cz:fD P tt=true){t:TypeId}{aS:eP}(aa:look tt t=some aS){a:Operand}(aw:o.op = .load t a){x:V}(ha:rd g.env g.b6 p tt o.type a=some (.e7 x))
 (jO:x.isAgg=aS.k.isAgg) (hs:x.cells.length=aS.size):Yields P K M β g {e:=some {d:=.v x},rs:=g.rs} o tmps w:=by
 obtain⟨r⟩:=eK cz aa;obtain⟨u,Z,ab⟩:=aeP (w:=w) r h.bA.mem (ei (ds:=[]) h hp ha) jO hs;exact fb h (v:=u) (by simp only [execOp,aw];exact jB _ Z) (.v _ _ ab)
def V6{t:TypeId}{aS:eP}(r:Row P t aS){b off:Nat}{vs:List Value}{T:TypeId}(bn:w.heap[b]? = some (.cells ⟨vs⟩ T (0,0))){v:Value}(hs:v.cells.size=aS.size)(ji:∀u,u∈v.cells.toList→u.oneCell'=true)
 (hle:off+aS.size≤vs.length):(Instr.storeAt t (.pointer (some ⟨b,off,none⟩)) v).run P w = .ok () (w.setRow b (vs.take off++v.cells.toList++vs.drop (off+aS.size)).toArray):=by
 have:=run_storeCells_at P b off T v.cells.toList 0 ⟨vs⟩ w bn (by simpa [hs]using hle) ji
 simp only [Nat.add_zero,Array.length_toList,hs]at this;simp [Instr.storeAt,Instr.sureAddr,storeVar,r.run_sizeOf,hs,this]
def NR{vs us:List Value}{off:Nat}(hle:off+us.length≤vs.length)(i:Nat):(vs.take off++us++vs.drop (off+us.length))[i]? = if off≤i∧i<off+us.length then us[i-off]? else vs[i]? := by
 have aF:(vs.take off).length=off:=by simp;omega
 by_cases Z:i<off
 ·rw [if_neg (by omega),List.append_assoc,List.getElem?_append_left (by omega),List.getElem?_take,if_pos Z]
 ·by_cases ab:i<off+us.length
  ·rw [if_pos (by omega),List.append_assoc,List.getElem?_append_right (by omega),aF,List.getElem?_append_left (by omega)]
  ·rw [if_neg (by omega),List.getElem?_append_right (by simp;omega),List.getElem?_drop]
   congr 1
   simp;omega
def Cs{vs us:List Value}{off:Nat}(hle:off+us.length≤vs.length):(vs.take off++us++vs.drop (off+us.length)).length=vs.length:=by
 simp;omega
def V7{vs us:List Value}{off:Nat}(Z:∀v,v∈vs→v.oneCell'=true)(ab:∀v,v∈us→v.oneCell'=true):∀v,v∈vs.take off++us++vs.drop (off+us.length)→v.oneCell'=true:=by
 intro v av;rcases List.mem_append.1 av with av|av
 ·rcases List.mem_append.1 av with av|av
  ·exact Z v (List.mem_of_mem_take av)
  ·exact ab v av
 ·exact Z v (List.mem_of_mem_drop av)
def V8{v:Value}{t:TypeId}{a x:Operand}(aw:o.op = .store t a x)(hx:(⟨tmps,[]⟩:Act).eval x=v){hW:Value}(ha:(⟨tmps,[]⟩:Act).eval a=hW){w':World}(h:(Instr.storeAt t hW v).run P w = .ok () w'):
 (execOp (Act.eval ⟨tmps,[]⟩) o).run P w = .ok .skip w':=by
 simp only [execOp,aw,hx,ha];simp [h]
def lu.set{T:TypeId}{n:Nat}{cs ds:List a7}{off:Nat}(h:lu P T n cs)(hn:∀e,e∈ds→∀r o u,e.d ≠ .cu r o u)(hle:off+ds.length≤cs.length):lu P T n (setAt cs off ds):=λe he r o u hd=>by
 obtain⟨i,hi,rfl⟩:=List.getElem_of_mem he;have hg:(setAt cs off ds)[i]? = some (setAt cs off ds)[i]:=List.getElem?_eq_getElem hi;rw [(sx cs off ds hle).2 i]at hg;split at hg
 ·exact absurd hd (hn _ (List.mem_of_getElem? hg) r o u)
 ·exact h _ (List.mem_of_getElem? hg) r o u hd
def afa(h:fY P K N M β g tmps w)(hp:fO tmps p)(cz:fD P tt=true){t:TypeId}{aS:eP}(aa:look tt t=some aS){a x:Operand}(aw:o.op = .store t a x){q off:Nat}(ha:rd g.env g.b6 p tt o.type a=some (.ptr q off))
 {cs:List a7} (ao:look g.H q=some cs) {d:D} (hx:rd g.env g.b6 p tt t x=some d) (aF:sm d=false) (tU:tN (cellsD d)=true) (hs:(cellsD d).length=aS.size) (hle:off+aS.size≤cs.length):
 Yields P K M β g {e:=none,hs:=[(q,setAt cs off ((cellsD d).map λd=>{d}))],rs:=g.rs} o tmps w:=by
 obtain⟨r⟩:=eK cz aa;obtain⟨b,hb,av⟩:=sw (ei (ds:=[]) h hp ha);obtain⟨bH,vs,T,bY,bn,hlen,_,_,ji,mW⟩:=h.bA.box q cs ao;rw [hb]at bY;cases bY;obtain⟨Z,ab,aj⟩:=(ei (ds:=[]) h hp hx).cells aF;generalize hu:(⟨tmps,[]⟩:Act).eval x=u at Z ab aj
 have V9:u.cells.size=aS.size:=by simp at Z;omega
 have vM:u.cells.toList.length=aS.size:=by simpa using V9
 have fg:=V6 (P:=P) r (off:=off) bn V9 ab (by omega)
 rw [←vM]at fg;refine .inr (.inl ⟨rfl,_,V8 aw hu av fg,M,β,Mem.le_refl _,λ_ _ h=>h,λ_ _ h=>.inl h,?_,λe he=>by cases he⟩)
 have yw:=sx cs off ((cellsD d).map λd=>({d}:a7)) (by simp;omega)
 refine h.bA.Nq ao hb bn (vs':=vs.take off++u.cells.toList++vs.drop (off+u.cells.toList.length)) (by rw [Cs (by omega),yw.1,hlen]) (V7 ji ab) (λ_=>by
  rw [Cs (by omega)]
  refine mW.set (λe he=>?_) (by simp;omega)
  obtain⟨c,hc,rfl⟩:=List.mem_map.1 he;exact GC tU c hc) yw.1
  (setRow_heap w b _ _ T (0,0) bn) (λbH di=>setRow_other w b bH _ di) cs.length (λi v e fa m5=>?_)
 rw [NR (by omega)]at fa
 rw [yw.2]at m5;simp only [List.length_map]at m5;by_cases hi:off≤i∧i<off+aS.size
 ·rw [if_pos (by omega)]at fa
  rw [if_pos (by omega),List.getElem?_map,Option.map_eq_some_iff]at m5
  obtain⟨c,hc,rfl⟩:=m5;exact⟨aj _ v c fa hc,by simp⟩
 ·rw [if_neg (by omega)]at fa
  rw [if_neg (by omega)]at m5
  have tZ:i<cs.length:=(List.getElem?_eq_some_iff.1 m5).1;refine⟨?_,λT aH=>.inl ⟨by omega,⟨e,m5,aH⟩,fa⟩⟩
  have:=h.bA.fw (.cell q i) e (by simp [aM.at,ao,m5])
  simpa [cv,hb,cell_of_heap bn,fa]using this
def V'(ty:Nat→Option TypeId):∀(l:List a7) (n:Nat),(qZ ty n l).length=l.length∧∀(i:Nat) bg,(qZ ty n l)[i]? = some bg→∃e,l[i]? = some e∧((e.d=bg.d∧∀T,bg.own=some T→e.own=some T)∨∃k g,e.d = .v (.oZ k g)∧bg.d = .v (.bI k 0 g))
 |[],n=>by simp [qZ]
 |e::l,n=>by
  obtain⟨Z,ab⟩:=V' ty l (n+1);refine⟨by simp [qZ,Z],λi bg he=>?_⟩
  cases i with
  |zero=>
   simp only [qZ,List.getElem?_cons_zero,Option.some.injEq]at he;refine⟨e,rfl,?_⟩
   split at he
   ·rename_i k g hd;subst he;exact .inr ⟨k,g,hd,rfl⟩
   ·subst he;exact .inl ⟨rfl,λ_ h=>h⟩
  |succ i=>simp only [qZ,List.getElem?_cons_succ]at he ⊢;exact ab i bg he
def afb(h:fY P K N M β g tmps w)(hp:fO tmps p)(cz:fD P tt=true){t:TypeId}{aS:eP}(aa:look tt t=some aS){a x:Operand}(aw:o.op = .store t a x){q off:Nat}(ha:rd g.env g.b6 p tt o.type a=some (.ptr q off))
 {cs:List a7} (ao:look g.H q=some cs) {d:D} (hx:rd g.env g.b6 p tt t x=some d) (aF:sm d=false) (tU:tN (cellsD d)=true) (hs:(cellsD d).length=aS.size) (hle:off+aS.size≤cs.length) (ty:Nat→Option TypeId):
 Yields P K M β g {e:=none,hs:=[(q,qZ ty 0 (setAt cs off ((cellsD d).map λd=>{d})))],rs:=g.rs} o tmps w:=by
 have up:∀{M':Mem} {β':Nat→Option Nat} {v:Value} {w':World},iW P K M β g {e:=none,hs:=[(q,setAt cs off ((cellsD d).map λd=>{d}))],rs:=g.rs} tmps v w'→
  iW P K M β g {e:=none,hs:=[(q,qZ ty 0 (setAt cs off ((cellsD d).map λd=>{d})))],rs:=g.rs} tmps v w':=by
  rintro M' β' v w' ⟨Ct,Cu,Z,ab,aj,aC,_⟩
  refine⟨Ct,Cu,Z,ab,λr b hb=>?_,?_,λe he=>by cases he⟩
  ·rcases aj r b hb with aT|aT
   ·exact .inl aT
   ·right
    simp only [dZ]at aT ⊢;split at aT
    ·rename_i vN;simp [vN]
    ·cases aT
  ·obtain⟨g1,g2⟩:=V' ty (setAt cs off ((cellsD d).map λd=>({d}:a7))) 0
   refine aC.aez rfl (λl bg dE=>?_) (λr cs' ai=>?_)
   ·cases l with
    |slot s=>exact⟨bg,dE,.inl ⟨rfl,λ_ h=>h⟩⟩
    |cell r i=>
     simp only [aM.at,after,List.cons_append,List.nil_append,dZ]at dE ⊢;by_cases vN:q=r
     ·simp only [vN,if_true,Option.bind_some]at dE ⊢;exact g2 i bg dE
     ·simp only [vN,if_false]at dE ⊢;exact⟨bg,dE,.inl ⟨rfl,λ_ h=>h⟩⟩
   ·simp only [after,List.cons_append,List.nil_append,dZ]at ai ⊢;by_cases vN:q=r
    ·simp only [vN,if_true,Option.some.injEq]at ai ⊢;subst ai;exact⟨_,rfl,g1.symm⟩
    ·simp only [vN,if_false]at ai ⊢;exact⟨cs',ai,rfl⟩
 rcases afa h hp cz aa aw ha ao hx aF tU hs hle with⟨v,w',Z,ab⟩|⟨h0,w',Z,ab⟩|⟨fn,vs,Z,ab⟩
 ·exact .inl ⟨v,w',Z,up (M':=M) (β':=β) ab⟩
 ·exact .inr (.inl ⟨h0,w',Z,up (M':=M) (β':=β) ab⟩)
 ·exact .inr (.inr ⟨fn,vs,Z,ab.mono λe w' ⟨v,aj,aC⟩=>⟨v,aj,up (M':=M) (β':=β) aC⟩⟩)
def V_(h:fY P K N M β g tmps w)(hp:fO tmps p)(cz:fD P tt=true){t:TypeId}{aS:eP}(aa:look tt t=some aS){a x:Operand}(aw:o.op = .store t a x){q off:Nat}(ha:rd g.env g.b6 p tt o.type a=some (.ptr q off))
 {cs:List a7} (ao:look g.H q=some cs) {k n:Nat} {get:Nat→V} (hx:rd g.env g.b6 p tt t x=some (.v (.bI k n get))) (hs:aS.size=1) (hle:off+aS.size≤cs.length) {s:TypeId} {l:List Nat}
 (gk:nt P K M β {env:=hE l g.env,H:=g.H,aW:=g.aW} tmps w (.cell q off) ((⟨tmps,[]⟩:Act).eval x) s):
 Yields P K M β g {e:=none,hM:=l,hs:=[(q,setAt cs off [{d:=.v (.bI k n get),own:=some s}])],rs:=g.rs} o tmps w:=by
 obtain⟨r⟩:=eK cz aa;obtain⟨b,hb,av⟩:=sw (ei (ds:=[]) h hp ha);have o5:=h.bA.hM l;obtain⟨bH,vs,T,bY,bn,hlen,_,_,ji,mW⟩:=h.bA.box q cs ao;rw [hb]at bY;cases bY;have lz:=ei (ds:=[]) h hp hx;generalize hu:(⟨tmps,[]⟩:Act).eval x=u at lz gk
 have Cv:u.cells = #[u]∧u.oneCell'=true:=by
  obtain⟨a,cap,rfl,_⟩:=vJ lz;exact⟨rfl,rfl⟩
 have fg:=V6 (P:=P) r (off:=off) bn (v:=u) (by rw [Cv.1,hs];rfl) (by rw [Cv.1];simpa using Cv.2) (by omega)
 rw [Cv.1,hs]at fg;have cZ:off<cs.length:=by omega
 refine .inr (.inl ⟨rfl,_,V8 aw hu av fg,M,β,Mem.le_refl _,λ_ _ h=>h,λ_ _ h=>.inl h,?_,λe he=>by cases he⟩)
 refine o5.Nq (st:={env:=hE l g.env,H:=g.H,aW:=g.aW}) ao hb bn (vs':=vs.take off++[u]++vs.drop (off+1)) (by rw [show off+1=off+[u].length by rfl,Cs (by simp;omega),(sx cs off _ (by simp;omega)).1,hlen])
  (V7 (us:=[u]) ji (by simpa using Cv.2)) (λ_=>by
   rw [show off+1=off+[u].length by rfl,Cs (by simp;omega)]
   refine mW.set (λe he=>?_) (by simp;omega)
   obtain rfl:=List.mem_singleton.1 he;exact λ_ _ _ e=>by cases e) (sx cs off _ (by simp;omega)).1 (setRow_heap w b _ _ T (0,0) bn) (λbH di=>setRow_other w b bH _ di) off (λi v e fa m5=>?_)
 rw [show off+1=off+[u].length by rfl,NR (by simp;omega)]at fa
 rw [V5 cZ]at m5;by_cases hi:i=off
 ·subst hi;simp at fa m5
  subst fa;subst m5;refine⟨lz,λT aH=>.inr ⟨rfl,?_⟩⟩
  cases aH;exact gk
 ·rw [if_neg hi]at m5;rw [if_neg (by simp;omega)]at fa
  refine⟨?_,λT aH=>.inl ⟨hi,⟨e,m5,aH⟩,fa⟩⟩
  have:=h.bA.fw (.cell q i) e (by simp [aM.at,ao,m5])
  simpa [cv,hb,cell_of_heap bn,fa]using this
end
section
variable {P:Program} {K:Ctx} {N:Nat} {M:Mem} {β:Nat→Option Nat} {g:dm} {tmps:Array Value} {w:World} {o:Oper} {f:lp} {p:Path} {tt:dI} {cf:gE} {ops:List Oper}
structure lA(M:Mem)(k m:Nat)(get:Nat→V)(news:List Value):Prop where
 len:news.length=m*k
 hk:∀i,i<m→(get i).cells.length=k
 one:∀u,u∈news→u.oneCell'=true
 rep:∀(i j:Nat) c u,i<m→(get i).cells[j]? = some c→news[i*k+j]? = some u→df M u c
def flat(k m:Nat)(val:Nat→Nat→Value):List Value:=(List.range (m*k)).map λq=>val (q / k) (q % k)
def q6(k m:Nat)(val:Nat→Nat→Value):(flat k m val).length=m*k:=by simp [flat]
def afc{k m:Nat}{val:Nat→Nat→Value}{i j:Nat}(hi:i<m)(hj:j<k):(flat k m val)[i*k+j]? = some (val i j):=by
 have cZ:i*k+j<m*k:=by
  have Z:(i+1)*k≤m*k:=Nat.mul_le_mul_right k hi;rw [Nat.add_mul]at Z;omega
 have Z:(i*k+j) / k=i:=by rw [Nat.mul_comm,Nat.mul_add_div (by omega),Nat.div_eq_of_lt hj];omega
 have ab:(i*k+j) % k=j:=by rw [Nat.mul_comm,Nat.mul_add_mod,Nat.mod_eq_of_lt hj]
 simp [flat,cZ,Z,ab]
def Wa{k m:Nat}{val:Nat→Nat→Value}{q:Nat}{u:Value}(h:(flat k m val)[q]? = some u):q / k<m∧q % k<k∧q=q / k*k+q % k∧u=val (q / k) (q % k):=by
 have ao:q<m*k:=by have:=(List.getElem?_eq_some_iff.1 h).1;rwa [q6]at this
 have hk:0<k:=by
  rcases Nat.eq_zero_or_pos k with rfl|h;· simp at ao
  ·exact h
 refine⟨(Nat.div_lt_iff_lt_mul hk).2 ao,Nat.mod_lt _ hk,(Nat.div_add_mod' q k).symm,?_⟩
 simp [flat,ao]at h;exact h.symm
def NS{v:Value}{k n:Nat}{get:Nat→V}(h:cy M β v (.v (.bI k n get))):((v = .slice none 0 0∨∃a,v = .slice (some a) 0 0)∧n=0)∨
 ∃(b off cap:Nat) (eL:List Value),v = .slice (some ⟨b,off,none⟩) n cap∧n≤cap∧lA M k n get eL∧∀(q:Nat) u,eL[q]? = some u→M b (off+q)=some u:=by
 rcases tT h with h|⟨b,off,cap,val,rfl,hc,hk,cV,Z,ai⟩
 ·exact .inl h
 ·refine .inr ⟨b,off,cap,flat k n val,rfl,hc,⟨q6 k n val,hk,?_,?_⟩,?_⟩
  ·refine VZ λq u hu=>?_
   obtain⟨ab,aj,_,rfl⟩:=Wa hu;exact Z _ _ ab aj
  ·intro i j c u hi hc hu;have hj:j<k:=by rw [←hk i hi];exact(List.getElem?_eq_some_iff.1 hc).1
   rw [afc hi hj]at hu;cases hu;exact ai i j c hi hc
  ·intro q u hu;obtain⟨ab,aj,aC,rfl⟩:=Wa hu;have:=cV _ _ ab aj
   rwa [Nat.add_assoc,←aC]at this
def yx(k:Nat)(get:Nat→V):lA M k 0 get []:=⟨by simp,by simp,by simp,by simp⟩
def lA.app{k n m:Nat}{get mi:Nat→V}{eL news:List Value}(h:lA M k n get eL)(ab:lA M k m mi news):lA M k (n+m) (λi=>bif Nat.blt i n then get i else mi (i-n)) (eL++news):=by
 have hb:∀i,(bif Nat.blt i n then get i else mi (i-n))=if i<n then get i else mi (i-n):=by
  intro i;by_cases hi:i<n
  ·have:Nat.blt i n=true:=by simpa using hi
   simp [this,hi]
  ·have:Nat.blt i n=false:=by rw [Bool.eq_false_iff];simpa using hi
   simp [this,hi]
 refine⟨by simp [h.len,ab.len,Nat.add_mul],λi hi=>?_,λu hu=>?_,λi j c u hi hc hu=>?_⟩
 ·rw [hb];split
  ·exact h.hk i (by assumption)
  ·exact ab.hk _ (by omega)
 ·rcases List.mem_append.1 hu with hu|hu
  ·exact h.one u hu
  ·exact ab.one u hu
 ·rw [hb]at hc;by_cases hin:i<n
  ·rw [if_pos hin]at hc;have hj:j<k:=by rw [←h.hk i hin];exact(List.getElem?_eq_some_iff.1 hc).1
   have cZ:i*k+j<eL.length:=by
    rw [h.len];have Z:(i+1)*k≤n*k:=Nat.mul_le_mul_right k hin;rw [Nat.add_mul]at Z;omega
   rw [List.getElem?_append_left cZ]at hu;exact h.rep i j c u hin hc hu
  ·rw [if_neg hin]at hc;have Wb:n*k≤i*k:=Nat.mul_le_mul_right k (by omega)
   rw [List.getElem?_append_right (by rw [h.len];omega),h.len]at hu
   have:i*k+j-n*k=(i-n)*k+j:=by rw [Nat.sub_mul];omega
   rw [this]at hu;exact ab.rep (i-n) j c u (by omega) hc hu
def lA.mono{M':Mem}(cV:M.le M'){k n:Nat}{get:Nat→V}{eL:List Value}(h:lA M k n get eL):lA M' k n get eL:=
 ⟨h.len,h.hk,h.one,λi j c u hi hc hu=>(h.rep i j c u hi hc hu).mono cV⟩
def lA.bI{k n cap b off:Nat}{get:Nat→V}{eL:List Value}(h:lA M k n get eL)(hc:n≤cap)(cV:∀(q:Nat) u,eL[q]? = some u→M b (off+q)=some u):
 df M (.slice (some ⟨b,off,none⟩) n cap) (.bI k n get):=by
 have hin:∀i j,i<n→j<k→eL[i*k+j]? = some (eL.getD (i*k+j) undef):=λi j hi hj=>ae4 h.len hi hj
 refine .bI b off k n cap get (λi j=>eL.getD (i*k+j) undef) hc h.hk (λi j hi hj=>?_) (λi j hi hj=>GO h.one (hin i j hi hj)) (λi j c hi l2=>?_)
 ·rw [Nat.add_assoc];exact cV _ _ (hin i j hi hj)
 ·have hj:j<k:=by rw [←h.hk i hi];exact(List.getElem?_eq_some_iff.1 l2).1
  exact h.rep i j c _ hi l2 (hin i j hi hj)
def afd(t hO ty e:TypeId)(i:TypeInfo)(aF:P.underlying t=some (.slice e))(hi:P.info? e=some i)(b vO l3:Nat)(x:Value)(n:Nat)(news:List Value)(hs:Src P i.size hO x n news w)
 (gm:vO+n≤l3) {vs:List Value} {T:TypeId} (bn:w.heap[b]? = some (.cells ⟨vs⟩ T (0,0))) (hle:vO*i.size+news.length≤vs.length):
 (Builtin.append_ #[t,hO] ty #[.slice (some ⟨b,0,none⟩) vO l3,x]).run P w = .ok (.slice (some ⟨b,0,none⟩) (vO+n) l3) (w.setRow b (vs.take (vO*i.size)++news++vs.drop (vO*i.size+news.length)).toArray):=by
 have dy:=run_storeCells_at P b (vO*i.size) T news 0 ⟨vs⟩ w bn (by simpa using hle) hs.one
 simp only [Nat.add_zero]at dy;rcases hs.kind with⟨bg,hk⟩|hk<;>simp [Builtin.append_,run_underlying aF,run_underlying hk,sizeOf,typeInfo,hi,hs.len,gm,hs.cells,addr_add,dy]
def afe(t hO ty e:TypeId)(i:TypeInfo)(aF:P.underlying t=some (.slice e))(hi:P.info? e=some i)(x:Value)(news:List Value)(hs:Src P i.size hO x 0 news w):
 (Builtin.append_ #[t,hO] ty #[.slice none 0 0,x]).run P w = .ok (.slice none 0 0) w:=by
 rcases hs.kind with⟨bg,hk⟩|hk<;>simp [Builtin.append_,run_underlying aF,run_underlying hk,sizeOf,typeInfo,hi,hs.len,hs.cells]
def GR{t hO:TypeId}{a x:Operand}{c:Call}(aw:o.op = .call c)(hc:c.callee = .builtin .append)(e8:c.args.toList=[a,x])(gX:c.argTypes.toList[0]? = some t)(o6:c.argTypes.toList[1]? = some hO)
 {hW NT:Value} (ha:(⟨tmps,[]⟩:Act).eval a=hW) (hx:(⟨tmps,[]⟩:Act).eval x=NT) {v:Value} {w':World}
 (h:∀ty,(Builtin.append_ #[t,hO] ty #[hW,NT]).run P w = .ok v w'):
 (execOp (Act.eval ⟨tmps,[]⟩) o).run P w = .ok (.value v) w':=by
 have vP:c.args = #[a,x]:=by apply Array.ext';simpa using e8
 have NU:∀ty,(Builtin.append_ c.argTypes ty #[hW,NT]).run P w = .ok v w':=by
  intro ty;have h0:c.argTypes[0]? = some t:=by simpa using gX
  have Z:c.argTypes[1]? = some hO:=by simpa using o6
  have:=h ty
  simp only [Builtin.append_,h0,Z]at this ⊢;exact this
 simp only [execOp,aw,resolve,hc,vP,Sem.run_bind,Sem.run_pure,Result.andThen_ok,invoke,builtin,List.map_toArray,List.map_cons,List.map_nil,ha,hx];simp [NU]
def aff(h:fY P K N M β g tmps w)(hp:fO tmps p)(cz:fD P tt=true){t hO e:TypeId}{aS ci:eP}(aa:look tt t=some aS)(hk:aS.k = .bI e)(eT:look tt e=some ci){s:Nat}{x:Operand}{c:Call}
 (aw:o.op = .call c) (hc:c.callee = .builtin .append) (e8:c.args.toList=[.tmp s,x]) (gX:c.argTypes.toList[0]? = some t) (o6:c.argTypes.toList[1]? = some hO)
 {n m:Nat} {get mi:Nat→V} (hs:rd g.env g.b6 p tt o.type (.tmp s)=some (.full ci.size n get)) (Cw:1≤ci.bytes) (hm:1≤m)
 {news:List Value} (iY:Src P ci.size hO ((⟨tmps,[]⟩:Act).eval x) m news w) (lB:lA M ci.size m mi news) (gm:(n+m)*ci.bytes≤140737488355328)
 {y:V} (cg:hD (.bI ci.size (n+m) λi=>bif Nat.blt i n then get i else mi (i-n)) y) {rs:List fv} {a6:List Prop}:
 Yields P K M β g {e:=some {d:=.v y,own:=some e},hM:=[s],rs,a6} o tmps w:=by
 obtain⟨r⟩:=eK cz aa;obtain⟨dQ⟩:=eK cz eT;have o5:=h.bA.hM [s];have eY:=ei (ds:=[]) h hp hs;have Cx:P.underlying t=some (.slice e):=by rw [r.hd,p1 r hk]
 have vQ:(⟨tmps,[]⟩:Act).eval (.tmp s)=tmps.getD s undef:=rfl;rw [vQ]at eY
 have sB:∃base,tmps.getD s undef = .slice base n n∧df M (.slice base n n) (.bI ci.size n get):=by
  generalize tmps.getD s undef=hW at eY
  cases eY with
  |full base k n get h=>exact⟨base,rfl,h⟩
 obtain⟨base,av,gM⟩:=sB;have cZ:n<n+m:=by omega
 have vR:∃eL:List Value,lA M ci.size n get eL∧∀w':World,w'.heap=w.heap→(Builtin.firstCells ci.size n (.slice base n n)).run P w' = .ok eL.toArray w':=by
  rcases NS (cy.v _ _ gM:cy M β _ _) with⟨q7|⟨a,q7⟩,kg⟩|⟨b,off,cap,eL,q7,hcap,holds,hold⟩
  ·simp only [Value.slice.injEq]at q7;obtain⟨rfl,rfl,_⟩:=q7;exact⟨[],yx _ _,λw' _=>run_firstCells_none w' ci.size 0 0 0⟩
  ·simp only [Value.slice.injEq]at q7;obtain⟨rfl,rfl,_⟩:=q7;refine⟨[],yx _ _,λw' oj=>?_⟩
   exact run_firstCells_some (P:=P) w' ci.size 0 a 0 0 [] (by simp) (λj u hj=>by simp at hj)
  ·simp only [Value.slice.injEq]at q7;obtain⟨rfl,_,rfl⟩:=q7;refine⟨eL,holds,λw' oj=>?_⟩
   refine run_firstCells_some (P:=P) w' ci.size n ⟨b,off,none⟩ n n eL (by rw [holds.len]) (λj u hj=>?_)
   rw [addr_add,ss (w:=w) (by rw [oj])]
   exact h.bA.mem _ _ _ (hold j u hj)
 obtain⟨eL,holds,vR⟩:=vR
 have NV:((n+m:Nat):Int)≤9223372036854775807:=by
  have:n+m≤(n+m)*ci.bytes:=Nat.le_mul_of_pos_right _ Cw
  omega
 have NW:=growslice_fits (need:=n+m) (old:=n) (bytes:=ci.bytes) cZ gm;have hcap:=grownCap_ge w (n+m) n e;have sC:=holds.app lB
 have vS:dQ.z.cells.size=ci.size:=by
  obtain⟨lw,_⟩:=yr (M:=M) dQ.Cn;have:=dQ.Ny
  simp at lw;omega
 generalize vK:(Builtin.zeroCells dQ.z.cells (grownCap w (n+m) n e-(n+m))).toList=zs
 have NX:Builtin.zeroCells dQ.z.cells (grownCap w (n+m) n e-(n+m))=zs.toArray:=by rw [←vK]
 have NY:zs.length=(grownCap w (n+m) n e-(n+m))*ci.size:=by
  rw [←vK];simp [Builtin.zeroCells,vS]
 have fg:∀ty,(Builtin.append_ #[t,hO] ty #[tmps.getD s undef,(⟨tmps,[]⟩:Act).eval x]).run P w =
  .ok (.slice (some ⟨w.heap.size,0,none⟩) (n+m) (grownCap w (n+m) n e)) (w.drew.alloc (.cells ⟨eL++news++zs⟩ e (0,0))):=by
  intro ty;have:=run_append_grow_src (P:=P) w t hO ty e dQ.info dQ.z Cx dQ.hi dQ.dx base n n eL (by rw [dQ.size];exact vR w.drew rfl) _ m news (by rw [dQ.size];exact iY) cZ NV (by rw [dQ.bytes];exact NW)
  rw [av,this,NX];simp
 have oj:(w.drew.alloc (.cells ⟨eL++news++zs⟩ e (0,0))).heap=w.heap.push (.cells ⟨eL++news++zs⟩ e (0,0)):=rfl
 have NZ:(eL++news++zs).length=grownCap w (n+m) n e*ci.size:=by
  rw [List.length_append,sC.len,NY,←Nat.add_mul];congr 1;omega
 obtain⟨cP,hle⟩:=o5.newRow (vs:=eL++news++zs) (T:=e) (n:=(n+m)*ci.size) oj
 have Cr:(eL++news++zs).take ((n+m)*ci.size)=eL++news:=by
  rw [List.take_append_of_le_length (by rw [sC.len];exact Nat.le_refl _),List.take_of_length_le (by rw [sC.len];exact Nat.le_refl _)]
 refine .inl ⟨_,_,GR aw hc e8 gX o6 vQ rfl fg,_,β,hle,λ_ _ h=>h,λ_ _ h=>.inl h,cP,λe1 he=>?_⟩
 cases he;refine⟨.v _ _ (cg _ _ ((sC.mono hle).bI hcap λq u hu=>?_)),λT l0 aH=>?_⟩
 ·rw [Cr];exact GQ hu
 ·cases aH;have:=NO (l0:=l0) (T:=e) o5 (vs:=eL++news++zs) (T':=e) (n:=n+m) (cap:=grownCap w (n+m) n e) rfl oj hcap (by rw [dQ.cellsOf,NZ];exact Nat.le_refl _)
  rw [dQ.cellsOf]at this;exact this
def Wc(h:fY P K N M β g tmps w)(hp:fO tmps p)(cz:fD P tt=true){t hO e:TypeId}{aS ci:eP}(aa:look tt t=some aS)(hk:aS.k = .bI e)(eT:look tt e=some ci){s:Nat}{x:Operand}{c:Call}
 (aw:o.op = .call c) (hc:c.callee = .builtin .append) (e8:c.args.toList=[.tmp s,x]) (gX:c.argTypes.toList[0]? = some t) (o6:c.argTypes.toList[1]? = some hO)
 {n m:Nat} {get mi:Nat→V} (hs:rd g.env g.b6 p tt o.type (.tmp s)=some (.v (.bI ci.size n get))) {N0:a7} (Cy:look g.env s=some N0) (gk:N0.own=some e) (Cw:1≤ci.bytes)
 {news:List Value} (iY:Src P ci.size hO ((⟨tmps,[]⟩:Act).eval x) m news w) (lB:lA M ci.size m mi news) (gm:(n+m)*ci.bytes≤140737488355328)
 {y:V} (cg:hD (.bI ci.size (n+m) λi=>bif Nat.blt i n then get i else mi (i-n)) y) {rs:List fv} {a6:List Prop}:
 Yields P K M β g {e:=some {d:=.v y,own:=some e},hM:=[s],rs,a6} o tmps w:=by
 obtain⟨r⟩:=eK cz aa;obtain⟨dQ⟩:=eK cz eT;have o5:=h.bA.hM [s];have eY:=ei (ds:=[]) h hp hs;have Cx:P.underlying t=some (.slice e):=by rw [r.hd,p1 r hk]
 have vQ:(⟨tmps,[]⟩:Act).eval (.tmp s)=tmps.getD s undef:=rfl;rw [vQ]at eY;have N1:=h.bA.own (.slot s) N0 e Cy gk;simp only [cv]at N1;have Cz:=h.bA.hand Cy gk
 -- mo row afg is grown
 have Wd:∀(base:Option Addr) (l3:Nat) (eL:List Value),tmps.getD s undef = .slice base n l3→lA M ci.size n get eL→
  (∀w':World,w'.heap=w.heap→(Builtin.firstCells ci.size n (.slice base n l3)).run P w' = .ok eL.toArray w')→l3<n+m→
  Yields P K M β g {e:=some {d:=.v y,own:=some e},hM:=[s],rs,a6} o tmps w:=by
  intro base l3 eL av holds vR cZ
  have NV:((n+m:Nat):Int)≤9223372036854775807:=by
   have:n+m≤(n+m)*ci.bytes:=Nat.le_mul_of_pos_right _ Cw
   omega
  have NW:=growslice_fits (need:=n+m) (old:=l3) (bytes:=ci.bytes) cZ gm;have hcap:=grownCap_ge w (n+m) l3 e;have sC:=holds.app lB
  have vS:dQ.z.cells.size=ci.size:=by
   obtain⟨lw,_⟩:=yr (M:=M) dQ.Cn;have:=dQ.Ny
   simp at lw;omega
  generalize vK:(Builtin.zeroCells dQ.z.cells (grownCap w (n+m) l3 e-(n+m))).toList=zs
  have NX:Builtin.zeroCells dQ.z.cells (grownCap w (n+m) l3 e-(n+m))=zs.toArray:=by rw [←vK]
  have NY:zs.length=(grownCap w (n+m) l3 e-(n+m))*ci.size:=by
   rw [←vK];simp [Builtin.zeroCells,vS]
  have fg:∀ty,(Builtin.append_ #[t,hO] ty #[tmps.getD s undef,(⟨tmps,[]⟩:Act).eval x]).run P w =
   .ok (.slice (some ⟨w.heap.size,0,none⟩) (n+m) (grownCap w (n+m) l3 e)) (w.drew.alloc (.cells ⟨eL++news++zs⟩ e (0,0))):=by
   intro ty;have:=run_append_grow_src (P:=P) w t hO ty e dQ.info dQ.z Cx dQ.hi dQ.dx base n l3 eL (by rw [dQ.size];exact vR w.drew rfl) _ m news (by rw [dQ.size];exact iY) cZ NV (by rw [dQ.bytes];exact NW)
   rw [av,this,NX];simp
  have oj:(w.drew.alloc (.cells ⟨eL++news++zs⟩ e (0,0))).heap=w.heap.push (.cells ⟨eL++news++zs⟩ e (0,0)):=rfl
  have NZ:(eL++news++zs).length=grownCap w (n+m) l3 e*ci.size:=by
   rw [List.length_append,sC.len,NY,←Nat.add_mul];congr 1;omega
  obtain⟨cP,hle⟩:=o5.newRow (vs:=eL++news++zs) (T:=e) (n:=(n+m)*ci.size) oj
  have Cr:(eL++news++zs).take ((n+m)*ci.size)=eL++news:=by
   rw [List.take_append_of_le_length (by rw [sC.len];exact Nat.le_refl _),List.take_of_length_le (by rw [sC.len];exact Nat.le_refl _)]
  refine .inl ⟨_,_,GR aw hc e8 gX o6 vQ rfl fg,_,β,hle,λ_ _ h=>h,λ_ _ h=>.inl h,cP,λe1 he=>?_⟩
  cases he;refine⟨.v _ _ (cg _ _ ((sC.mono hle).bI hcap λq u hu=>?_)),λT l0 aH=>?_⟩
  ·rw [Cr];exact GQ hu
  ·cases aH;have:=NO (l0:=l0) (T:=e) o5 (vs:=eL++news++zs) (T':=e) (n:=n+m) (cap:=grownCap w (n+m) l3 e) rfl oj hcap (by rw [dQ.cellsOf,NZ];exact Nat.le_refl _)
   rw [dQ.cellsOf]at this;exact this
 have b1:(tmps.getD s undef = .slice none 0 0∧n=0)∨∃(b off cap:Nat) (eL:List Value),tmps.getD s undef = .slice (some ⟨b,off,none⟩) n cap∧n≤cap∧lA M ci.size n get eL∧∀(q:Nat) u,eL[q]? = some u→M b (off+q)=some u:=by
  rcases NS eY with⟨av|⟨a,av⟩,kg⟩|hx
  ·exact .inl ⟨av,kg⟩
  ·subst kg;rcases N1 with h0|⟨bH,n',We,vs,T',Z,_⟩
   ·exact .inl ⟨h0,rfl⟩
   ·rw [av]at Z;simp only [Value.slice.injEq,Option.some.injEq]at Z;obtain⟨rfl,rfl,rfl⟩:=Z;exact .inr ⟨bH,0,0,[],av,Nat.le_refl _,yx _ _,λq u hu=>by simp at hu⟩
  ·exact .inr hx
 rcases b1 with⟨av,kg⟩|⟨b,off,cap,eL,av,hcap,holds,hold⟩
 ·subst kg;by_cases hm:m=0
  ·subst hm;refine .inl ⟨_,_,GR aw hc e8 gX o6 (vQ.trans av) rfl (λty=>afe (w:=w) t hO ty e dQ.info Cx dQ.hi _ news (by rw [dQ.size];exact iY)),M,β,Mem.le_refl _,λ_ _ h=>h,λ_ _ h=>.inl h,o5,λe1 he=>?_⟩
   cases he;exact⟨.v _ _ (cg _ _ (.mh _ _)),λT l0 _=>Nt l0 T⟩
  ·refine Wd none 0 [] av (yx _ _) (λw' _=>run_firstCells_none w' ci.size 0 0 0) (by omega)
 ·by_cases cZ:cap<n+m
  ·refine Wd (some ⟨b,off,none⟩) cap eL av holds (λw' oj=>?_) cZ
   refine run_firstCells_some (P:=P) w' ci.size n ⟨b,off,none⟩ n cap eL (by rw [holds.len]) (λj u hj=>?_)
   rw [addr_add,ss (w:=w) (by rw [oj])]
   exact h.bA.mem _ _ _ (hold j u hj)
  · -- there is room
   rcases N1 with h0|⟨bH,n',We,vs,T',Z,asO,bn,nv,kA,dP,sy⟩
   ·rw [av]at h0;simp at h0
   ·rw [av]at Z;simp only [Value.slice.injEq,Option.some.injEq,Addr.mk.injEq,and_true]at Z;obtain⟨⟨rfl,rfl⟩,rfl,rfl⟩:=Z;rw [dQ.cellsOf]at nv kA
    have hlen:n*ci.size+news.length≤vs.length:=by
     rw [lB.len,←Nat.add_mul];exact Nat.le_trans (Nat.mul_le_mul_right _ (by omega)) nv
    have fg:∀ty,(Builtin.append_ #[t,hO] ty #[tmps.getD s undef,(⟨tmps,[]⟩:Act).eval x]).run P w =
     .ok (.slice (some ⟨b,0,none⟩) (n+m) cap) (w.setRow b (vs.take (n*ci.size)++news++vs.drop (n*ci.size+news.length)).toArray):=by
     intro ty;have:=afd (P:=P) (w:=w) t hO ty e dQ.info Cx dQ.hi b n cap _ m news (by rw [dQ.size];exact iY) (by omega) bn (by rw [dQ.size];exact hlen)
     rw [dQ.size]at this;rw [av,this]
    generalize Wf:vs.take (n*ci.size)++news++vs.drop (n*ci.size+news.length)=vs' at fg
    have afh:vs'.length=vs.length:=by rw [←Wf,Cs hlen]
    have vL:(w.setRow b vs'.toArray).heap[b]? = some (.cells ⟨vs'⟩ T' (0,0)):=setRow_heap w b _ _ T' (0,0) bn;have hle:M.le (jk M b (n*ci.size) news):=NN kA;have kw:h' (tmps.getD s undef)=some b:=by rw [av];rfl
    have cP:bN P K (jk M b (n*ci.size) news) β {env:=hE [s] g.env,H:=g.H,aW:=g.aW} tmps (w.setRow b vs'.toArray):=by
     refine o5.free b dP (λr cs ai hb=>(Cz (.slot s)).unbox b r cs kw ai hb) (λl e1 hG fm t8=>?_) (λbH di _=>setRow_other w b bH _ di) hle (λbH o' di=>?_) (λo' m6 o7=>?_)
     ·by_cases GS:l = .slot s
      ·subst GS;simp only [aM.at,ol,List.mem_singleton,if_true,Option.map_eq_some_iff]at fm;obtain⟨_,_,rfl⟩:=fm;simp at t8
      ·exact(Cz (.slot s)).apart l e1 hG b fm t8 GS kw
     ·simp [jk,di]
     ·rw [cell_of_heap vL,←Wf,NR hlen];unfold jk at o7;split at o7
      ·rename_i ke;rw [if_pos ⟨ke.2.1,ke.2.2⟩];exact o7
      ·rename_i ke;rw [if_neg (λCA=>ke ⟨rfl,CA.1,CA.2⟩)]
       have:=h.bA.mem _ _ _ o7
       rwa [cell_of_heap bn]at this
    refine .inl ⟨_,_,GR aw hc e8 gX o6 vQ rfl fg,_,β,hle,λ_ _ h=>h,λ_ _ h=>.inl h,cP,λe1 he=>?_⟩
    cases he;refine⟨.v _ _ (cg _ _ (((holds.app lB).mono hle).bI (by omega) λq u hu=>?_)),λT l0 aH=>?_⟩
    ·by_cases ao:q<eL.length
     ·rw [List.getElem?_append_left ao]at hu;exact hle _ _ _ (hold q u hu)
     ·rw [List.getElem?_append_right (by omega)]at hu
      have:=GQ (M:=M) (b:=b) (lo:=n*ci.size) hu
      rw [holds.len]at this;rw [Nat.zero_add];have p3:n*ci.size+(q-n*ci.size)=q:=by rw [holds.len]at ao;omega
      rwa [p3]at this
    ·cases aH;refine⟨.inr ⟨b,n+m,cap,vs',T',rfl,by omega,vL,by rw [dQ.cellsOf,afh];exact nv,λo' kX=>?_,dP,sy⟩,λl e1 hG c6 fm t8 _ dc=>?_,λc6 r cs dc ai=>?_⟩
     ·rw [dQ.cellsOf,Nat.add_mul]at kX;unfold jk;rw [if_neg (λCA=>by rw [lB.len]at CA;omega)]
      exact kA o' (by omega)
     ·simp [h']at dc;subst dc
      have GS:l ≠ .slot s:=by
       rintro rfl
       simp only [after,aM.at,ol,List.mem_singleton,if_true,Option.map_eq_some_iff]at fm;obtain⟨_,_,rfl⟩:=fm;simp at t8
      have afi:cv tmps (w.setRow b vs'.toArray) β l=cv tmps w β l:=by
       cases l with
       |slot yo=>rfl
       |cell r i=>
        have eT:=fm;simp only [after,aM.at]at eT;cases ai:look g.H r with
        |none=>simp [ai]at eT
        |some cs=>
         obtain⟨jl,afj,pZ,fC,GT,_⟩:=h.bA.box r cs ai;have di:jl≠b:=by rintro rfl;exact(Cz (.slot s)).unbox jl r cs kw ai fC
         simp only [cv,fC];rw [ss (w:=w) (setRow_other w b jl _ di)]
      rw [afi];exact(Cz (.slot s)).apart l e1 hG b fm t8 GS kw
     ·simp [h']at dc;subst dc;exact(Cz (.slot s)).unbox b r cs kw ai
def Wg(h:bN P K M β {env:=g.env,H:=g.H,aW:=g.aW} tmps w)(cz:fD P tt=true){hO e2:TypeId}{aS:eP}(aa:look tt hO=some aS)(hk:aS.k = .bI e2){v:Value}{k m:Nat}{get:Nat→V}
 (av:cy M β v (.v (.bI k m get))):∃news,Src P k hO v m news w∧lA M k m get news:=by
 obtain⟨r⟩:=eK cz aa;have hu:P.underlying hO=some (.slice e2):=by rw [r.hd,p1 r hk]
 rcases NS av with⟨rfl|⟨a,rfl⟩,rfl⟩|⟨b,off,cap,eL,rfl,_,lB,hold⟩
 ·exact⟨[],Src.ofNil w hu 0,yx _ _⟩
 ·exact⟨[],Src.ofSlice w hu a 0 0 [] (by simp) (λj u hj=>by simp at hj) (by simp),yx _ _⟩
 ·have hc:∀(j:Nat) u,eL[j]? = some u→w.cell? ((⟨b,off,none⟩:Addr).add j)=some u:=λj u hj=>by rw [addr_add];exact h.mem _ _ _ (hold j u hj)
  exact⟨eL,Src.ofSlice w hu _ m cap eL lB.len hc lB.one,lB⟩
def afk(cz:fD P tt=true){hO:TypeId}{aS:eP}(aa:look tt hO=some aS)(hk:aS.k = .str)(l:aux)(M:Mem):
 ∃news,Src P 1 hO (.string ⟨⟨l⟩⟩) l.length news w∧lA M 1 l.length (λi=>.int .u8 (l.getD i 0).toNat) news:=by
 obtain⟨r⟩:=eK cz aa;have hu:P.underlying hO=some .string:=by rw [r.hd,q4 r hk]
 refine⟨byteCells ⟨⟨l⟩⟩,Src.ofString w hu ⟨⟨l⟩⟩,⟨by simp [byteCells],λi _=>rfl,λu hu=>?_,λi j c u hi hc hu=>?_⟩⟩
 ·obtain⟨_,_,rfl⟩:=List.mem_map.1 hu;rfl
 ·cases j with
  |succ j=>simp [V.cells]at hc
  |zero=>
   simp [V.cells]at hc;subst hc;simp only [byteCells,Nat.mul_one,Nat.add_zero,List.getElem?_map,Option.map_eq_some_iff]at hu;obtain⟨a,ha,rfl⟩:=hu;have:l[i]? = some a:=ha
   simp [this];exact .int _ _
end
end Go.Ab

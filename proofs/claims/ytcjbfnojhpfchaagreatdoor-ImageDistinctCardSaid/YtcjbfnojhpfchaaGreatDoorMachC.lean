/- The abstract machine: a step of code over plain data, proved against the model. -/
import Derived.Orders
import Derived.Scope
import Derived.Recover
import Derived.Lib.Builder
import Derived.Lib.UnsafeStr
import Derived.ChangeSame
import Derived.OpenShut
import Derived.ReadAgain
import Derived.Test.YtcjbfnojhpfchaaGreatDoorMachB
set_option linter.all false
namespace Go.Ab
section
variable {P:Program} {N E:Nat} {st bD:az}
def aS.drop{c:Code}{Q:bY→az→Prop}(live sV:List Nat)(n:Nat)(ai:qF live sV n st.env st.H st.aJ=some bD)(b7:Nat.ble E n=true)(h:aS P N E c Q bD):aS P N E c Q st:=by
 rintro K dT a w ⟨he,hd,dz,M,β,ci⟩
 obtain⟨vU,hs⟩:=ci.qF ai (λr b hb=>Nat.lt_of_lt_of_le (dT r b hb) (by simpa using b7))
 exact h K dT a w ⟨he,hd,dz,M,vU,hs⟩
end
def all_nil:i7 []:=trivial
def all_cons{p:Prop}{l:List Prop}(h:p)(ab:i7 l):i7 (p::l):=⟨h,ab⟩
inductive aA(α β:Type) where
 |ret (a:α) (b:β)
 |aW (x:V) (b:β)
def aA.on{α β c6:Type}(x:aA α β)(f:α→β→c6)(g:V→β→c6):c6:=
 match x with
 |.ret a b=>f a b
 |.aW x b=>g x b
def fO{b:Bool}(h:b=false):(!b)=true:=by subst h;rfl
def D_{a b:Bool}(h:a=true)(ad:b=true):(a&&b)=true:=by subst h;subst ad;rfl
inductive iG:List V→List V→Prop where
 |nil:iG [] []
 |cons {x y:V} {xs ys:List V} (h:fX x y) (ab:iG xs ys):iG (x::xs) (y::ys)
def iG.len:∀{xs ys:List V},iG xs ys→xs.length=ys.length
 |_,_,.nil=>rfl
 |_,_,.cons _ ab=>by simp [ab.len]
def iG.at:∀{xs ys:List V},iG xs ys→∀(i:Nat) {y:V},ys[i]? = some y→∃x,xs[i]? = some x∧fX x y
 |_,_,.nil,i,y,h=>by simp at h
 |_,_,.cons h ab,i,y,bX=>by
  cases i with
  |zero=>simp at bX;subst bX;exact⟨_,rfl,h⟩
  |succ i=>simp at bX;simpa using ab.at i bX
def Ls{xs ys:List V}(h:iG xs ys):fX (.agg xs) (.agg ys):=by
 intro M v ar;cases ar with
 |agg vs cs hn Z ai=>
  refine .agg vs ys (hn.trans h.len) Z (λi v c ar hc=>?_)
  obtain⟨x,hx,hi⟩:=h.at i hc;exact hi M v (ai i v x ar hx)
def Vl{k n:Nat}{g es:Nat→V}(h:∀i,i<n→iG (g i).cells (es i).cells):fX (.bm k n g) (.bm k n es):=by
 intro M v ar;cases ar with
 |j_=>exact .j_ _ _
 |mO=>exact .mO _ _ _
 |bm b off k n cap g val hc hk cr Z ai=>
  refine .bm b off k n cap es val hc (λi hi=>by rw [←(h i hi).len];exact hk i hi) cr Z (λi j c hi kg=>?_)
  obtain⟨x,hx,Vm⟩:=(h i hi).at j kg;exact Vm M _ (ai i j x hi hx)
inductive jR{α:Type}(e:α→V):List V→List α→Prop where
 |nil:jR e [] []
 |cons {x:V} {y:α} {xs:List V} {ys:List α} (h:iG x.cells (e y).cells) (ab:jR e xs ys):jR e (x::xs) (y::ys)
def jR.len{α:Type}{e:α→V}:∀{xs:List V} {ys:List α},jR e xs ys→xs.length=ys.length
 |_,_,.nil=>rfl
 |_,_,.cons _ ab=>by simp [ab.len]
def jR.at{α:Type}[Inhabited α]{e:α→V}:∀{xs:List V} {ys:List α},jR e xs ys→∀(i:Nat),i<ys.length→iG (xs.getD i .dD).cells (e (ys.getD i default)).cells
 |_,_,.nil,i,h=>by simp at h
 |_,_,.cons h ab,i,bX=>by
  cases i with
  |zero=>simpa using h
  |succ i=>simpa using ab.at i (by simpa using bX)
def y7{α:Type}[Inhabited α]{k:Nat}{e:α→V}{xs:List V}{l:List α}(h:jR e xs l)(n:Nat)(hn:n=l.length):fX (.bm k n λi=>xs.getD i .dD) (af k e l):=by
 subst hn;exact Vl λi hi=>h.at i hi
section
variable {tt:c7} {g1 g2:cG} {p:Path} {o:Oper} {ops:List Oper} {bL:fw}
def Ea{x:Operand}(h:∀t,x = .tmp t→look g1.env t=look g2.env t∧look g1.bB t=look g2.bB t)(p:Path)(ty:TypeId):rd g1.env g1.bB p tt ty x=rd g2.env g2.bB p tt ty x:=by
 cases x with
 |tmp t=>
  obtain⟨Z,ad⟩:=h t rfl;simp only [rd,Z,ad]
 |const v=>cases v with
  |slice a n c=>cases a<;>cases n<;>cases c<;>rfl
  |_=>rfl
 |global _=>rfl
 |func _=>rfl
def Vn{x:Operand}(h:∀t,x = .tmp t→look g1.env t=look g2.env t):mR g1 x=mR g2 x:=by
 cases x with
 |tmp t=>simp only [mR,h t rfl]
 |_=>rfl
def vV{α β:Type}{f pL:α→Option β}:∀{l:List α},(∀x,x∈l→f x=pL x)→mapM' f l=mapM' pL l
 |[],_=>rfl
 |x::l,h=>by simp only [mapM',h x (by simp),vV (l:=l) λy bX=>h y (by simp [bX])]
def Eb{f pL:TypeId→Operand→Option D}:∀{l:List Operand} {ts:List TypeId},(∀x,x∈l→∀t,f t x=pL t x)→jK f l ts=jK pL l ts
 |[],_,_=>by simp [jK]
 |x::l,[],_=>by simp [jK]
 |x::l,t::ts,h=>by simp only [jK,h x (by simp) t,Eb (l:=l) (ts:=ts) λy bX=>h y (by simp [bX])]
def gZ(tt:c7)(g:cG)(p:Path)(o:Oper):List Nat:=
 match o.op with
 |.alloc _ |.box _ _=>match o.dst.bind (look g.ids)with |some id=>[id] |none=>[]
 |.load _ a=>match rd g.env g.bB p tt o.type a with |some (.ptr q _)=>[q] |_=>[]
 |.store _ a _=>match rd g.env g.bB p tt o.type a with |some (.ptr q _)=>[q] |_=>[]
 |.call c=>match c.callee with
  |.value x=>match rd g.env g.bB p tt o.type x,jK (rd g.env g.bB p tt) c.args.toList c.argTypes.toList with
   |some (.fn _ er),some ds=>mg g.H 2 (dedup ((ds++er).flatMap refs))
   |_,_=>[]
  |_=>[]
 |_=>[]
def y8{x:Nat}:∀{l:List Nat},x∈l→x∈dedup l
 |y::l,h=>by
  simp only [dedup];rw [Bool.cond_eq_ite];split
  ·rename_i bX;rcases List.mem_cons.1 h with rfl|h
   ·obtain⟨z,dM,Vo⟩:=List.any_eq_true.1 bX;have:x=z:=by simpa using Vo
    subst this;exact dM
   ·exact y8 h
  ·rcases List.mem_cons.1 h with rfl|h
   ·simp
   ·exact List.mem_cons_of_mem _ (y8 h)
def Lt{H:List (Nat×List aM)}:∀{n:Nat} {l:List Nat} {x:Nat},x∈l→x∈mg H n l
 | 0,_,_,h=>h
 |n+1,_,_,h=>Lt (n:=n) (y8 (List.mem_append_left _ h))
def Lu{α β:Type}{f pL:α→List β}:∀{l:List α},(∀x,x∈l→f x=pL x)→l.flatMap f=l.flatMap pL
 |[],_=>rfl
 |x::l,h=>by simp only [List.flatMap_cons,h x (by simp),Lu (l:=l) λy bX=>h y (by simp [bX])]
def Ec{H1 ch:List (Nat×List aM)}:∀{n:Nat} {l:List Nat},(∀q,q∈mg H1 n l→look H1 q=look ch q)→mg H1 n l=mg ch n l
 | 0,_,_=>rfl
 |n+1,l,h=>by
  simp only [mg]at h ⊢
  have:(l.flatMap λr=>((look H1 r).getD []).flatMap λe=>refs e.d)=l.flatMap λr=>((look ch r).getD []).flatMap λe=>refs e.d:=
   Lu λr ai=>by rw [h r (Lt (y8 (List.mem_append_left _ ai)))]
  rw [←this];exact Ec h
def Lv{H1 ch:List (Nat×List aM)}:∀{l:List Nat},(∀q,q∈l→look H1 q=look ch q)→boxes H1 l=boxes ch l
 |[],_=>rfl
 |r::l,h=>by simp only [boxes,h r (by simp),Lv (l:=l) λq ax=>h q (by simp [ax])]
def Lw{xs:List Operand}{ts:List TypeId}(hs:∀t,Operand.tmp t∈xs→look g1.env t=look g2.env t∧look g1.bB t=look g2.bB t):∀os:List Nat,handed tt g1 xs ts os=handed tt g2 xs ts os
 |[]=>rfl
 |i::os=>by
  simp only [handed,Lw hs os];split
  ·rename_i t l hx ab;obtain⟨Z,ad⟩:=hs t (List.mem_of_getElem? hx);rw [Z,ad]
  ·rfl
  ·rfl
def Vp{xs:List Operand}{ts:List TypeId}{f:FuncId}{args:List D}(hs:∀t,Operand.tmp t∈xs→look g1.env t=look g2.env t∧look g1.bB t=look g2.bB t)(d':g1.rs=g2.rs)(ey:∀q,q∈mg g1.H 2 (dedup (args.flatMap refs))→look g1.H q=look g2.H q):sN bL tt g1 p xs ts f args=sN bL tt g2 p xs ts f args:=by
 have Z:mg g1.H 2 (dedup (args.flatMap refs))=mg g2.H 2 (dedup (args.flatMap refs)):=Ec ey;unfold sN;simp only [←Z,←d',←Lv ey,←λos=>Lw (tt:=tt) (ts:=ts) hs os]
def nS(o:Oper):Bool:=
 match o.op with
 |.alloc _ |.box _ _=>true
 |_=>false
def Lx(nT:g1.ids=g2.ids)(hn:g1.aJ=g2.aJ)(ey:∀id,o.dst.bind (look g1.ids)=some id→look g1.H id=look g2.H id):lM g1 o=lM g2 o:=by
 unfold lM;rw [←nT,←hn];split
 ·rename_i id h;rw [ey id h]
 ·rfl
def Ed(hs:∀x,x∈o.op.operands.toList→∀t,x = .tmp t→look g1.env t=look g2.env t∧look g1.bB t=look g2.bB t)(d':g1.rs=g2.rs)(nT:g1.ids=g2.ids)
 (hn:nS o=true→g1.aJ=g2.aJ) (ey:∀q,q∈gZ tt g1 p o→look g1.H q=look g2.H q):step1 bL tt ops g1 p o=step1 bL tt ops g2 p o:=by
 have R:∀x,x∈o.op.operands.toList→∀p ty,rd g1.env g1.bB p tt ty x=rd g2.env g2.bB p tt ty x:=λx hx p ty=>Ea (hs x hx) p ty
 have O:∀x,x∈o.op.operands.toList→mR g1 x=mR g2 x:=λx hx=>Vn λt bH=>(hs x hx t bH).1
 cases am:o.op with
 |move x=>simp only [am,Op.operands]at R O;simp only [step1,am,R x (by simp),O x (by simp),d']
 |assign x=>simp only [am,Op.operands]at R O;simp only [step1,am,R x (by simp),O x (by simp),d']
 |pick c a b=>
  simp only [am,Op.operands]at R O;cases c with
  |tmp c=>simp only [step1,am,R (.tmp c) (by simp),R a (by simp),R b (by simp),d']
  |_=>simp only [step1,am]
 |alloc t=>
  have hi:lM g1 o=lM g2 o:=Lx nT (hn (by simp [nS,am])) λid hid=>ey id (by simp [gZ,am,hid])
  simp only [step1,am,d',hi]
 |box t x=>
  have hi:lM g1 o=lM g2 o:=Lx nT (hn (by simp [nS,am])) λid hid=>ey id (by simp [gZ,am,hid])
  simp only [am,Op.operands]at R O;simp only [step1,am,R x (by simp),d',hi]
 |build t parts=>
  simp only [am,Op.operands]at R O
  have:mapM' (fun(i,x)=>(rd g1.env g1.bB p tt (oE tt t i) x).map λd=>(i,d)) parts.toList=mapM' (fun(i,x)=>(rd g2.env g2.bB p tt (oE tt t i) x).map λd=>(i,d)) parts.toList:=
   vV λy bX=>by
    obtain⟨i,x⟩:=y;simp only [R x (List.mem_map.2 ⟨(i,x),bX,rfl⟩)]
  simp only [step1,am,this,d']
 |buildSlice t len parts=>
  simp only [am,Op.operands]at R O
  have:mapM' (fun(i,x)=>(rd g1.env g1.bB p tt (oE tt t i) x).map λd=>(i,d)) parts.toList=mapM' (fun(i,x)=>(rd g2.env g2.bB p tt (oE tt t i) x).map λd=>(i,d)) parts.toList:=
   vV λy bX=>by
    obtain⟨i,x⟩:=y;simp only [R x (List.mem_map.2 ⟨(i,x),bX,rfl⟩)]
  simp only [step1,am,this,d']
 |load t a=>
  simp only [am,Op.operands]at R O;simp only [gZ,am,R a (by simp)]at ey
  simp only [step1,am,R a (by simp),d']
  split
  ·rename_i q off aB ha yW;simp only [ha]at ey;simp only [ey q (by simp)]
  ·rfl
  ·rfl
 |store t a x=>
  simp only [am,Op.operands]at R O;simp only [gZ,am,R a (by simp)]at ey
  simp only [step1,am,R a (by simp),R x (by simp),O x (by simp),d']
  split
  ·rename_i q off d aB ha hd yW;simp only [ha]at ey;simp only [ey q (by simp)]
  ·rfl
 |nilCheck x=>simp only [am,Op.operands]at R O;simp only [step1,am,R x (by simp),d']
 |binOp op t x y t2=>simp only [am,Op.operands]at R O;simp only [step1,am,R x (by simp),R y (by simp),d']
 |unOp op t x=>simp only [am,Op.operands]at R O;simp only [step1,am,R x (by simp),d']
 |convert s t x=>simp only [am,Op.operands]at R O;simp only [step1,am,R x (by simp),d']
 |makeInterface t x=>simp only [am,Op.operands]at R O;simp only [step1,am,R x (by simp),d']
 |makeFunc fn first er=>
  simp only [am,Op.operands]at R O;cases fn with
  |func f=>
   have:mapM' (rd g1.env g1.bB p tt o.type) er.toList=mapM' (rd g2.env g2.bB p tt o.type) er.toList:=vV λx hx=>R x (by rw [Array.toList_append];exact List.mem_append_right _ hx) _ _
   simp only [step1,am,this,d']
  |_=>simp only [step1,am]
 |slice t x lo hi ka=>
  simp only [am,Op.operands]at R O
  have ij:lo.map (rd g1.env g1.bB p tt o.type)=lo.map (rd g2.env g2.bB p tt o.type):=by
   cases lo with
   |none=>rfl
   |some l=>simp [R l (by simp)]
  have hO:hi.map (rd g1.env g1.bB p tt o.type)=hi.map (rd g2.env g2.bB p tt o.type):=by
   cases hi with
   |none=>rfl
   |some l=>simp [R l (by simp)]
  have Vq:ka.map (rd g1.env g1.bB p tt o.type)=ka.map (rd g2.env g2.bB p tt o.type):=by
   cases ka with
   |none=>rfl
   |some m=>simp [R m (by simp)]
  simp only [step1,am,R x (by simp),ij,hO,Vq,d']
 |fieldAddr s x f=>simp only [am,Op.operands]at R O;simp only [step1,am,R x (by simp),d']
 |field s x f=>simp only [am,Op.operands]at R O;simp only [step1,am,R x (by simp),d']
 |indexAddr t x i=>simp only [am,Op.operands]at R O;simp only [step1,am,R x (by simp),R i (by simp),d']
 |index t x i=>simp only [am,Op.operands]at R O;simp only [step1,am,R x (by simp),R i (by simp),d']
 |typeAssert x a t ok=>simp only [am,Op.operands]at R O;simp only [step1,am,R x (by simp),d']
 |extract x i=>simp only [am,Op.operands]at R O;simp only [step1,am,R x (by simp),d']
 |panic x=>simp only [am,Op.operands]at R O;simp only [step1,am,R x (by simp)]
 |call c=>
  simp only [am,Op.operands,Call.operands]at R O hs;cases hc:c.callee with
  |value x=>
   have hx:=R x (by simp [hc])
   have ha:jK (rd g1.env g1.bB p tt) c.args.toList c.argTypes.toList=jK (rd g2.env g2.bB p tt) c.args.toList c.argTypes.toList:=Eb λy bX t=>R y (by rw [Array.toList_append];exact List.mem_append_right _ bX) p t
   simp only [gZ,am,hc,hx,ha]at ey;simp only [step1,am,hc,hx,ha];split
   ·rename_i f er ds Z ad;simp only [Z,ad]at ey;exact Vp (λt bH=>hs (.tmp t) (by rw [Array.toList_append];exact List.mem_append_right _ bH) t rfl) d' ey
   ·rfl
  |invoke x m=>simp only [step1,am,hc]
  |builtin b=>
   have ha:mapM' (λy=>rd g1.env g1.bB p tt o.type y) c.args.toList=mapM' (λy=>rd g2.env g2.bB p tt o.type y) c.args.toList:=vV λx hx=>R x (by rw [Array.toList_append];exact List.mem_append_right _ hx) _ _
   cases b with
   |len=>simp only [step1,am,hc,ha,d']
   |min=>simp only [step1,am,hc,ha,d']
   |max=>simp only [step1,am,hc,ha,d']
   |append=>
    simp only [step1,am,hc,d'];split
    ·rename_i t x e eU adK adL _ t2 ab _ _;have hm:∀y,y∈[Operand.tmp t,x]→y∈(match c.callee with|.value f => #[f] |.invoke r _ => #[r] |.builtin _ => #[]:Array Operand).toList++c.args.toList:=λy bX=>by rw [ab];exact List.mem_append_right _ bX
     have ik:∀y,y∈[Operand.tmp t,x]→y∈((match c.callee with|.value f => #[f] |.invoke r _ => #[r] |.builtin _ => #[]:Array Operand)++c.args).toList:=λy bX=>by rw [Array.toList_append];exact hm y bX
     simp only [R (.tmp t) (ik _ (by simp)),R x (ik _ (by simp)),(hs (.tmp t) (ik _ (by simp)) t rfl).1]
    ·rfl
   |_=>simp only [step1,am,hc]
 |_=>simp only [step1,am]
end
structure dB where
 dst:Option Nat
 p:Path
 f:ji
 il:List Nat
 lg:List Nat
 m8:Bool
 rs:List eD
 fL:Nat:=0
 rk:V:=.dD
 m9:List (Nat×List aM):=[]
 pM:List (Nat×List aM):=[]
 lW:Nat:=0
def m'(ops:List Oper)(o:Oper):List Nat:=
 (o.op.operands.toList.filterMap fun|.tmp t=>some t|_=>none)++(match o.guard with
  |some (j,_)=>((ops[j]?).bind (·.dst)).toList
  |none=>[])
def dF(E:dB)(g:cG):cG:=
 match E.dst with
 |none=>{g with env:=fY E.f.f_ g.env,H:=E.f.hs++g.H,aJ:=g.aJ+E.f.e6}
 |some t=>match E.p with
  |[]=>{g with
   env:=match E.f.e with|some e=>(t,e)::fY E.f.f_ g.env|none=>del (fY E.f.f_ g.env) t
   bB:=del g.bB t,H:=E.f.hs++g.H,aJ:=g.aJ+E.f.e6}
  |_::_=>match E.f.e with
   |some e=>{g with env:=del g.env t,bB:=(t,E.p,e.d)::del g.bB t}
   |none=>g
def lX(E:dB):List Nat:=E.dst.toList++E.f.f_
def mu(E:dB):List Nat:=E.f.hs.map (·.1)
def ti{α:Type}:∀(a b:List (Nat×α)) (q:Nat),look (a++b) q=(match look a q with|some x=>some x|none=>look b q)
 |[],_,_=>rfl
 |(j,x)::a,b,q=>by
  simp only [List.cons_append,de,ti a b q];by_cases h:j=q<;>simp [h]
def Ly{α:Type}:∀{a:List (Nat×α)} {q:Nat},q∉a.map (·.1)→look a q=none
 |[],_,_=>rfl
 |(j,x)::a,q,h=>by
  simp only [List.map_cons,List.mem_cons,not_or]at h;rw [de,if_neg (Ne.symm h.1)];exact Ly h.2
section
variable {E:dB} {g g1 g2:cG}
def kM(g1 g2:cG)(t:Nat):Prop:=look g1.env t=look g2.env t∧look g1.bB t=look g2.bB t
def rl(g1 g2:cG)(q:Nat):Prop:=look g1.H q=look g2.H q
def rm{t:Nat}(h:t∉lX E):kM (dF E g) g t:=by
 simp only [lX,List.mem_append,not_or]at h;unfold kM dF;cases hd:E.dst with
 |none=>simp only [lQ,if_neg h.2,and_self]
 |some u=>
  have hu:u≠t:=by rintro rfl;simp [hd]at h
  cases hp:E.p with
  |nil=>
   dsimp only
   cases he:E.f.e with
   |some e=>simp only [de,if_neg hu,lQ,if_neg h.2,nE,and_self]
   |none=>simp only [lQ,if_neg h.2,nE,if_neg hu,and_self]
  |cons x p=>
   dsimp only
   cases he:E.f.e with
   |some e=>simp only [de,if_neg hu,nE,and_self]
   |none=>exact⟨rfl,rfl⟩
def Ee{t:Nat}(h:kM g1 g2 t):kM (dF E g1) (dF E g2) t:=by
 obtain⟨Z,ad⟩:=h;unfold kM dF;cases hd:E.dst with
 |none=>simp only [lQ,Z,ad,and_self]
 |some u=>
  cases hp:E.p with
  |nil=>
   dsimp only
   cases he:E.f.e with
   |some e=>simp only [de,lQ,Z,ad,nE,and_self]
   |none=>simp only [lQ,nE,Z,ad,and_self]
  |cons x p=>
   dsimp only
   cases he:E.f.e with
   |some e=>simp only [de,nE,Z,ad,and_self]
   |none=>exact⟨Z,ad⟩
def Ef:(dF E g).H=E.f.hs++g.H∨(dF E g).H=g.H:=by
 unfold dF;cases E.dst with
 |none=>exact .inl rfl
 |some u=>
  cases E.p with
  |nil=>exact .inl rfl
  |cons x p=>dsimp only;cases E.f.e<;>exact .inr rfl
def tj{q:Nat}(h:q∉mu E):rl (dF E g) g q:=by
 unfold rl;rcases Ef (E:=E) (g:=g)with Z|Z<;>rw [Z]
 rw [ti,Ly h]
def Eg{q:Nat}(h:rl g1 g2 q):rl (dF E g1) (dF E g2) q:=by
 unfold rl at *;unfold dF;cases E.dst with
 |none=>simp only [ti,h]
 |some u=>
  cases E.p with
  |nil=>simp only [ti,h]
  |cons x p=>dsimp only;cases E.f.e<;>exact h
def tk(E:dB):Nat:=
 match E.dst with
 |none=>E.f.e6
 |some _=>match E.p with
  |[]=>E.f.e6
  |_::_=>0
def y9:(dF E g).aJ=g.aJ+tk E:=by
 unfold dF tk;cases E.dst with
 |none=>rfl
 |some u=>
  cases E.p with
  |nil=>rfl
  |cons x p=>dsimp only;cases E.f.e<;>rfl
structure Alike(g1 g2:cG):Prop where
 slot:∀t,kM g1 g2 t
 box:∀q,rl g1 g2 q
 aJ:g1.aJ=g2.aJ
 ids:g1.ids=g2.ids
def y':(dF E g).ids=g.ids:=by
 unfold dF;cases E.dst with
 |none=>rfl
 |some u=>
  cases E.p with
  |nil=>rfl
  |cons x p=>dsimp only;cases E.f.e<;>rfl
def Alike.refl:Alike g g:=⟨λ_=>⟨rfl,rfl⟩,λ_=>rfl,rfl,rfl⟩
def Alike.symm(h:Alike g1 g2):Alike g2 g1:=⟨λt=>⟨(h.slot t).1.symm,(h.slot t).2.symm⟩,λq=>(h.box q).symm,h.aJ.symm,h.ids.symm⟩
def Alike.trans{g3:cG}(h:Alike g1 g2)(cL:Alike g2 g3):Alike g1 g3:=⟨λt=>⟨(h.slot t).1.trans (cL.slot t).1,(h.slot t).2.trans (cL.slot t).2⟩,λq=>(h.box q).trans (cL.box q),h.aJ.trans cL.aJ,h.ids.trans cL.ids⟩
def Alike.ap(h:Alike g1 g2):Alike (dF E g1) (dF E g2):=
 ⟨λt=>Ee (h.slot t),λq=>Eg (h.box q),(by simp only [y9,h.aJ]),by simp only [y',h.ids]⟩
def sep(a b:List Nat):Bool:=a.all λx=>!b.any (Nat.beq x)
def rn{a b:List Nat}(h:sep a b=true){x:Nat}(ha:x∈a):x∉b:=by
 intro hb;have:=List.all_eq_true.1 h x ha
 simp only [Bool.not_eq_true',List.any_eq_false]at this;exact this x hb (by simp)
def vW(E cx:dB):Bool:=
 sep (lX E) cx.lg&&sep (lX E) (lX cx)&&sep (lX cx) E.lg&&(sep (mu E) cx.il||Nat.beq E.lW 2&&Nat.beq cx.lW 1)&&sep (mu E) (mu cx)&&(sep (mu cx) E.il||Nat.beq cx.lW 2&&Nat.beq E.lW 1)&&(!E.m8||Nat.beq (tk cx) 0)&&(!cx.m8||Nat.beq (tk E) 0)
def Vr{E cx:dB}(Z:sep (lX E) (lX cx)=true)(ad:sep (mu E) (mu cx)=true):Alike (dF E (dF cx g)) (dF cx (dF E g)):=by
 refine⟨λt=>?_,λq=>?_,?_,by simp only [y']⟩
 ·by_cases bH:t∈lX E
  ·have mn:=rn Z bH;have a:kM (dF E (dF cx g)) (dF E g) t:=Ee (rm mn);have b:kM (dF cx (dF E g)) (dF E g) t:=rm mn;exact⟨a.1.trans b.1.symm,a.2.trans b.2.symm⟩
  ·have a:kM (dF E (dF cx g)) (dF cx g) t:=rm bH;have b:kM (dF cx (dF E g)) (dF cx g) t:=Ee (rm bH);exact⟨a.1.trans b.1.symm,a.2.trans b.2.symm⟩
 ·by_cases bH:q∈mu E
  ·have mn:=rn ad bH;exact(Eg (E:=E) (tj (E:=cx) (g:=g) mn)).trans (tj (E:=cx) (g:=dF E g) mn).symm
  ·exact(tj (E:=E) (g:=dF cx g) bH).trans (Eg (E:=cx) (tj (E:=E) (g:=g) bH)).symm
 ·simp only [y9];omega
end
section
variable {tt:c7} {ops:List Oper} {bL:fw} {o:Oper} {E:dB} {g g1 g2:cG}
def Lz(h:∀t,t∈m' ops o→kM g1 g2 t):mT ops g1 o=mT ops g2 o:=by
 unfold mT;split
 ·rfl
 ·rename_i j w hg;cases bH:(ops[j]?).bind (·.dst) with
  |none=>rfl
  |some t=>
   have:=h t (by simp [m',hg,bH])
   simp only [this.1,this.2]
def y_:∀{p:Path} {q:Prop},(∀x,x∈p→kM g1 g2 x.1)→under g1 p q=under g2 p q
 |[],_,_=>rfl
 |(t,w)::p,q,h=>by
  have bH:=h (t,w) (by simp)
  have a':=y_ (p:=p) (q:=q) λx hx=>h x (by simp [hx])
  have:u5 g1.env g1.bB t=u5 g2.env g2.bB t:=by unfold u5;rw [bH.1,bH.2]
  simp only [under,this,a']
def Vs{p:Path}(hs:∀x,x∈o.op.operands.toList→∀t,x = .tmp t→look g1.env t=look g2.env t∧look g1.bB t=look g2.bB t)(nT:g1.ids=g2.ids)(ey:∀q,q∈gZ tt g1 p o→look g1.H q=look g2.H q):gZ tt g1 p o=gZ tt g2 p o:=by
 have R:∀x,x∈o.op.operands.toList→∀p ty,rd g1.env g1.bB p tt ty x=rd g2.env g2.bB p tt ty x:=λx hx p ty=>Ea (hs x hx) p ty
 cases am:o.op with
 |alloc t=>simp only [gZ,am,nT]
 |box t x=>simp only [gZ,am,nT]
 |load t a=>simp only [am,Op.operands]at R;simp only [gZ,am,R a (by simp)]
 |store t a x=>simp only [am,Op.operands]at R;simp only [gZ,am,R a (by simp)]
 |call c=>
  simp only [am,Op.operands,Call.operands]at R;cases hc:c.callee with
  |value x=>
   have hx:=R x (by simp [hc])
   have ha:jK (rd g1.env g1.bB p tt) c.args.toList c.argTypes.toList=jK (rd g2.env g2.bB p tt) c.args.toList c.argTypes.toList:=Eb λy bX t=>R y (by rw [Array.toList_append];exact List.mem_append_right _ bX) p t
   simp only [gZ,am,hc,hx,ha]at ey ⊢;split
   ·rename_i f er ds Z ad;simp only [Z,ad]at ey;exact Ec ey
   ·rfl
  |_=>simp only [gZ,am,hc]
 |_=>simp only [gZ,am]
structure Eh(bL:fw)(tt:c7)(ops:List Oper)(o:Oper)(E:dB)(g:cG):Prop where
 za:mT ops g o=some E.p
 st:step1 bL tt ops {g with rs:=E.rs} E.p o=some (bif Nat.beq E.fL 0 then .go E.f else .aW E.rk E.m9 E.f.aL)
 aL:∀q,q∈E.f.aL→under g E.p q
 il:∀q,q∈gZ tt g E.p o→q∈E.il
 fin:E.fL=1→∀q,q∈E.il→look g.H q=look E.pM q
def Can(bL:fw)(tt:c7)(ops:List Oper)(o:Oper)(E:dB)(g:cG):Prop:=E.fL=2∨Eh bL tt ops o E g
def Can.congr(h:Can bL tt ops o E g1)(ro:∀t,t∈m' ops o++E.p.map (·.1)→t∈E.lg)(zb:nS o=E.m8)(hs:∀t,t∈E.lg→kM g1 g2 t)(hb:∀q,q∈E.il→rl g1 g2 q)(hn:E.m8=true→g1.aJ=g2.aJ)(nT:g1.ids=g2.ids):Can bL tt ops o E g2:=by
 rcases h with h|h
 ·exact .inl h
 right
 have iH:∀x,x∈o.op.operands.toList→∀t,x = .tmp t→look g1.env t=look g2.env t∧look g1.bB t=look g2.bB t:=by
  rintro x hx t rfl
  exact hs t (ro t (List.mem_append_left _ (by simp only [m',List.mem_append,List.mem_filterMap];exact .inl ⟨_,hx,rfl⟩)))
 have jP:gZ tt g1 E.p o=gZ tt g2 E.p o:=Vs iH nT (λq ax=>hb q (h.il q ax))
 refine⟨?_,?_,λq ax=>?_,(by rw [←jP];exact h.il),λhk q ax=>(hb q ax).symm.trans (h.fin hk q ax)⟩
 ·rw [←Lz (g1:=g1) (g2:=g2) λt bH=>hs t (ro t (List.mem_append_left _ bH))];exact h.za
 ·rw [←h.st];refine(Ed (g1:={g1 with rs:=E.rs}) (g2:={g2 with rs:=E.rs}) iH rfl nT (λhm=>hn (by rw [←zb];exact hm)) (λq ax=>hb q ?_)).symm
  exact h.il q ax
 ·rw [←y_ (g1:=g1) (g2:=g2) λx hx=>hs x.1 (ro _ (List.mem_append_right _ (List.mem_map.2 ⟨x,hx,rfl⟩)))]
  exact h.aL q ax
def rp(o:Oper)(rs:List eD):Nat:=
 match o.op with
 |.load _ _=>match rs with
  |.own::_=>2
  |_=>1
 |_=>0
def pN(g1 g2:cG)(q:Nat):Prop:=(look g1.H q).map (·.map (·.d))=(look g2.H q).map (·.map (·.d))
def LA:∀(cs:List aM) (off:Nat) (e:aM),cs[off]? = some e→(setAt cs off [{d:=e.d}]).map (·.d)=cs.map (·.d)
 |[],off,e,h=>by simp at h
 |c::cs,0,e,h=>by
  simp only [List.getElem?_cons_zero,Option.some.injEq]at h;subst h;simp [setAt]
 |c::cs,off+1,e,h=>by
  simp only [List.getElem?_cons_succ]at h;simp only [setAt,List.map_cons,LA cs off e h]
def Vt(h:Eh bL tt ops o E g)(ab:rp o E.rs=2)(hk:E.fL=0)(q:Nat):pN (dF E g) g q:=by
 have eh:=h.st;rw [hk]at eh;unfold rp at ab;split at ab
 case h_2=>cases ab
 rename_i t a am;simp only [step1,am,show Nat.beq 0 0=true from rfl,cond_true]at eh
 have nil:E.f.hs=[]→pN (dF E g) g q:=by
  intro bf;unfold pN;rcases Ef (E:=E) (g:=g)with Z|Z<;>rw [Z]
  rw [bf];rfl
 split at eh
 ·rename_i Vu off aB ai cB;split at eh
  ·rename_i cs dy;rw [Bool.cond_eq_ite]at eh;split at eh
   ·rw [Bool.cond_eq_ite]at eh;split at eh
    ·simp only [Option.map_some,Option.some.injEq,lL.go.injEq]at eh;exact nil (by rw [←eh])
    ·cases eh
   ·split at eh
    ·rename_i e he;split at eh
     ·rw [Bool.cond_eq_ite]at eh;split at eh
      ·simp only [Option.some.injEq,lL.go.injEq]at eh;unfold pN;rcases Ef (E:=E) (g:=g)with Z|Z<;>rw [Z]
       rw [←eh];simp only [List.cons_append,List.nil_append,de];split
       ·rename_i ax;subst ax;rw [dy];simp only [Option.map_some,LA cs off e he]
       ·rfl
      ·cases eh
     ·simp only [Option.map_some,Option.some.injEq,lL.go.injEq]at eh;exact nil (by rw [←eh])
    ·cases eh
  ·cases eh
 ·rename_i x aB ai cB;rw [Bool.cond_eq_ite]at eh;split at eh
  ·simp only [Option.map_some,Option.some.injEq,lL.go.injEq]at eh;exact nil (by rw [←eh])
  ·cases eh
 ·cases eh
def Vv{p:Path}{rs:List eD}{t:TypeId}{a:Operand}(am:o.op = .load t a)(d':∀l,rs ≠ .own::l)(R:rd g1.env g1.bB p tt o.type a=rd g2.env g2.bB p tt o.type a)(Vw:∀q off,rd g2.env g2.bB p tt o.type a=some (.ptr q off)→pN g1 g2 q):
 step1 bL tt ops {g1 with rs:=rs} p o=step1 bL tt ops {g2 with rs:=rs} p o:=by
 simp only [step1,am,R];split
 ·rename_i q off aB ai cB;have hd:=Vw q off ai;unfold pN at hd;cases Z:look g1.H q with
  |none=>
   rw [Z]at hd;cases ad:look g2.H q with
   |none=>rfl
   |some c2=>rw [ad]at hd;cases hd
  |some c1=>
   rw [Z]at hd;cases ad:look g2.H q with
   |none=>rw [ad]at hd;cases hd
   |some c2=>
    rw [ad]at hd;simp only [Option.map_some,Option.some.injEq]at hd;have hlen:c1.length=c2.length:=by have:=congrArg List.length hd;simpa using this
    have Vx:((c1.drop off).take aB.size).map (·.d)=((c2.drop off).take aB.size).map (·.d):=by rw [List.map_take,List.map_drop,hd,←List.map_drop,←List.map_take]
    have gW:(c1[off]?).map (·.d)=(c2[off]?).map (·.d):=by rw [←List.getElem?_map,hd,List.getElem?_map]
    simp only [hlen,Vx];cases aB.k.isAgg with
    |true=>rfl
    |false=>
     simp only [cond_false];cases LB:c1[off]? with
     |none=>
      rw [LB]at gW;cases zc:c2[off]? with
      |none=>rfl
      |some e2=>rw [zc]at gW;cases gW
     |some e1=>
      rw [LB]at gW;cases zc:c2[off]? with
      |none=>rw [zc]at gW;cases gW
      |some e2=>
       rw [zc]at gW;simp only [Option.map_some,Option.some.injEq]at gW;cases rs with
       |nil=>cases e1.own<;>cases e2.own<;>simp [gW]
       |cons r l=>
        cases r with
        |own=>exact absurd rfl (d' l)
        |val x=>cases e1.own<;>cases e2.own<;>simp [gW]
        |raw=>cases e1.own<;>cases e2.own<;>simp [gW]
        |call u v z=>cases e1.own<;>cases e2.own<;>simp [gW]
 ·rfl
 ·rfl
def Can.LC(h:Can bL tt ops o E g1)(ab:rp o E.rs=1)(hk:E.fL=0)(ro:∀t,t∈m' ops o++E.p.map (·.1)→t∈E.lg)(hs:∀t,t∈E.lg→kM g1 g2 t)(hb:∀q,pN g1 g2 q):Can bL tt ops o E g2:=by
 rcases h with h|h
 ·exact .inl h
 right
 have iH:∀x,x∈o.op.operands.toList→∀t,x = .tmp t→look g1.env t=look g2.env t∧look g1.bB t=look g2.bB t:=by
  rintro x hx t rfl
  exact hs t (ro t (List.mem_append_left _ (by simp only [m',List.mem_append,List.mem_filterMap];exact .inl ⟨_,hx,rfl⟩)))
 unfold rp at ab;split at ab
 case h_2=>cases ab
 rename_i t a am
 have d':∀l,E.rs ≠ .own::l:=by
  intro l e;rw [e]at ab;cases ab
 have R:rd g1.env g1.bB E.p tt o.type a=rd g2.env g2.bB E.p tt o.type a:=Ea (iH a (by simp [am,Op.operands])) _ _
 have jP:gZ tt g1 E.p o=gZ tt g2 E.p o:=by simp only [gZ,am,R]
 refine⟨?_,?_,λq ax=>?_,(by rw [←jP];exact h.il),λrb=>by rw [hk]at rb;cases rb⟩
 ·rw [←Lz (g1:=g1) (g2:=g2) λt bH=>hs t (ro t (List.mem_append_left _ bH))];exact h.za
 ·rw [←h.st];exact(Vv am d' R λq off _=>hb q).symm
 ·rw [←y_ (g1:=g1) (g2:=g2) λx hx=>hs x.1 (ro _ (List.mem_append_right _ (List.mem_map.2 ⟨x,hx,rfl⟩)))]
  exact h.aL q ax
end
def g'(ops:List Oper)(o:Oper)(E:dB):Bool:=Vy (m' ops o++E.p.map (·.1)) E.lg&&(nS o == E.m8)&&decide (E.dst=o.dst)&&(match E.f.rs with|[]=>true|_=>false)&&(Nat.beq E.lW 0||Nat.beq E.lW (rp o E.rs)&&Nat.beq E.fL 0)
where Vy (a b:List Nat):Bool:=a.all λx=>b.any (Nat.beq x)
def zd{ops:List Oper}{o:Oper}{E:dB}(h:g' ops o E=true):(∀t,t∈m' ops o++E.p.map (·.1)→t∈E.lg)∧nS o=E.m8∧E.dst=o.dst∧E.f.rs=[]:=by
 simp only [g',Bool.and_eq_true,beq_iff_eq,decide_eq_true_eq]at h;obtain⟨⟨⟨⟨Z,ad⟩,al⟩,aH⟩,_⟩:=h;refine⟨λt bH=>?_,ad,al,?_⟩
 ·obtain⟨y,bX,fJ⟩:=List.any_eq_true.1 (List.all_eq_true.1 Z t bH);have:t=y:=by simpa using fJ
  rw [this];exact bX
 ·split at aH
  ·assumption
  ·cases aH
def waits(ops:List Oper)(i:Nat):Nat→Nat→Bool
 | 0,_=>false
 |n+1,j=>match ops[j]? with
  |some o=>o.after.toList.any λe=>Region.binds .any e&&(Nat.beq e.on i||waits ops i n e.on)
  |none=>false
def lY(opsA:Array Oper)(listed:Array Bool):Prop:=∀(j:Nat) o,opsA[j]? = some o→listed.getD j false=true→∀e,e∈o.after→Region.binds .any e=true→listed.getD e.on false=true
def ze{opsA:Array Oper}{listed:Array Bool}(hc:lY opsA listed){i:Nat}:∀{n j:Nat},waits opsA.toList i n j=true→listed.getD j false=true→listed.getD i false=true
 | 0,_,h,_=>by simp [waits]at h
 |n+1,j,h,hj=>by
  simp only [waits]at h;split at h
  ·rename_i o am;obtain⟨e,he,hb⟩:=List.any_eq_true.1 h;simp only [Bool.and_eq_true,Bool.or_eq_true,Nat.beq_eq]at hb;have Z:=hc j o (by simpa using am) hj e (by simpa using he) hb.1
   rcases hb.2 with rfl|ad
   ·exact Z
   ·exact ze hc ad Z
  ·cases h
def lY.set{opsA:Array Oper}{listed:Array Bool}(hc:lY opsA listed){i:Nat}(ai:i∈Region.ready .any opsA listed):lY opsA (listed.setIfInBounds i true):=by
 intro j o am hj e he hb;by_cases m_:i=j
 ·subst m_;obtain⟨_,o',iV,rq⟩:=mem_ready.1 ai;rw [am]at iV;cases iV;exact getD_set_true (rq e he hb)
 ·rw [getD_set_ne false m_]at hj;exact getD_set_true (hc j o am hj e he hb)
section
variable {bL:fw} {tt:c7} {opsA:Array Oper} {b':List dB} {Fi:cG→Prop} {g g1 g2:cG}
def hP(bL:fw)(tt:c7)(opsA:Array Oper)(b':List dB)(Fi:cG→Prop):Nat→Array Bool→cG→Prop
 | 0,listed,g=>Region.ready .any opsA listed=[]∧Fi g
 |n+1,listed,g=>(Region.ready .any opsA listed=[]→Fi g)∧∀i,i∈Region.ready .any opsA listed→∃o E,opsA[i]? = some o∧b'[i]? = some E∧Can bL tt opsA.toList o E g∧
  hP bL tt opsA b' Fi n (listed.setIfInBounds i true) (dF E g)
def hP.alike(eR:∀(i:Nat) o E,opsA[i]? = some o→b'[i]? = some E→g' opsA.toList o E=true)(da:∀g1 g2,Alike g1 g2→Fi g1→Fi g2):∀{n:Nat} {listed:Array Bool} {g1 g2:cG},Alike g1 g2→hP bL tt opsA b' Fi n listed g1→hP bL tt opsA b' Fi n listed g2
 | 0,_,_,_,ha,h=>⟨h.1,da _ _ ha h.2⟩
 |n+1,_,_,_,ha,h=>⟨λai=>da _ _ ha (h.1 ai),λi hi=>by
  obtain⟨o,E,am,b7,h9,hn⟩:=h.2 i hi;obtain⟨cq,aq,_,_⟩:=zd (eR i o E am b7);exact⟨o,E,am,b7,h9.congr cq aq (λt _=>ha.slot t) (λq _=>ha.box q) (λ_=>ha.aJ) ha.ids,hP.alike eR da ha.ap hn⟩⟩
def vX{ops:List Oper}{o:Oper}{E:dB}{n:Nat}(h:g' ops o E=true)(ab:E.lW=n+1):rp o E.rs=n+1∧E.fL=0:=by
 simp only [g',Bool.and_eq_true,Bool.or_eq_true,Nat.beq_eq]at h;rcases h.2 with h|h
 ·rw [ab]at h;cases h
 ·exact⟨h.1.symm.trans ab,h.2⟩
def Can.data{bL:fw}{tt:c7}{ops:List Oper}{o:Oper}{E:dB}{g:cG}(h:Can bL tt ops o E g)(eR:g' ops o E=true)(ab:E.lW=2)(q:Nat):pN (dF E g) g q:=by
 obtain⟨Z,ad⟩:=vX eR ab;rcases h with h|h
 ·rw [ad]at h;cases h
 ·exact Vt h Z ad q
def Vz{E cx:dB}(h:vW E cx=true):sep (lX E) cx.lg=true∧sep (lX E) (lX cx)=true∧sep (lX cx) E.lg=true∧(sep (mu E) cx.il=true∨E.lW=2∧cx.lW=1)∧sep (mu E) (mu cx)=true∧(sep (mu cx) E.il=true∨cx.lW=2∧E.lW=1)∧(E.m8=true→tk cx=0)∧(cx.m8=true→tk E=0):=by
 simp only [vW,Bool.and_eq_true,Bool.or_eq_true,Bool.not_eq_true',Nat.beq_eq]at h;obtain⟨⟨⟨⟨⟨⟨⟨Z,ad⟩,al⟩,aH⟩,a6⟩,bT⟩,cI⟩,dO⟩:=h;exact⟨Z,ad,al,aH,a6,bT,λhm=>cI.resolve_left (by simp [hm]),λhm=>dO.resolve_left (by simp [hm])⟩
def hP.first(eR:∀(i:Nat) o E,opsA[i]? = some o→b'[i]? = some E→g' opsA.toList o E=true)(da:∀g1 g2,Alike g1 g2→Fi g1→Fi g2){i:Nat}{o:Oper}{E:dB}(hi:opsA[i]? = some o)(b7:b'[i]? = some E):
 ∀(fuel:Nat) (listed:Array Bool) (g:cG),
  (∀(j:Nat) na km,opsA[j]? = some na→b'[j]? = some km→j≠i→listed.getD j true=false→waits opsA.toList i 3 j=false→vW E km=true)→lY opsA listed→
  i∈Region.ready .any opsA listed→Can bL tt opsA.toList o E g→hP bL tt opsA b' Fi fuel (listed.setIfInBounds i true) (dF E g)→hP bL tt opsA b' Fi (fuel+1) listed g:=by
 intro fuel;induction fuel with
 |zero=>
  intro listed g _ _ ai h9 H;refine⟨λh=>(by rw [h]at ai;cases ai),λj hj=>?_⟩
  by_cases m_:j=i
  ·subst m_;exact⟨o,E,hi,b7,h9,H⟩
  ·have:=ready_mono hj m_
   rw [H.1]at this;cases this
 |succ fuel a'=>
  intro listed g iC gr ai h9 H;refine⟨λh=>(by rw [h]at ai;cases ai),λj hj=>?_⟩
  by_cases m_:j=i
  ·subst m_;exact⟨o,E,hi,b7,h9,H⟩
  obtain⟨na,km,nb,pO,LD,VA⟩:=H.2 j (ready_mono hj m_);obtain⟨LE,adM,LF,rq⟩:=mem_ready.1 hj;rw [nb]at LF;cases LF
  have lZ:listed.getD i false=false:=by
   have h0:=(mem_ready.1 ai).1;rcases Nat.lt_or_ge i listed.size with cL|cL
   ·simpa [Array.getD_eq_getD_getElem?,cL]using h0
   ·simp [Array.getD_eq_getD_getElem?,Array.getElem?_eq_none cL]
  have VB:waits opsA.toList i 3 j=false:=by
   rw [Bool.eq_false_iff];intro hw;rw [waits]at hw;have ab:opsA.toList[j]? = some na:=by simpa using nb
   simp only [ab]at hw;obtain⟨e,he,hb⟩:=List.any_eq_true.1 hw;simp only [Bool.and_eq_true,Bool.or_eq_true,Nat.beq_eq]at hb;have Z:=rq e (by simpa using he) hb.1
   rcases hb.2 with rfl|ad
   ·rw [lZ]at Z;cases Z
   ·rw [ze gr ad Z]at lZ;cases lZ
  obtain⟨d1,d2,d3,d4,d5,d6,d7,d8⟩:=Vz (iC j na km nb pO m_ LE VB);obtain⟨cq,aq,_,_⟩:=zd (eR i o E hi b7);obtain⟨ga,ii,_,_⟩:=zd (eR j na km nb pO)
  have c1:Can bL tt opsA.toList na km g:=by
   rcases d4 with d4|⟨e1,e2⟩
   ·exact LD.congr ga ii (λt bH=>rm λhw=>rn d1 hw bH) (λq ax=>tj λhw=>rn d4 hw ax) (λhm=>by rw [y9,d8 hm];rfl) y'
   ·exact LD.LC (vX (eR j na km nb pO) e2).1 (vX (eR j na km nb pO) e2).2 ga (λt bH=>rm λhw=>rn d1 hw bH) (h9.data (eR i o E hi b7) e1)
  have c2:Can bL tt opsA.toList o E (dF km g):=by
   have LG:∀t,t∈E.lg→kM g (dF km g) t:=λt bH=>by have:=rm (E:=km) (g:=g) (t:=t) λhw=>rn d3 hw bH;exact⟨this.1.symm,this.2.symm⟩
   rcases d6 with d6|⟨e1,e2⟩
   ·exact h9.congr cq aq LG (λq ax=>(tj (E:=km) (g:=g) (q:=q) λhw=>rn d6 hw ax).symm) (λhm=>by rw [y9,d7 hm];rfl) y'.symm
   ·exact h9.LC (vX (eR i o E hi b7) e2).1 (vX (eR i o E hi b7) e2).2 cq LG (λq=>(c1.data (eR j na km nb pO) e1 q).symm)
  refine⟨na,km,nb,pO,c1,a' (listed.setIfInBounds j true) (dF km g) ?_ (gr.set hj) (ready_mono ai (Ne.symm m_)) c2 ?_⟩
  ·intro k ok VC hk VD VE lZ mp;refine iC k ok VC hk VD VE ?_ mp;by_cases pP:j=k
   ·subst pP;exact LE
   ·rw [getD_set_ne true pP]at lZ;exact lZ
  ·rw [Array.setIfInBounds_comm _ _ m_];exact hP.alike eR da (Vr d2 d5).symm VA
structure zf(n k:Nat)(listed:Array Bool):Prop where
 size:listed.size=n
 at':∀j,j<n→listed[j]? = some (decide (j<k))
def zf.set{n k:Nat}{listed:Array Bool}(h:zf n k listed):zf n (k+1) (listed.setIfInBounds k true):=by
 refine⟨by simp [h.size],λj hj=>?_⟩
 by_cases pP:k=j
 ·subst pP;simp [h.size,hj]
 ·rw [Array.getElem?_setIfInBounds_ne pP,h.at' j hj]
  congr 1
  have:(j<k)=(j<k+1):=by apply propext;omega
  simp [this]
def VF(o:Oper)(k:Nat):Bool:=o.after.toList.all λe=>!Region.binds .any e||Nat.blt e.on k
def zg(ops:List Oper)(E:dB)(k:Nat):Nat→List (Oper×dB)→Bool
 |_,[]=>true
 |j,(_,cx)::l=>(vW E cx||waits ops k 3 j)&&zg ops E k (j+1) l
def zh(ops:List Oper):Nat→List (Oper×dB)→Bool
 |_,[]=>true
 |k,(o,E)::l=>VF o k&&zg ops E k (k+1) l&&zh ops (k+1) l
def zi(bL:fw)(tt:c7)(ops:List Oper)(Fi:cG→Prop):List (Oper×dB)→cG→Prop
 |[],g=>Fi g
 |(o,E)::l,g=>Can bL tt ops o E g∧zi bL tt ops Fi l (dF E g)
def LH{ops:List Oper}{E:dB}{k:Nat}:∀{l:List (Oper×dB)} {n:Nat},zg ops E k n l=true→∀(j:Nat) o cx,l[j]? = some (o,cx)→waits ops k 3 (n+j)=false→vW E cx=true
 |[],_,_,j,o,cx,hj,_=>by simp at hj
 |(c_,bk)::l,n,h,j,o,cx,hj,mp=>by
  simp only [zg,Bool.and_eq_true,Bool.or_eq_true]at h;cases j with
  |zero=>
   simp at hj
   obtain⟨rfl,rfl⟩:=hj;exact h.1.resolve_right (by rw [Nat.add_zero]at mp;rw [mp];simp)
  |succ j=>exact LH h.2 j o cx (by simpa using hj) (by rwa [show n+1+j=n+(j+1)by omega])
def hP.text(eR:∀(i:Nat) o E,opsA[i]? = some o→b'[i]? = some E→g' opsA.toList o E=true)(da:∀g1 g2,Alike g1 g2→Fi g1→Fi g2):
 ∀(l:List (Oper×dB)) (k:Nat) (listed:Array Bool) (g:cG),(∀j:Nat,(l[j]?).map (·.1)=opsA[k+j]?)→(∀j:Nat,(l[j]?).map (·.2)=b'[k+j]?)→zf opsA.size k listed→lY opsA listed→zh opsA.toList k l=true→zi bL tt opsA.toList Fi l g→
  hP bL tt opsA b' Fi l.length listed g
 |[],k,listed,g,Z,_,lh,_,_,hc=>by
  refine⟨?_,hc⟩
  have hk:opsA[k]? = none:=by have:=Z 0;simpa using this.symm
  have rb:opsA.size≤k:=by simpa using hk
  refine List.eq_nil_iff_forall_not_mem.2 λj hj=>?_
  obtain⟨hu,o,am,_⟩:=mem_ready.1 hj;have cB:j<opsA.size:=(Array.getElem?_eq_some_iff.1 am).1;have:=lh.at' j cB
  rw [Array.getD_eq_getD_getElem?,this]at hu;have pP:j<k:=by omega
  simp [pP]at hu
 |(o,E)::l,k,listed,g,Z,ad,lh,gr,hx,hc=>by
  have am:opsA[k]? = some o:=by have:=Z 0;simpa using this.symm
  have b7:b'[k]? = some E:=by have:=ad 0;simpa using this.symm
  have cB:k<opsA.size:=(Array.getElem?_eq_some_iff.1 am).1;simp only [zh,Bool.and_eq_true]at hx;obtain⟨⟨ai,a7⟩,hx⟩:=hx
  have LI:k∈Region.ready .any opsA listed:=by
   refine mem_ready.2 ⟨?_,o,am,λe he hb=>?_⟩
   ·rw [Array.getD_eq_getD_getElem?,lh.at' k cB];simp
   ·have:=List.all_eq_true.1 ai e (by simpa using he)
    simp only [hb,Bool.not_true,Bool.false_or,Nat.blt_eq]at this;rw [Array.getD_eq_getD_getElem?,lh.at' e.on (by omega)]
    simp [this]
  refine hP.first eR da am b7 l.length listed g ?_ gr LI hc.1 (hP.text eR da l (k+1) _ _ (λj=>?_) (λj=>?_) lh.set (gr.set LI) hx hc.2)
  ·intro j na km nb pO dt lZ mp;have q1:j<opsA.size:=(Array.getElem?_eq_some_iff.1 nb).1
   have pP:k<j:=by
    rw [Array.getD_eq_getD_getElem?,lh.at' j q1]at lZ;simp at lZ
    omega
   have e1:=Z (j-k);have e2:=ad (j-k);have LJ:k+(j-k)=j:=by omega
   rw [LJ,nb]at e1;rw [LJ,pO]at e2
   have e3:(((o,E)::l)[j-k]?)=l[j-k-1]? := by
    have:j-k=(j-k-1)+1:=by omega
    rw [this];simp
   rw [e3]at e1 e2;cases ab:l[j-k-1]? with
   |none=>rw [ab]at e1;simp at e1
   |some x=>
    rw [ab]at e1 e2;simp at e1 e2
    obtain⟨fF,hF⟩:=x;simp only at e1 e2
    subst e1;subst e2;exact LH a7 _ _ _ ab (by rwa [show k+1+(j-k-1)=j by omega])
  ·have:=Z (j+1);simpa [Nat.add_assoc,Nat.add_comm 1 j]using this
  ·have:=ad (j+1);simpa [Nat.add_assoc,Nat.add_comm 1 j]using this
end
def nU(N:Nat)(E:dB):Bool:=
 match E.dst with
 |none=>E.p.isEmpty
 |some t=>Nat.blt t N&&match E.p with
  |[]=>true
  |p=>E.f.e.isSome&&E.f.hs.isEmpty&&E.f.f_.isEmpty&&p.all (λy=>!Nat.beq y.1 t)&&Nat.beq E.f.e6 0
def vY(ops:List Oper)(i:Nat)(t:Nat):Nat→List dB→Bool
 |_,[]=>true
 |j,cx::l=>(match cx.p with
  |[]=>true
  |p=>(match cx.dst with |some h2=>Nat.beq h2 t |none=>false)||p.all (λy=>!Nat.beq y.1 t)||waits ops i 3 j)&&vY ops i t (j+1) l
def zj(ops:List Oper)(b':List dB):Nat→List dB→Bool
 |_,[]=>true
 |i,E::l=>(match E.dst with
  |none=>true
  |some t=>vY ops i t 0 b')&&zj ops b' (i+1) l
def vZ(ops:List Oper)(b':List dB):Bool:=zj ops b' 0 b'
def LK{ops:List Oper}{i t:Nat}:∀{l:List dB} {k:Nat},vY ops i t k l=true→∀(j:Nat) (cx:dB),l[j]? = some cx→cx.p≠[]→
 ((match cx.dst with|some h2=>Nat.beq h2 t|none=>false)||cx.p.all (λy=>!Nat.beq y.1 t))=true∨waits ops i 3 (k+j)=true
 |[],_,_,j,cx,h,_=>by simp at h
 |bk::l,k,h,j,cx,hj,dt=>by
  simp only [vY,Bool.and_eq_true]at h;cases j with
  |zero=>
   simp at hj
   subst hj;have Z:=h.1;split at Z
   ·rename_i mV;exact absurd mV dt
   ·rw [Bool.or_eq_true]at Z;exact Z
  |succ j=>
   have:=LK h.2 j cx (by simpa using hj) dt
   rwa [show k+(j+1)=k+1+j by omega]
def LL{ops:List Oper}{b':List dB}:∀{l:List dB} {k:Nat},zj ops b' k l=true→∀(i:Nat) (E:dB) (t:Nat),l[i]? = some E→E.dst=some t→vY ops (k+i) t 0 b'=true
 |[],_,_,i,E,t,h,_=>by simp at h
 |bk::l,k,h,i,E,t,hi,hd=>by
  simp only [zj,Bool.and_eq_true]at h;cases i with
  |zero=>
   simp at hi
   subst hi;have Z:=h.1;rw [hd]at Z;exact Z
  |succ i=>
   have:=LL h.2 i E t (by simpa using hi) hd
   rwa [show k+(i+1)=k+1+i by omega]
section
variable {P:Program} {K:Ctx} {N:Nat} {M:Mem} {β:Nat→Option Nat} {tt:c7} {opsA:Array Oper} {b':List dB} {g:cG} {w:World} {tmps:Array Value}
def pQ(b':List dB)(listed:Array Bool)(g:cG):Prop:=∀x,x∈g.bB→∃(i:Nat) (E:dB),b'[i]? = some E∧listed.getD i false=true∧E.dst=some x.1∧E.p=x.2.1∧E.p≠[]
def zk{α:Type}:∀{l:List (Nat×α)} {t:Nat} {x:Nat×α},x∈del l t→x∈l
 |[],_,_,h=>by simp [del]at h
 |(j,y)::l,t,x,h=>by
  simp only [del]at h;rw [Bool.cond_eq_ite]at h;split at h
  ·exact List.mem_cons_of_mem _ (zk h)
  ·rcases List.mem_cons.1 h with rfl|h
   ·simp
   ·exact List.mem_cons_of_mem _ (zk h)
def pQ.ap{listed:Array Bool}{i:Nat}{E:dB}(b7:b'[i]? = some E)(hi:i<listed.size)(h:pQ b' listed g):pQ b' (listed.setIfInBounds i true) (dF E g):=by
 have cL:pQ b' (listed.setIfInBounds i true) g:=λx hx=>by
  obtain⟨j,cx,Z,ad,al⟩:=h x hx;exact⟨j,cx,Z,getD_set_true ad,al⟩
 intro x hx;unfold dF at hx;cases hd:E.dst with
 |none=>simp only [hd]at hx;exact cL x hx
 |some t=>
  simp only [hd]at hx;cases hp:E.p with
  |nil=>simp only [hp]at hx;exact cL x (zk hx)
  |cons y p=>
   simp only [hp]at hx;cases he:E.f.e with
   |none=>simp only [he]at hx;exact cL x hx
   |some e=>
    simp only [he]at hx;rcases List.mem_cons.1 hx with rfl|hx
    ·exact⟨i,E,b7,by simp [hi],by simp [hd],by simp [hp],by simp [hp]⟩
    ·exact cL x (zk hx)
def VG{listed:Array Bool}{i:Nat}{E:dB}{t:Nat}(iC:vZ opsA.toList b'=true)(b7:b'[i]? = some E)(hd:E.dst=some t)(hc:lY opsA listed)(hi:listed.getD i false=false)(h:pQ b' listed g):sP g.bB t=true:=by
 unfold sP;rw [List.all_eq_true];intro x hx;obtain⟨j,cx,oX,ab,ix,tf,dt⟩:=h x hx;have Z:=LL iC i E t b7 hd;rw [Nat.zero_add]at Z;rcases LK Z j cx oX dt with ad|ad
 ·rw [ix,tf]at ad;exact ad
 ·rw [Nat.zero_add]at ad;have:=ze hc ad ab
  rw [hi]at this;cases this
def LM{listed:Array Bool}{bL:fw}{o:Oper}{E:dB}{i:Nat}(hD:E.fL=0)(h9:Eh bL tt opsA.toList o E g)(b7:b'[i]? = some E)(eR:g' opsA.toList o E=true)(bA:nU N E=true)(iC:vZ opsA.toList b'=true)(hc:lY opsA listed)(hi:listed.getD i false=false)(kE:pQ b' listed g):
 lN bL tt N opsA.toList {g with rs:=E.rs,aL:=[]} o=some (.go {dF E g with rs:=[],aL:=E.f.aL.map (under g E.p)}):=by
 obtain⟨_,_,dX,du⟩:=zd eR;have hg:mT opsA.toList {g with rs:=E.rs,aL:=[]} o=some E.p:=h9.za
 have hs:step1 bL tt opsA.toList {g with rs:=E.rs,aL:=[]} E.p o=some (.go E.f):=by
  have eh:=h9.st;rw [hD]at eh;refine Eq.trans ?_ eh;exact Ed (g1:={g with rs:=E.rs,aL:=[]}) (g2:={g with rs:=E.rs}) (λ_ _ _ _=>⟨rfl,rfl⟩) rfl rfl (λ_=>rfl) (λ_ _=>rfl)
 have hu:∀q,under {g with rs:=E.rs,aL:=[]} E.p q=under g E.p q:=λq=>y_ λ_ _=>⟨rfl,rfl⟩
 unfold lN;rw [hg]
 dsimp only
 rw [hs]
 dsimp only
 rw [←dX];have b5:E.f.aL.map (under {g with rs:=E.rs,aL:=[]} E.p)++[]=E.f.aL.map (under g E.p):=by rw [List.append_nil];exact List.map_congr_left λq _=>hu q
 rw [b5,du];unfold nU at bA;unfold dF;cases hd:E.dst with
 |none=>
  rw [hd]at bA
  dsimp only at bA ⊢
  rw [bA];rfl
 |some t=>
  rw [hd]at bA;have a7:=VG iC b7 hd hc hi kE;simp only [Bool.and_eq_true]at bA;obtain⟨cB,bA⟩:=bA
  dsimp only
  rw [cB,a7];cases hp:E.p with
  |nil=>rfl
  |cons x p=>
   rw [hp]at bA;simp only [Bool.and_eq_true,List.isEmpty_iff,Nat.beq_eq,Option.isSome_iff_exists]at bA;obtain⟨⟨⟨⟨⟨e,he⟩,bf⟩,hc⟩,rq⟩,hn⟩:=bA;simp only [he,bf,hc,hn,rq];rfl
def hP.sound(b4:eI P tt=true)(hD:∀(i:Nat) E,b'[i]? = some E→E.fL=0)(eR:∀(i:Nat) o E,opsA[i]? = some o→b'[i]? = some E→g' opsA.toList o E=true)(bA:∀(i:Nat) E,b'[i]? = some E→nU N E=true)(iC:vZ opsA.toList b'=true){Fi:cG→Prop}{Q:Exit→Act→World→Prop}
 (dq:∀g eV w' M' β',Fi g→eW P K N M' β' g eV w'→Q .normal ⟨eV,K.ds⟩ w'):
 ∀(n:Nat) (listed:Array Bool) (g:cG) (tmps:Array Value) (w:World) (M:Mem) (β:Nat→Option Nat),hP (h6 P) tt opsA b' Fi n listed g→listed.size=opsA.size→lY opsA listed→pQ b' listed g→eW P K N M β g tmps w→wpAny P .any opsA Q n listed ⟨tmps,K.ds⟩ w
 | 0,_,g,tmps,w,M,β,h,_,_,_,hs=>⟨h.1,dq g tmps w M β h.2 hs⟩
 |n+1,listed,g,tmps,w,M,β,h,dz,gr,kE,hs=>by
  refine⟨λai=>dq g tmps w M β (h.1 ai) hs,λi hi=>?_⟩
  obtain⟨o,E,am,b7,zl,hn⟩:=h.2 i hi;have h9:=zl.resolve_left (by rw [hD i E b7];simp)
  have cB:i<listed.size:=by rw [dz];exact(Array.getElem?_eq_some_iff.1 am).1
  have lZ:listed.getD i false=false:=by have:=(mem_ready.1 hi).1;simpa [Array.getD_eq_getD_getElem?,cB]using this
  have Ei:=LM (N:=N) (hD i E b7) h9 b7 (eR i o E am b7) (bA i E b7) iC gr lZ kE;have fb:eW P K N M β {g with rs:=E.rs,aL:=[]} tmps w:=⟨hs.bd,hs.size,hs.fresh,hs.cond⟩;unfold wpOp;simp only [am];refine D3 fb b4 (opsA:=opsA) rfl Ei (λq ax=>?_) (λeV w' M' β' cL=>?_)
  ·obtain⟨q',m5,rfl⟩:=List.mem_map.1 ax;exact h9.aL q' m5
  ·exact hP.sound b4 hD eR bA iC dq n _ (dF E g) eV w' M' β' hn (by simpa using dz) (gr.set hi) (kE.ap b7 cB) ⟨cL.bd,cL.size,cL.fresh,cL.cond⟩
end
def findD(bL:fw)(tt:c7)(ops:List Oper)(g:cG)(o:Oper)(rs:List eD):Option dB:=
 match mT ops g o with
 |none=>none
 |some p=>match step1 bL tt ops {g with rs:=rs} p o with
  |some (.go f)=>some {dst:=o.dst,p,f,il:=gZ tt g p o,lg:=m' ops o++p.map (·.1),m8:=nS o,rs,lW:=rp o rs}
  |_=>none
def rr(bL:fw)(tt:c7)(ops:List Oper):List Oper→List (List eD)→cG→Option (List dB×cG×List Prop)
 |[],[],g=>some ([],g,[])
 |o::l,rs::h',g=>match findD bL tt ops g o rs with
  |some E=>match rr bL tt ops l h' (dF E g) with
   |some (b',es,aL)=>some (E::b',es,aL++E.f.aL.map (under g E.p))
   |none=>none
  |none=>none
 |_,_,_=>none
def ju:List Oper→List dB→List (Oper×dB)
 |o::l,E::m=>(o,E)::ju l m
 |_,_=>[]
def zm(N:Nat)(ops:List Oper)(b':List dB):Bool:=
 (ju ops b').all (λx=>g' ops x.1 x.2)&&b'.all (nU N)&&vZ ops b'&&zh ops 0 (ju ops b')
section
variable {bL:fw} {tt:c7} {ops:List Oper}
def LN{Fi:cG→Prop}:∀{l:List Oper} {h':List (List eD)} {g:cG} {b':List dB} {es:cG} {aL:List Prop},rr bL tt ops l h' g=some (b',es,aL)→(∀q,q∈aL→q)→Fi es→
 b'.length=l.length∧(∀E,E∈b'→E.fL=0)∧zi bL tt ops Fi (ju l b') g
 |[],[],g,b',es,aL,h,_,da=>by
  simp only [rr,Option.some.injEq,Prod.mk.injEq]at h;obtain⟨rfl,rfl,rfl⟩:=h;exact⟨rfl,by simp,da⟩
 |o::l,rs::h',g,b',es,aL,h,b5,da=>by
  simp only [rr]at h;split at h
  case h_2=>cases h
  rename_i E b7;split at h
  case h_2=>cases h
  rename_i ru g1 VH Z;simp only [Option.some.injEq,Prod.mk.injEq]at h;obtain⟨rfl,rfl,rfl⟩:=h;obtain⟨ad,VI,al⟩:=LN Z (λq ax=>b5 q (List.mem_append_left _ ax)) da
  have VJ:E.fL=0:=by
   unfold findD at b7;split at b7
   ·cases b7
   split at b7
   ·cases b7;rfl
   ·cases b7
  refine⟨by simp [ad],λcx oX=>?_,?_,al⟩
  ·rcases List.mem_cons.1 oX with rfl|oX
   ·exact VJ
   ·exact VI cx oX
  have Ej:∀q,q∈E.f.aL→under g E.p q:=λq ax=>b5 _ (List.mem_append_right _ (List.mem_map.2 ⟨q,ax,rfl⟩))
  unfold findD at b7;split at b7
  ·cases b7
  rename_i p hp;split at b7
  ·rename_i f a7;cases b7;exact .inr ⟨hp,a7,Ej,λ_ h=>h,λh=>by cases h⟩
  ·cases b7
 |[],_::_,_,_,_,_,h,_,_=>by simp [rr]at h
 |_::_,[],_,_,_,_,h,_,_=>by simp [rr]at h
def rv:∀{l:List Oper} {m:List dB},m.length=l.length→∀(j:Nat),((ju l m)[j]?).map (·.1)=l[j]? ∧ ((ju l m)[j]?).map (·.2)=m[j]?
 |[],[],_,j=>by simp [ju]
 |o::l,E::m,h,j=>by
  cases j with
  |zero=>simp [ju]
  |succ j=>simpa [ju]using rv (by simpa using h) j
 |[],_::_,h,_=>by simp at h
 |_::_,[],h,_=>by simp at h
def Ek:∀{l:List Oper} {m:List dB},m.length=l.length→(ju l m).length=l.length
 |[],[],_=>rfl
 |_::l,_::m,h=>by simp [ju,Ek (l:=l) (m:=m) (by simpa using h)]
 |[],_::_,h=>by simp at h
 |_::_,[],h=>by simp at h
end
section
variable {P:Program} {N E:Nat} {st:az} {tt:c7}
def Alike.bd{K:Ctx}{M:Mem}{β:Nat→Option Nat}{g1 g2:cG}{tmps:Array Value}{w:World}(ha:Alike g1 g2)(h:bo P K M β {env:=g1.env,H:=g1.H,aJ:=g1.aJ} tmps w):bo P K M β {env:=g2.env,H:=g2.H,aJ:=g2.aJ} tmps w:=by
 have fk:∀l,({env:=g2.env,H:=g2.H,aJ:=g2.aJ}:az).at l=({env:=g1.env,H:=g1.H,aJ:=g1.aJ}:az).at l:=by
  intro l;cases l with
  |slot s=>exact(ha.slot s).1.symm
  |cell r i=>simp only [az.at];rw [←ha.box r]
 have hb:∀r,look g2.H r=look g1.H r:=λr=>(ha.box r).symm
 constructor
 ·intro l e ab;rw [fk]at ab;exact h.eE l e ab
 ·intro l e T ab;rw [fk]at ab;exact h.own l e T ab
 ·intro l cd e a1 T T' b ab aG cY;rw [fk]at ab cY;exact h.uniq l cd e a1 T T' b ab aG cY
 ·intro l e T b r cs ab aG k6 ai;rw [fk]at ab;exact h.unbox l e T b r cs ab aG k6 (by rw [←hb r];exact ai)
 ·intro r cs ai;exact h.box r cs (by rw [←hb r];exact ai)
 ·intro r cS b cs cs' ai e_;exact h.inj r cS b cs cs' (by rw [←hb r];exact ai) (by rw [←hb cS];exact e_)
 ·intro r b ai;exact(by have:=h.lt r b ai;simpa [ha.aJ]using this)
 ·exact h.mem
 ·exact h.m0
 ·exact h.frame
 ·exact h.gT
 ·exact h.hL
 ·exact h.gn
def bo.drew{K:Ctx}{M:Mem}{β:Nat→Option Nat}{tmps:Array Value}{w:World}(h:bo P K M β st tmps w)(k:Nat):bo P K M β st tmps {w with drawn:=k}:=
 ⟨h.eE,h.own,h.uniq,h.unbox,h.box,h.inj,h.lt,h.mem,h.m0,h.frame,h.gT,h.hL,h.gn⟩
end
def aS.scope{P:Program}{N E:Nat}{c:Code}{Q:bY→az→Prop}{st:az}(h:aS P N E c Q st):aS P N E (.scope c) Q st:=by
 intro K dT a w hs;refine wp_scope_straight (wp_mono (h K dT a w hs) ?_)
 rintro e dj w' ⟨eQ,bD,Z,ad⟩
 cases eQ with
 |normal=>obtain⟨rfl,al⟩:=Z;exact⟨.normal,bD,⟨rfl,al⟩,ad⟩
 |exit i=>obtain⟨rfl,al⟩:=Z;exact⟨.exit i,bD,⟨rfl,al⟩,ad⟩
 |ret=>obtain⟨rfl,al⟩:=Z;exact⟨.ret,bD,⟨rfl,al⟩,ad⟩
 |aW x=>obtain⟨v,rfl,al⟩:=Z;exact⟨.aW x,bD,⟨v,rfl,al⟩,ad⟩
def gB.on{α β c6:Type}(x:α ⊕ β)(f:α→c6)(g:β→c6):c6:=
 match x with
 |.inl a=>f a
 |.inr b=>g b
def zn.on{α β c6:Type}(x:α×β)(f:α→β→c6):c6:=f x.1 x.2
def zo(P:Program)(w:World):Prop:=(∀g,g∈CQ P→∃eP,w.cell? ⟨g,0,none⟩=some eP∧(eP = .nilIface∨∃bN oG,eP = .iface bN oG))∧
 ∀ g, P.globalNamed "internal/strconv.uint64pow10" = some g → ∃ t iU, w.heap[g]? = some (.cells CR t iU)
section
variable {P:Program}
def bo.VK{K:Ctx}{M:Mem}{β:Nat→Option Nat}{st:az}{tmps:Array Value}{w:World}(h:bo P K M β st tmps w):zo P w:=⟨λg hg=>by
 obtain⟨cs,t,iU,eP,Z,ad,al⟩:=h.hL.1 g hg;refine⟨eP,?_,al⟩
 have:=(h.frame g _ Z).1
 unfold World.cell?;rw [this];exact ad,λg hg=>by
 obtain⟨t,iU,Z⟩:=h.hL.2 g hg;exact⟨t,iU,(h.frame g _ Z).1⟩⟩
def LO {f : FuncId} {args : List D} {vsOf : World → List Value → Prop} {d : D} {fd : Func} (kH : P.funcs[f]? = some fd) (hb : fd.body.isSome = true) (hn : decide (fd.name = "runtime.NumGoroutine") = false)
 (eJ:∀(w:World) (M:Mem) (β:Nat→Option Nat) (vs:List Value),(∀b o v,M b o=some v→w.cell? ⟨b,o,none⟩=some v)→vs.length=args.length→(∀(i:Nat) v a,vs[i]? = some v→args[i]? = some a→b3 M β v a)→vsOf w vs)
 (rh:∀(vs:List Value) (w:World),vsOf w vs→zo P w→Calls P f ⟨vs⟩ w λe w'=>∃v,e = .returned v∧(∀M β,b3 M β v d)∧(∀(b:Nat) (aL:Obj),w.heap[b]? = some aL→w'.heap[b]? = some aL)∧(w'.os,w'.output)=(w.os,w.output)):
 fK P f args [] [] (.ret d none) []:=by
 refine⟨⟨fd,kH,hb,by simpa using hn⟩,λK w vs M β hlen hs fZ=>?_⟩
 have ar:vsOf w vs:=eJ w M β vs hs.mem hlen λi v a hi ha=>by
  have Z:=hs.eE (.slot i) ⟨a,none⟩ (by
   simp only [az.at,gj,k_,vv,ha,Option.map_some,look])
  have ad:b0 (⟨vs⟩:Array Value) w β (.slot i)=v:=by
   simp [b0,hi]
  rw [ad]at Z;exact Z
 refine(rh vs w ar hs.VK).mono ?_
 rintro e w' ⟨v,rfl,fA,qP,mi⟩
 refine⟨.ret d none,[],v,M,β,⟨rfl,rfl⟩,rfl,?_⟩
 have gz:∀b o v,w.cell? ⟨b,o,none⟩=some v→w'.cell? ⟨b,o,none⟩=some v:=by
  intro b o v h;unfold World.cell? at h ⊢;cases hb:w.heap[b]? with
  |none=>simp [hb]at h
  |some aL=>rw [qP b aL hb];rw [hb]at h;exact h
 constructor
 ·intro l e ab;cases l with
  |slot s=>
   simp only [az.at,gG,de]at ab;split at ab
   ·rename_i h0;subst h0;cases ab;exact fA M β
   ·simp [look]at ab
  |cell r i=>simp [az.at,cl,look]at ab
 ·intro l e T ab aG;cases l with
  |slot s=>
   simp only [az.at,gG,de]at ab;split at ab
   ·cases ab;cases aG
   ·simp [look]at ab
  |cell r i=>simp [az.at,cl,look]at ab
 ·intro l cd e a1 T T' b ab aG;cases l with
  |slot s=>
   simp only [az.at,gG,de]at ab;split at ab
   ·cases ab;cases aG
   ·simp [look]at ab
  |cell r i=>simp [az.at,cl,look]at ab
 ·intro l e T b r cs ab aG hb ai;simp [cl,look]at ai
 ·intro r cs ai;simp [cl,look]at ai
 ·intro r cS b cs cs' ai;simp [cl,look]at ai
 ·exact hs.lt
 ·exact λb o v h=>gz b o v (hs.mem b o v h)
 ·exact hs.m0
 ·exact λb aL h=>⟨qP b aL (hs.frame b aL h).1,(hs.frame b aL h).2⟩
 ·exact hs.gT
 ·exact hs.hL
 ·exact mi.trans hs.gn
def rx {f : FuncId} {args : List D} {vsOf : List Value → Prop} {d : D} {fd : Func} (kH : P.funcs[f]? = some fd) (hb : fd.body.isSome = true) (hn : decide (fd.name = "runtime.NumGoroutine") = false)
 (eJ:∀(M:Mem) (β:Nat→Option Nat) (vs:List Value),vs.length=args.length→(∀(i:Nat) v a,vs[i]? = some v→args[i]? = some a→b3 M β v a)→vsOf vs)
 (rh:∀(vs:List Value) (w:World),vsOf vs→zo P w→Calls P f ⟨vs⟩ w λe w'=>∃v,e = .returned v∧(∀M β,b3 M β v d)∧(∀(b:Nat) (aL:Obj),w.heap[b]? = some aL→w'.heap[b]? = some aL)∧(w'.os,w'.output)=(w.os,w.output)):
 fK P f args [] [] (.ret d none) []:=
 LO (vsOf:=λ_ vs=>vsOf vs) kH hb hn (λ_ M β vs _=>eJ M β vs) rh
end
def ry(bL:fw)(tt:c7)(N:Nat)(ops:List Oper)(rs:List eD)(st:az):Option Fin:=
 match pq bL tt N ops ops {env:=st.env,bB:=[],H:=st.H,aJ:=st.aJ,rs,aL:=[]} with
 |some (.go g)=>match g.rs with
  |[]=>some (.go {env:=g.env,H:=g.H,aJ:=g.aJ} g.aL)
  |_=>none
 |some (.aW x st aL)=>some (.aW x st aL)
 |none=>none
def rz:List Oper→Nat→List (Nat×Nat)
 |[],_=>[]
 |o::l,n=>match nS o,o.dst with
  |true,some t=>(t,n)::rz l (n+1)
  |_,_=>rz l n
def zp(ops:List Oper)(st:az):cG:=
 {env:=st.env,bB:=[],H:=st.H,aJ:=st.aJ+(rz ops st.aJ).length,rs:=[],aL:=[],ids:=rz ops st.aJ}
def zq(bL:fw)(tt:c7)(N:Nat)(ops:List Oper)(h':List (List eD))(st:az):Option Fin:=
 match rr bL tt ops ops h' (zp ops st) with
 |some (b',g,aL)=>bif zm N ops b' then some (.go {env:=g.env,H:=g.H,aJ:=g.aJ} aL)else none
 |none=>none
def h_:Option Fin→az
 |some (.go st _)=>st
 |some (.aW _ st _)=>st
 |none=>{env:=[],H:=[],aJ:=0}
def kn:Option Fin→Option (List Prop)
 |some (.go _ aL)=>some aL
 |_=>none
def El:Option Fin→Option (V×List Prop)
 |some (.aW x _ aL)=>some (x,aL)
 |_=>none
def spread:Nat→Nat→List (Nat×List eD)→List (List eD)
 | 0,_,_=>[]
 |n+1,i,l=>(look l i).getD []::spread n (i+1) l
def zr:∀(l:List Oper) (n:Nat) (x:Nat×Nat),x∈rz l n→n≤x.2∧True
 |[],n,x,h=>by simp [rz]at h
 |o::l,n,x,h=>by
  unfold rz at h;split at h
  ·rcases List.mem_cons.1 h with h|h
   ·subst h;exact⟨Nat.le_refl _,trivial⟩
   ·have:=(zr l (n+1) x h).1;exact⟨by omega,trivial⟩
  ·exact zr l n x h
def bo.up{P:Program}{K:Ctx}{M:Mem}{β:Nat→Option Nat}{st:az}{tmps:Array Value}{w:World}(h:bo P K M β st tmps w)(k:Nat):bo P K M β {env:=st.env,H:=st.H,aJ:=st.aJ+k} tmps w:=
 ⟨h.eE,h.own,h.uniq,h.unbox,h.box,h.inj,(λr b hb=>Nat.lt_of_lt_of_le (h.lt r b hb) (Nat.le_add_right _ _)),h.mem,h.m0,h.frame,h.gT,h.hL,h.gn⟩
section
variable {P:Program} {N E:Nat} {st:az} {tt:c7}
def aS.rg{id:Nat}{opsA:Array Oper}{Q:bY→az→Prop}(b4:eI P tt=true)(rs:List eD){b9:List Prop}(ai:kn (ry (h6 P) tt N opsA.toList rs st)=some b9)(b5:i7 b9)
 (dq:Q .normal (h_ (ry (h6 P) tt N opsA.toList rs st))):aS P N E (.region id opsA false) Q st:=by
 rintro K dT a w ⟨_,hd,dz,M,β,ci⟩
 obtain⟨tmps,ds⟩:=a;simp only at hd dz
 subst hd;have v7:eW P K N M β {env:=st.env,bB:=[],H:=st.H,aJ:=st.aJ,rs:=rs,aL:=[]} tmps w:=⟨ci,dz,(λ_ _ h=>by simp [look]at h),λ_ _ _ h=>by simp [look]at h⟩
 refine wp_region ?_;unfold ry at ai dq;have hlen:List.range opsA.size=List.range' 0 opsA.toList.length:=by rw [List.range_eq_range'];simp
 rw [hlen];split at ai
 ·rename_i g et;split at ai
  case h_2=>cases ai
  rename_i d';simp only [kn,Option.some.injEq]at ai;subst ai;rw [et]at dq;simp only [d',h_]at dq;refine D5 b4 rfl (fin:=.go g) b5.mem ?_ opsA.toList 0 _ tmps w M β (λj=>by simp) v7 et
  intro eV w' M' β' cL;exact⟨.normal,_,⟨rfl,rfl,cL.size,M',β',cL.bd⟩,dq⟩
 ·cases ai
 ·cases ai
def aS.Em{id:Nat}{opsA:Array Oper}{Q:bY→az→Prop}(b4:eI P tt=true)(rs:List eD){x:V}{b9:List Prop}(ai:El (ry (h6 P) tt N opsA.toList rs st)=some (x,b9))(b5:i7 b9)
 (dq:Q (.aW x) (h_ (ry (h6 P) tt N opsA.toList rs st))):aS P N E (.region id opsA false) Q st:=by
 rintro K dT a w ⟨_,hd,dz,M,β,ci⟩
 obtain⟨tmps,ds⟩:=a;simp only at hd dz
 subst hd;have v7:eW P K N M β {env:=st.env,bB:=[],H:=st.H,aJ:=st.aJ,rs:=rs,aL:=[]} tmps w:=⟨ci,dz,(λ_ _ h=>by simp [look]at h),λ_ _ _ h=>by simp [look]at h⟩
 refine wp_region ?_;unfold ry at ai dq;have hlen:List.range opsA.size=List.range' 0 opsA.toList.length:=by rw [List.range_eq_range'];simp
 rw [hlen];split at ai
 ·split at ai<;>cases ai
 ·rename_i y bD aL et;simp only [El,Option.some.injEq,Prod.mk.injEq]at ai;obtain⟨rfl,rfl⟩:=ai;rw [et]at dq;refine D5 b4 rfl (fin:=.aW y bD aL) b5.mem ?_ opsA.toList 0 _ tmps w M β (λj=>by simp) v7 et
  intro e dj w' cL;exact⟨.aW y,_,cL,dq⟩
 ·cases ai
def aS.zt{id:Nat}{opsA:Array Oper}{Q:bY→az→Prop}(b4:eI P tt=true)(hm:P.follows .mixedOrders=true)(h':List (Nat×List eD)){b9:List Prop}(ai:kn (zq (h6 P) tt N opsA.toList (spread opsA.toList.length 0 h') st)=some b9)(b5:i7 b9)
 (dq:Q .normal (h_ (zq (h6 P) tt N opsA.toList (spread opsA.toList.length 0 h') st))):aS P N E (.region id opsA true) Q st:=by
 rintro K dT a w ⟨_,hd,dz,M,β,ci⟩
 obtain⟨tmps,ds⟩:=a;simp only at hd dz
 subst hd;refine wp_region_any hm ?_;unfold zq at ai dq;split at ai
 case h_2=>cases ai
 rename_i b' g pJ et;rw [et]at dq
 dsimp only at dq
 rw [Bool.cond_eq_ite]at ai dq;split at ai
 case isFalse=>cases ai
 rename_i hc;rw [if_pos hc]at dq;simp only [kn,Option.some.injEq]at ai;subst ai;simp only [h_]at dq;obtain⟨hlen,hD,En⟩:=LN (Fi:=λg1=>Alike g g1) et b5.mem Alike.refl
 simp only [zm,Bool.and_eq_true]at hc;obtain⟨⟨⟨c1,c2⟩,c3⟩,c4⟩:=hc
 have eR:∀(i:Nat) o E,opsA[i]? = some o→b'[i]? = some E→g' opsA.toList o E=true:=by
  intro i o E am b7;obtain⟨iZ,z2⟩:=rv hlen i;have iV:opsA.toList[i]? = some o:=by simpa using am
  rw [iV]at iZ;rw [b7]at z2;cases dM:(ju opsA.toList b')[i]? with
  |none=>rw [dM]at iZ;simp at iZ
  |some x=>
   rw [dM]at iZ z2;simp at iZ z2
   subst iZ;subst z2;exact List.all_eq_true.1 c1 x (List.mem_of_getElem? dM)
 have bA:∀(i:Nat) E,b'[i]? = some E→nU N E=true:=λi E b7=>List.all_eq_true.1 c2 E (List.mem_of_getElem? b7)
 have v8:lY opsA (Array.replicate opsA.size false):=λj o am hj=>by have cB:j<opsA.size:=(Array.getElem?_eq_some_iff.1 am).1;simp [Array.getD_eq_getD_getElem?,cB]at hj
 have v':=hP.text eR (λg1 g2 i8 Z=>Alike.trans Z i8) (ju opsA.toList b') 0 (Array.replicate opsA.size false) _ (λj=>by have:=(rv hlen j).1;simpa using this) (λj=>by have:=(rv hlen j).2;simpa using this)
  ⟨by simp,λj hj=>by simp [hj]⟩ v8 c4 En
 have qY:(ju opsA.toList b').length=opsA.size:=by rw [Ek hlen];simp
 rw [qY]at v';refine hP.sound (K:=K) b4 (λi E b7=>hD E (List.mem_of_getElem? b7)) eR bA c3 ?_ _ _ _ tmps _ M β v' (by simp) v8 (λx hx=>by cases hx) ⟨(ci.drew _).up _,dz,(λs id h _ b hb=>by have Z:=ci.lt _ _ hb;have ad:=(zr _ _ _ (oI h)).1;simp only at ad;omega),λ_ _ _ h=>by simp [zp,look]at h⟩
 intro g1 eV w' M' β' VL cL;exact⟨.normal,_,⟨rfl,rfl,cL.size,M',β',Alike.bd VL.symm cL.bd⟩,dq⟩
def aS.Eo{α:Type}{b:Bool}{x y:Option α}{r:Option α}(h:(bif b then x else y)=r){c:Nat}{rA rB:Code}{Q:bY→az→Prop}(hc:(look st.env c).map (·.d)=some (.v (.bool b)))
 (bH:x=r→aS P N E rA Q st) (a7:y=r→aS P N E rB Q st):aS P N E (.cond (.tmp c) rA rB) Q st:=by
 simp only [Option.map_eq_some_iff]at hc;obtain⟨⟨d,own⟩,he,rfl⟩:=hc;exact aS.cond b own he (λhb=>bH (by subst hb;exact h)) (λhb=>a7 (by subst hb;exact h))
def aS.VM{c:Nat}{rA rB:Code}{Q:bY→az→Prop}(hc:(look st.env c).map (·.d)=some (.v (.bool true)))(bH:aS P N E rA Q st):aS P N E (.cond (.tmp c) rA rB) Q st:=by
 simp only [Option.map_eq_some_iff]at hc;obtain⟨⟨d,own⟩,he,rfl⟩:=hc;exact aS.cond true own he (λ_=>bH) (λhb=>by cases hb)
def aS.LP{c:Nat}{rA rB:Code}{Q:bY→az→Prop}(hc:(look st.env c).map (·.d)=some (.v (.bool false)))(a7:aS P N E rB Q st):aS P N E (.cond (.tmp c) rA rB) Q st:=by
 simp only [Option.map_eq_some_iff]at hc;obtain⟨⟨d,own⟩,he,rfl⟩:=hc;exact aS.cond false own he (λhb=>by cases hb) (λ_=>a7)
end
def bg{P:Program}{f:FuncId}{args:List D}{dw:List (Nat×TypeId)}{H ch:List (List aM)}{out:Out}(_:fK P f args dw H out ch)(os:List Nat):eD:=.call out (some ch) os
def bi{P:Program}{f:FuncId}{args:List D}{dw:List (Nat×TypeId)}{H ch:List (List aM)}{out:Out}(_:fK P f args dw H out ch)(os:List Nat):eD:=.call out none os
def dQ{c:Prop}{P:Program}{f:FuncId}{args:List D}{dw:List (Nat×TypeId)}{H ch:List (List aM)}{out:Out}(_:c→fK P f args dw H out ch):eD:=.call out none []
def Ep{c c2:Prop}{P:Program}{f:FuncId}{args:List D}{dw:List (Nat×TypeId)}{H ch:List (List aM)}{out:Out}(_:c→c2→fK P f args dw H out ch):eD:=.call out none []
def im{raw x:V}(_:fX raw x):eD:=.val x
def eX{α:Type}[Inhabited α]{k:Nat}{e:α→V}(l:List α):fX (.bm k l.length λi=>(l.map e).getD i .dD) (af k e l):=Vk rfl _ rfl
def mv(l:List Int):Bool:=l.all λx=>decide (0≤x)&&decide (x<256)
def jv(l:List Int):ae7:=l.map λx=>UInt8.ofNat x.toNat
def zu{l:List Int}(h:mv l=true):(jv l).length=l.length∧∀i,i<l.length→V.int .u8 (l.getD i default) = .int .u8 (((jv l).getD i 0).toNat:Int):=by
 refine⟨by simp [jv],λi hi=>?_⟩
 unfold mv at h;rw [List.all_eq_true]at h;have:=h l[i] (List.getElem_mem hi)
 simp only [Bool.and_eq_true,decide_eq_true_eq]at this;simp only [jv,List.getD,List.getElem?_map,List.getElem?_eq_getElem hi,Option.getD_some,Option.map_some,UInt8.toNat_ofNat'];rw [Nat.mod_eq_of_lt (by omega)]
 congr 1
 omega
def zv(T:TypeId):V→Option (Int×Int)
 |.iface t (.agg [.int .i64 a,.int .i64 b])=>bif Nat.beq t T then some (a,b)else none
 |_=>none
def LQ{T:TypeId}{x:V}{r:Int×Int}(h:zv T x=some r):x = .iface T (.agg [.int .i64 r.1,.int .i64 r.2]):=by
 unfold zv at h;split at h
 ·rw [Bool.cond_eq_ite]at h;split at h
  ·rename_i hb;cases h;rw [Nat.beq_eq]at hb;subst hb;rfl
  ·cases h
 ·cases h
def rC(M:Mem):Option V→FrameMode→Prop
 |none,m=>m = .returning
 |some x,m=>∃v,m = .panicking [{v,recovered:=false}]∧cw M v x
def pR(P:Program)(fd:FuncId)(args:List D)(H:List (List aM))(x:Option V)(R:List (List aM)→Prop):Prop:=
 ∀(K:Ctx) (w:World) (vs:List Value) (M:Mem) (β:Nat→Option Nat) (mode:FrameMode),vs.length=args.length→
  bo P K M β {env:=gj args [],H:=cl 0 H,aJ:=H.length} ⟨vs⟩ w→(∀r b,β r=some b→K.jl r=some b)→rC M x mode→
  CallsD P fd ⟨vs⟩ mode w λe li w'=>∃v bq M' β',e = .returned v∧settle li = .returning∧R bq∧bo P K M' β' {env:=gG (.ret (.cc []) none),H:=cl 0 bq,aJ:=H.length} #[v] w'
section
variable {P:Program} {K:Ctx} {M:Mem} {β:Nat→Option Nat} {st:az} {tmps:Array Value} {w:World} {tt:c7}
def rC.VN{x:Option V}{m:FrameMode}(h:rC M x m):m ≠ .run:=by
 cases x with
 |none=>intro hm;rw [hm]at h;cases h
 |some x=>obtain⟨v,Z,_⟩:=h;intro hm;rw [hm]at Z;cases Z
def rC.mono{M':Mem}(cr:M.le M'){x:Option V}{m:FrameMode}(h:rC M x m):rC M' x m:=by
 cases x with
 |none=>exact h
 |some x=>obtain⟨v,Z,ad⟩:=h;exact⟨v,Z,ad.mono cr⟩
def nV(P:Program)(tt:c7)(E:Nat)(rs:List ResultVar)(fd:FuncId)(ds:List D)(R:Out→List (List aM)→Prop)(x:Option V)(st:az):Prop:=
 ∃(ρ:List Nat) (bs H1:List (List aM)) (h1:List D) (Er:List (List aM)→Prop),k3 ρ=true∧boxes st.H ρ=some bs∧ig (idx ρ) bs=some H1∧jj (idx ρ) ds=some h1∧pR P fd h1 H1 x Er∧
  ∀ch,Er ch→∃gS o bq,ch.length=ρ.length∧ig (λj=>ρ[j]?) ch=some gS∧Ab.leave tt E rs {env:=st.env,H:=jk ρ gS++st.H,aJ:=st.aJ}=some (o,bq)∧R o (lV bq)
def Es{fn:Func}{E:Nat}(b4:eI P tt=true)(dT:∀r b,K.jl r=some b→r<E)(hs:bo P K M β st tmps w){fd:FuncId}{ds:List D}{vs:List Value}(hlen:vs.length=ds.length)(ar:∀(i:Nat) v d,vs[i]? = some v→ds[i]? = some d→b3 M β v d)
 {x : Option V} {mode : FrameMode} (hm : rC M x mode) {f : Func} (a7 : P.funcs[fd]? = some f) (hb : f.body.isSome = true) (h7 : decide (f.name = "runtime.NumGoroutine") = false) {R : Out → List (List aM) → Prop} (lf : nV P tt E fn.results.toList fd ds R x st) :
 Leaves P fn tmps (λe w'=>∃o bq v M' β',R o bq∧e=pB o v∧bo P K M' β' {env:=gG o,H:=cl 0 bq,aJ:=E} #[v] w') [{target:=.fn (.func fd) ⟨vs⟩,args := #[]}] mode w:=by
 obtain⟨ρ,bs,H1,h1,Er,hn,iY,ki,eJ,hd,rj⟩:=lf;have nO:f.body≠none:=by intro bf;rw [bf]at hb;cases hb
 have VO : f.name ≠ "runtime.NumGoroutine" := by simpa using h7
 refine leaves_cons (f:=fd) (args:=⟨vs⟩) hm.VN (by simp [invoke,callFunc,a7,nO,VO]) ?_
 have hc:=Kx (hd:=[]) hs hn iY ki hlen ar eJ ⟨by simp,by simp,by simp⟩
 have eM:H1.length=ρ.length:=by rw [(s7 ki).1,(qZ iY).1]
 refine(hd (iE M β st tmps w ρ []) w vs M _ mode (by rw [hlen,K1 eJ]) hc (λr b h=>h) hm).mono ?_
 rintro e li w' ⟨v,bq,M',β',rfl,hu,VP,ci⟩
 obtain⟨gS,o,LR,Z,ad,al,aH⟩:=rj bq VP;rw [eM]at ci;obtain⟨cr,Et,_,_⟩:=DD hs hn iY ad Z ci
 dsimp only
 rw [hu];obtain⟨v2,a6,k9,M2,rD,bT,cI⟩:=vT b4 dT Et al;exact⟨v2,a6,o,lV LR,k9,M2,rD,aH,bT,cI.era⟩
def nc(P:Program)(_tt:c7)(fn:Func)(E:Nat)(c:Code)(R:Out→List (List aM)→Prop)(st:az):Prop:=
 ∀(K:Ctx),K.ds=[]→(∀r b,K.jl r=some b→r<E)→∀(a:Act) (w:World),pI P K fn.ntmps .normal st .normal a w→
  c.wp P (bodyPostD P fn λe w'=>∃o bq v M' β',R o bq∧e=pB o v∧bo P K M' β' {env:=gG o,H:=cl 0 bq,aJ:=E} #[v] w') a w
def Eu(P:Program)(tt:c7)(fn:Func)(E:Nat)(y:Code)(R:Out→List (List aM)→Prop):bY→az→Prop
 |.normal,st=>nc P tt fn E y R st
 |.ret,st=>∃o bq,Ab.leave tt E fn.results.toList st=some (o,bq)∧R o (lV bq)
 |_,_=>False
def nc.seq{fn:Func}{E:Nat}{x y:Code}{R:Out→List (List aM)→Prop}(b4:eI P tt=true)(h:aS P fn.ntmps E x (Eu P tt fn E y R) st):nc P tt fn E (.seq x y) R st:=by
 intro K gq dT a w hs;refine wp_seq (wp_mono (h K dT a w hs) ?_)
 rintro e dj w' ⟨eQ,bD,Z,ad⟩
 cases eQ with
 |normal=>obtain⟨rfl,al⟩:=Z;exact ad K gq dT dj w' ⟨rfl,al⟩
 |ret=>
  obtain⟨rfl,hd,_,M',β',ci⟩:=Z;obtain⟨o,bq,al,aH⟩:=ad;obtain⟨v,a6,k9,M2,rD,bT,cI⟩:=vT b4 dT ci al;show Leaves P fn dj.tmps _ dj.defers .returning w'
  rw [hd,gq];exact⟨v,a6,o,lV bq,k9,M2,rD,aH,bT,cI.era⟩
 |exit i=>exact ad.elim
 |aW x=>exact ad.elim
def Ev(P:Program)(tt:c7)(E:Nat)(rs:List ResultVar)(fd:FuncId)(ds:List D)(R:Out→List (List aM)→Prop):bY→az→Prop
 |.normal,st |.ret,st=>nV P tt E rs fd ds R none st
 |.aW x,st=>nV P tt E rs fd ds R (some x) st
 |.exit _,_=>False
def nc.defer{fn:Func}{E:Nat}{id:Nat}{opsA:Array Oper}{c_ gC:Oper}{y:Code}{R:Out→List (List aM)→Prop}(b4:eI P tt=true)(ld:opsA = #[c_,gC]){t:Nat}{fd:FuncId}{er:Array Operand}{c:Call}
 (Z:c_.op = .makeFunc (.func fd) #[] er) (ad:c_.dst=some t) (al:c_.guard=none) (aH:gC.op = .defer c) (a6:gC.dst=none) (bT:gC.guard=none) (cI:c.callee = .value (.tmp t)) (dO:c.args = #[]) (bH:Nat.blt t fn.ntmps=true)
 {ds : List D} (VQ : mapM' (rd st.env [] [] tt 0) er.toList = some ds) (_hE : Nat.ble E st.aJ = true) {f : Func} (a7 : P.funcs[fd]? = some f) (hb : f.body.isSome = true) (h7 : decide (f.name = "runtime.NumGoroutine") = false)
 (gq:qE st.aJ ds=true)
 (h:aS P fn.ntmps st.aJ y (Ev P tt E fn.results.toList fd ds R) {env:=del st.env t,H:=st.H,aJ:=st.aJ}):nc P tt fn E (.seq (.region id opsA false) y) R st:=by
 rintro K VR dT a w ⟨_,hd,dz,M,β,ci⟩
 obtain⟨tmps,defers⟩:=a;simp only at hd dz
 rw [VR]at hd;subst hd;have cB:t<tmps.size:=by rw [dz];simpa using bH
 -- kh captured values
 obtain⟨eM,d9⟩:=px VQ;have v7:eW P K fn.ntmps M β {env:=st.env,bB:=[],H:=st.H,aJ:=st.aJ,rs:=[],aL:=[]} tmps w:=⟨ci,dz,(λ_ _ h=>by simp [look]at h),λ_ _ _ h=>by simp [look]at h⟩
 have k7:∀(i:Nat) v d,(er.toList.map (⟨tmps,[]⟩:Act).eval)[i]? = some v→ds[i]? = some d→b3 M β v d:=by
  intro i v d ar hd;rw [List.getElem?_map,Option.map_eq_some_iff]at ar;obtain⟨x,hx,rfl⟩:=ar;exact dp (ds:=[]) (p:=[]) v7 (λx hx=>by cases hx) (d9 i x d hx hd)
 have hlen:(er.toList.map (⟨tmps,[]⟩:Act).eval).length=ds.length:=by simp at eM ⊢;omega
 -- kh frame behind kh region
 have nd:bo P K M β {env:=del st.env t,H:=st.H,aJ:=st.aJ} (tmps.setIfInBounds t (.func (.func fd) #[] ⟨er.toList.map (⟨tmps,[]⟩:Act).eval⟩)) w:=ci.drop
 let nW:Ctx:={vb:=M,F:=K.F,jl:=λr=>if r<st.aJ then β r else none,gn:=K.gn,ds:=[{target:=.fn (.func fd) ⟨er.toList.map (⟨tmps,[]⟩:Act).eval⟩,args := #[]}]}
 have Et:bo P nW M β {env:=del st.env t,H:=st.H,aJ:=st.aJ} (tmps.setIfInBounds t (.func (.func fd) #[] ⟨er.toList.map (⟨tmps,[]⟩:Act).eval⟩)) w:=
  ⟨nd.eE,nd.own,nd.uniq,nd.unbox,nd.box,nd.inj,nd.lt,nd.mem,Mem.le_refl _,(λb aL da=>⟨(nd.frame b aL da).1,λ_=>rfl⟩),(λr b hb=>by
   simp only [nW]at hb;split at hb
   ·exact hb
   ·cases hb),nd.hL,nd.gn⟩
 have Ew:∀{M':Mem} {β':Nat→Option Nat} {bD:az} {eV:Array Value} {w':World},bo P nW M' β' bD eV w'→bo P K M' β' bD eV w':=by
  intro M' β' bD eV w' cL
  exact⟨cL.eE,cL.own,cL.uniq,cL.unbox,cL.box,cL.inj,cL.lt,cL.mem,Mem.le_trans ci.m0 cL.m0,(λb aL da=>⟨(cL.frame b aL da).1,λo=>((cL.frame b aL da).2 o).trans ((ci.frame b aL da).2 o)⟩),(λr b hb=>cL.gT r b (by
   have gX:=ci.gT r b hb;have jS:=ci.lt r b gX;simp only [nW];rw [if_pos jS];exact gX)),cL.hL,cL.gn⟩
 have fZ:∀{M':Mem} {β':Nat→Option Nat} {bD:az} {eV:Array Value} {w':World},bo P nW M' β' bD eV w'→∀r,r<st.aJ→∀b,β r=some b→β' r=some b:=λcL r ai b hb=>cL.gT r b (by simp only [nW];rw [if_pos ai];exact hb)
 refine wp_seq (wp_region ?_);subst ld
 have e1:(execOp (Act.eval ⟨tmps,[]⟩) c_).run P w = .ok (.value (.func (.func fd) #[] ⟨er.toList.map (⟨tmps,[]⟩:Act).eval⟩)) w:=by
  simp only [execOp,Z,Instr.makeFunc];refine hN _ ?_;simp
  congr 1
  apply Array.ext';simp
 have e2:(execOp (Act.eval ⟨tmps.setIfInBounds t (.func (.func fd) #[] ⟨er.toList.map (⟨tmps,[]⟩:Act).eval⟩),[]⟩) gC).run P w = .ok (.defer {target:=.fn (.func fd) ⟨er.toList.map (⟨tmps,[]⟩:Act).eval⟩,args := #[]}) w:=by
  simp [execOp,aH,resolve,cI,dO,Deferred.ofValue,Act.eval,cB]
 show wpOps P #[c_,gC] _ (List.range 2) ⟨tmps,[]⟩ w
 simp only [List.range,List.range.loop,wpOps];have v_:∀iI,Region.wanted c_ (yielded #[c_,gC] iI)=true:=λiI=>by simp [Region.wanted,al]
 have wa:∀iI,Region.wanted gC (yielded #[c_,gC] iI)=true:=λiI=>by simp [Region.wanted,bT]
 simp only [show(#[c_,gC]:Array Oper)[0]? = some c_ from rfl,show(#[c_,gC]:Array Oper)[1]? = some gC from rfl,v_,wa,if_true]
 refine .inl ?_;unfold Oper.wp;rw [e1,Oper.upon_value,ad];refine .inl ?_;have VS:(execOp ((⟨tmps,[]⟩:Act).put (some t) (.func (.func fd) #[] ⟨er.toList.map (⟨tmps,[]⟩:Act).eval⟩)).eval gC).run P w = .ok (.defer {target:=.fn (.func fd) ⟨er.toList.map (⟨tmps,[]⟩:Act).eval⟩,args := #[]}) w:=e2;rw [VS,Oper.upon_defer,a6];show y.wp P _ ⟨tmps.setIfInBounds t _,[_]⟩ w
 have oX:∀r b,nW.jl r=some b→r<st.aJ:=by
  intro r b hb;simp only [nW]at hb;split at hb
  ·assumption
  ·cases hb
 refine wp_mono (h nW oX _ w ⟨rfl,rfl,by simpa using dz,M,β,Et⟩) ?_
 rintro e dj w' ⟨eQ,bD,g1,g2⟩
 have mm:∀{M':Mem} {β':Nat→Option Nat} {bD:az} {eV:Array Value} {w':World},bo P nW M' β' bD eV w'→∀(i:Nat) v d,(er.toList.map (⟨tmps,[]⟩:Act).eval)[i]? = some v→ds[i]? = some d→b3 M' β' v d:=by
  intro M' β' bD eV w' cL i v d ar hd;have cr:M.le M':=cL.m0;exact((k7 i v d ar hd).mono cr).S2 (λr ai b hb=>fZ cL r ai b hb) (ps gq hd)
 cases eQ with
 |normal=>
  obtain⟨rfl,hd,_,M',β',hs⟩:=g1;show Leaves P fn dj.tmps _ dj.defers .returning w'
  rw [hd];exact Es b4 dT (Ew hs) hlen (mm hs) (x:=none) rfl a7 hb h7 g2
 |ret=>
  obtain⟨rfl,hd,_,M',β',hs⟩:=g1;show Leaves P fn dj.tmps _ dj.defers .returning w'
  rw [hd];exact Es b4 dT (Ew hs) hlen (mm hs) (x:=none) rfl a7 hb h7 g2
 |exit i=>exact g2.elim
 |aW x=>
  obtain⟨v,rfl,hd,M',β',fA,hs⟩:=g1;show Leaves P fn dj.tmps _ dj.defers (.panicking _) w'
  rw [hd];exact Es b4 dT (Ew hs) hlen (mm hs) (x:=some x) ⟨v,rfl,fA⟩ a7 hb h7 g2
def nJ.VT {f : FuncId} {fn : Func} {c : Code} {args : List D} {dw : List (Nat × TypeId)} {H : List (List aM)} {R : Out → List (List aM) → Prop} (a7 : P.funcs[f]? = some fn) (hb : fn.body = some c) (h7 : decide (fn.name = "runtime.NumGoroutine") = false)
 (eJ:Nat.ble args.length fn.ntmps=true) (h:nc P tt fn H.length c R {env:=gj args dw,H:=cl 0 H,aJ:=H.length}):nJ P f args dw H R:=by
 refine⟨⟨fn,a7,by rw [hb];rfl,by simpa using h7⟩,?_⟩
 intro cQ w vs M β hlen D8 D9
 suffices key:∀K:Ctx,K.ds=[]→bo P K M β {env:=gj args dw,H:=cl 0 H,aJ:=H.length} ⟨vs⟩ w→(∀r b,β r=some b→K.jl r=some b)→
  Calls P f ⟨vs⟩ w λe w'=>∃o bq v M' β',R o bq∧e=pB o v∧bo P K M' β' {env:=gG o,H:=cl 0 bq,aJ:=H.length} #[v] w' from
  (key {cQ with ds:=[]} rfl (D8.ri []) D9).mono λe w' ⟨o,bq,v,M',β',Z,ad,al⟩=>⟨o,bq,v,M',β',Z,ad,al.ri cQ.ds⟩
 intro K gq ci fZ;have dT:∀r b,K.jl r=some b→r<H.length:=λr b hb=>ci.lt r b (ci.gT r b hb)
 simp only [Nat.ble_eq]at eJ;exact calls_of_wp_defers a7 hb (h K gq dT {tmps:=(⟨vs⟩:Array Value)++Array.replicate (fn.ntmps-(⟨vs⟩:Array Value).size) undef,defers:=[]} w ⟨rfl,gq.symm,by simp;omega,M,β,D7 hlen ci⟩)
def pR.LS{fd:FuncId}{fn:Func}{i0:Nat}{opsA:Array Oper}{c_ gC:Oper}{rest:Code}{r t2:Nat}{c:Call}(b4:eI P tt=true)(a7:P.funcs[fd]? = some fn)(hb:fn.body=some (.seq (.region i0 opsA false) rest))(ld:opsA = #[c_,gC])
 (Z:c_.op = .call c) (ad:c_.dst=some r) (al:c_.guard=none) (aH:c.callee = .builtin .recover) (a6:c.args = #[]) (bT:gC.op = .assign (.tmp r)) (cI:gC.dst=some t2) (dO:gC.guard=none)
 {args:List D} {H:List (List aM)} {x:Option V} {R:List (List aM)→Prop} (ai:Nat.blt r fn.ntmps=true) (vP:Nat.blt t2 fn.ntmps=true) (eJ:Nat.ble args.length fn.ntmps=true)
 (h:aS P fn.ntmps H.length rest (pK tt H.length fn.results.toList λo bq=>o = .ret (.cc []) none∧R bq) {env:=(t2,{d:=.v (x.getD .gF)})::del (gj args []) r,H:=cl 0 H,aJ:=H.length}):pR P fd args H x R:=by
 intro K w vs M β mode hlen ci fZ hm;have dT:∀r b,K.jl r=some b→r<H.length:=λr b hb=>ci.lt r b (ci.gT r b hb)
 simp only [Nat.ble_eq]at eJ;simp only [Nat.blt_eq]at ai vP;refine callsD_of_wpS a7 hb λpS cs hu=>?_
 apply wpS_seq;apply wpS_region;subst ld;have v_:∀iI,Region.wanted c_ (yielded #[c_,gC] iI)=true:=λiI=>by simp [Region.wanted,al]
 have wa:∀iI,Region.wanted gC (yielded #[c_,gC] iI)=true:=λiI=>by simp [Region.wanted,dO]
 have e1:∀a:Act,(execOp a.eval c_).run P w = .ok .recover w:=λa=>by
  simp [execOp,Z,resolve,aH,a6,invoke,builtin]
 have eh:=D7 (n:=fn.ntmps-(⟨vs⟩:Array Value).size) hlen ci
 -- DE 'recover' US
 have key:∃(v:Value) (li:FrameMode),cw M v (x.getD .gF)∧settle li = .returning∧(recoverD (pS::cs)=some (v,{pS with mode:=li}::cs)∨(recoverD (pS::cs)=none∧v = .nilIface∧({pS with mode:=li}:Frame)=pS)):=by
  cases x with
  |none=>
   have ik:mode = .returning:=hm;subst ik;exact⟨.nilIface,.returning,.gF,rfl,.inr ⟨by simp [recoverD,hu],rfl,by rw [←hu]⟩⟩
  |some y=>
   obtain⟨v,ik,ar⟩:=hm;subst ik;exact⟨v,.panicking [{v,recovered:=true}],ar,by simp [settle],.inl (by simp [recoverD,hu])⟩
 obtain⟨v,li,ar,s4,wb⟩:=key;show wpOpsS P #[c_,gC] _ (List.range 2) _ (pS::cs) w
 simp only [List.range,List.range.loop,wpOpsS,show(#[c_,gC]:Array Oper)[0]? = some c_ from rfl,show(#[c_,gC]:Array Oper)[1]? = some gC from rfl,v_,wa,if_true,e1]
 have e2:∀iI:Array Value,r<iI.size→(execOp (Act.eval ⟨iI.setIfInBounds r v,[]⟩) gC).run P w = .ok (.value v) w:=λiI bH=>by
  simp [execOp,bT,Act.eval,bH]
 have dz:((⟨vs⟩:Array Value)++Array.replicate (fn.ntmps-(⟨vs⟩:Array Value).size) undef).size=fn.ntmps:=by simp;omega
 generalize adN:(⟨vs⟩:Array Value)++Array.replicate (fn.ntmps-(⟨vs⟩:Array Value).size) undef=iI at eh dz
 have lf:∀cs',cs'={pS with mode:=li}::cs→rest.wpS P (bodyPostS P fn pS cs λe li w'=>∃v bq M' β',e = .returned v∧settle li = .returning∧R bq∧bo P K M' β' {env:=gG (.ret (.cc []) none),H:=cl 0 bq,aJ:=H.length} #[v] w')
  ⟨(iI.setIfInBounds r v).setIfInBounds t2 v,[]⟩ cs' w:=by
  intro cs' dy
  have Ex:bo P {K with ds:=[]} M β {env:=(t2,{d:=.v (x.getD .gF)})::del (gj args []) r,H:=cl 0 H,aJ:=H.length} ((iI.setIfInBounds r v).setIfInBounds t2 v) w:=
   ((eh.drop (t:=r) (v:=v)).put (t:=t2) (v:=v) (e:={d:=.v (x.getD .gF)}) (by rw [Array.size_setIfInBounds,dz];exact vP) (.v _ _ ar) (λT aG=>by cases aG)).ri []
  refine wpS_of_wp (wp_mono (h {K with ds:=[]} dT _ w ⟨rfl,rfl,by simpa using dz,M,β,Ex⟩) ?_)
  rintro e dj w' ⟨eQ,bD,g1,g2⟩
  cases eQ with
  |normal=>
   obtain⟨rfl,hd,_,M',β',hs⟩:=g1;obtain⟨o,bq,g3,rfl,g4⟩:=g2;obtain⟨v2,g5,k9,M2,rD,g6,g7⟩:=vT b4 (K:={K with ds:=[]}) dT hs g3;cases g6;exact⟨hd,li,dy,v2,g5,v2,bq,M2,rD,rfl,s4,g4,g7.ri K.ds⟩
  |ret=>
   obtain⟨rfl,hd,_,M',β',hs⟩:=g1;obtain⟨o,bq,g3,rfl,g4⟩:=g2;obtain⟨v2,g5,k9,M2,rD,g6,g7⟩:=vT b4 (K:={K with ds:=[]}) dT hs g3;cases g6;exact⟨hd,li,dy,v2,g5,v2,bq,M2,rD,rfl,s4,g4,g7.ri K.ds⟩
  |exit i=>exact g2.elim
  |aW y=>
   obtain⟨bq,_,g4,_⟩:=g2;cases g4
 have e3:(execOp ((({tmps:=iI,defers:=[]}:Act).put c_.dst v).eval) gC).run P w = .ok (.value v) w:=by
  rw [ad];exact e2 iI (by omega)
 rcases wb with wb|⟨wb,rfl,hc0⟩
 ·simp only [wb,e3];rw [Oper.upon_value,ad,cI];exact lf _ rfl
 ·simp only [wb,e3];rw [Oper.upon_value,ad,cI];exact lf _ (by rw [hc0])
end
def ne(H:List (Nat×List aM)):Nat→List (Nat×List aM)
 | 0=>[]
 |n+1=>match look H n with
  |some cs=>(n,cs)::ne H n
  |none=>ne H n
def Ey{H:List (Nat×List aM)}:∀{n q:Nat} {cs:List aM},look (ne H n) q=some cs→q<n∧look H q=some cs
 | 0,q,cs,h=>by simp [ne,look]at h
 |n+1,q,cs,h=>by
  unfold ne at h;split at h
  ·rename_i c hc;rw [de]at h;split at h
   ·rename_i ax;subst ax;cases h;exact⟨by omega,hc⟩
   ·obtain⟨Z,ad⟩:=Ey h;exact⟨by omega,ad⟩
  ·obtain⟨Z,ad⟩:=Ey h;exact⟨by omega,ad⟩
def LT(mk:Nat)(ops:List Oper)(o:Oper)(x:V)(hs:List (Nat×List aM))(aL:List Prop)(il:List Nat)(rs:List eD)(pM:List (Nat×List aM)):dB:=
 {dst:=o.dst,p:=[],f:={e:=none,rs:=[],hs:=[(mk,[])],aL},il,lg:=m' ops o,m8:=nS o,rs,fL:=1,rk:=x,m9:=hs,pM}
def LU(ops:List Oper)(o:Oper):dB:=
 {dst:=o.dst,p:=[],f:={e:=none,rs:=[]},il:=[],lg:=m' ops o,m8:=nS o,rs:=[],fL:=2}
def oY(bL:fw)(tt:c7)(ops:List Oper)(fo mk:Nat):Nat→List Oper→List (List eD)→cG→Option (List dB×cG×List Prop×List (V×List (Nat×List aM)))
 |_,[],[],g=>some ([],g,[],[])
 |i,o::l,rs::h',g=>bif Nat.beq i fo then match mT ops g o with
  |some []=>match step1 bL tt ops {g with rs:=rs} [] o with
   |some (.aW x hs aL)=>match oY bL tt ops fo mk (i+1) l h' (dF (LT mk ops o x hs aL (gZ tt g [] o++List.range mk) rs g.H) g) with
    |some (b',es,pJ,xs)=>some (LT mk ops o x hs aL (gZ tt g [] o++List.range mk) rs g.H::b',es,pJ++aL,(x,hs++ne g.H mk)::xs)
    |none=>none
   |_=>none
  |_=>none
  else bif waits ops fo 3 i then match oY bL tt ops fo mk (i+1) l h' (dF (LU ops o) g) with
   |some (b',es,pJ,xs)=>some (LU ops o::b',es,pJ,xs)
   |none=>none
  else match findD bL tt ops g o rs with
   |some E=>bif E.f.hs.all (λy=>!Nat.beq y.1 mk)then match oY bL tt ops fo mk (i+1) l h' (dF E g) with
    |some (b',es,pJ,xs)=>some (E::b',es,pJ++E.f.aL.map (under g E.p),xs)
    |none=>none
    else none
   |none=>none
 |_,_,_,_=>none
def wc(bL:fw)(tt:c7)(N:Nat)(ops:List Oper)(fo mk:Nat)(h':List (List eD))(st:az):Option (V×List (Nat×List aM)×List Prop):=
 match oY bL tt ops fo mk 0 ops h' (zp ops st) with
 |some (b',g,aL,[(x,hs)])=>bif zm N ops b'&&(look g.H mk).isSome&&(look st.H mk).isNone then some (x,hs,aL)else none
 |_=>none
def Ez:Option (V×List (Nat×List aM)×List Prop)→Option (V×List Prop)
 |some (x,_,b9)=>some (x,b9)
 |none=>none
def EA:Option (V×List (Nat×List aM)×List Prop)→List (Nat×List aM)
 |some (_,H,_)=>H
 |none=>[]
section
variable {P:Program} {K:Ctx} {N E:Nat} {st:az} {tt:c7} {opsA:Array Oper} {bL:fw}
structure LV(opsA:Array Oper)(b':List dB)(fo mk:Nat)(x:V)(hs:List (Nat×List aM)):Prop where
 dead:∀(i:Nat) E,b'[i]? = some E→E.fL=2→waits opsA.toList fo 3 i=true
 aW:∀(i:Nat) E,b'[i]? = some E→E.fL=1→E.p=[]∧E.rk=x∧E.m9++ne E.pM mk=hs∧∀q,q<mk→q∈E.il
 go:∀(i:Nat) E,b'[i]? = some E→E.fL=0→i≠fo∧(E.f.hs.all (λy=>!Nat.beq y.1 mk))=true
 fL:∀(i:Nat) E,b'[i]? = some E→E.fL=0∨E.fL=1∨E.fL=2
def VU{listed:Array Bool}(gr:lY opsA listed){i fo:Nat}(hi:i∈Region.ready .any opsA listed){n:Nat}(hw:waits opsA.toList fo n i=true):listed.getD fo false=true:=by
 cases n with
 |zero=>simp [waits]at hw
 |succ n=>
  obtain⟨_,o,am,rq⟩:=mem_ready.1 hi;rw [waits]at hw;have ab:opsA.toList[i]? = some o:=by simpa using am
  simp only [ab]at hw;obtain⟨e,he,hb⟩:=List.any_eq_true.1 hw;simp only [Bool.and_eq_true,Bool.or_eq_true,Nat.beq_eq]at hb;have Z:=rq e (by simpa using he) hb.1
  rcases hb.2 with rfl|ad
  ·exact Z
  ·exact ze gr ad Z
def EB{mk:Nat}:∀{l H:List (Nat×List aM)},(l.all λy=>!Nat.beq y.1 mk)=true→look H mk=none→look (l++H) mk=none
 |[],_,_,h=>h
 |(a,b)::l,H,ab,h=>by
  simp only [List.all_cons,Bool.and_eq_true,Bool.not_eq_true']at ab;rw [List.cons_append,de];have:a≠mk:=by intro e;subst e;simp at ab
  rw [if_neg this];exact EB ab.2 h
def VV{E:dB}{g:cG}{mk:Nat}(h:(E.f.hs.all λy=>!Nat.beq y.1 mk)=true)(hg:look g.H mk=none):look (dF E g).H mk=none:=by
 unfold dF;cases E.dst with
 |none=>exact EB h hg
 |some t=>
  cases E.p with
  |nil=>exact EB h hg
  |cons x p=>dsimp only;cases E.f.e<;>exact hg
def hP.LW(b4:eI P tt=true){b':List dB}{fo mk:Nat}{x:V}{hs:List (Nat×List aM)}(jQ:LV opsA b' fo mk x hs)(eR:∀(i:Nat) o E,opsA[i]? = some o→b'[i]? = some E→g' opsA.toList o E=true)(bA:∀(i:Nat) E,b'[i]? = some E→nU N E=true)(iC:vZ opsA.toList b'=true){Q:Exit→Act→World→Prop}
 (dq:∀n e dj w',pI P K N (.aW x) {env:=[],H:=hs,aJ:=n} e dj w'→Q e dj w'):
 ∀(n:Nat) (listed:Array Bool) (g:cG) (tmps:Array Value) (w:World) (M:Mem) (β:Nat→Option Nat),hP (h6 P) tt opsA b' (λg=>(look g.H mk).isSome=true) n listed g→listed.size=opsA.size→lY opsA listed→pQ b' listed g→listed.getD fo false=false→look g.H mk=none→eW P K N M β g tmps w→wpAny P .any opsA Q n listed ⟨tmps,K.ds⟩ w
 | 0,_,g,tmps,w,M,β,h,_,_,_,_,ey,_=>by have:(look g.H mk).isSome=true:=h.2;rw [ey]at this;cases this
 |n+1,listed,g,tmps,w,M,β,h,dz,gr,kE,LX,ey,fb=>by
  refine⟨(λai=>by have:(look g.H mk).isSome=true:=h.1 ai;rw [ey]at this;cases this),λi hi=>?_⟩
  obtain⟨o,E,am,b7,zl,hn⟩:=h.2 i hi;have cB:i<listed.size:=by rw [dz];exact(Array.getElem?_eq_some_iff.1 am).1
  have lZ:listed.getD i false=false:=by have:=(mem_ready.1 hi).1;simpa [Array.getD_eq_getD_getElem?,cB]using this
  have nP:eW P K N M β {g with rs:=E.rs,aL:=[]} tmps w:=⟨fb.bd,fb.size,fb.fresh,fb.cond⟩;unfold wpOp;simp only [am];rcases jQ.fL i E b7 with hk|hk|hk
  ·have h9:=zl.resolve_left (by rw [hk];simp)
   obtain⟨zw,rf⟩:=jQ.go i E b7 hk;have Ei:=LM (N:=N) hk h9 b7 (eR i o E am b7) (bA i E b7) iC gr lZ kE;refine D3 nP b4 (opsA:=opsA) rfl Ei (λq ax=>?_) (λeV w' M' β' cL=>?_)
   ·obtain⟨q',m5,rfl⟩:=List.mem_map.1 ax;exact h9.aL q' m5
   ·exact hP.LW b4 jQ eR bA iC dq n _ (dF E g) eV w' M' β' hn (by simpa using dz) (gr.set hi) (kE.ap b7 cB) (by rw [getD_set_ne false zw];exact LX) (VV rf ey) ⟨cL.bd,cL.size,cL.fresh,cL.cond⟩
  ·have h9:=zl.resolve_left (by rw [hk];simp)
   obtain⟨hp,hx,VW,mq⟩:=jQ.aW i E b7 hk
   have eh:step1 (h6 P) tt opsA.toList {g with rs:=E.rs,aL:=[]} [] o=some (.aW x E.m9 E.f.aL):=by
    have Z:=h9.st;rw [hk,hp,hx]at Z;refine Eq.trans ?_ Z;exact Ed (g1:={g with rs:=E.rs,aL:=[]}) (g2:={g with rs:=E.rs}) (λ_ _ _ _=>⟨rfl,rfl⟩) rfl rfl (λ_=>rfl) (λ_ _=>rfl)
   have EC:mT opsA.toList {g with rs:=E.rs,aL:=[]} o=some []:=by rw [←hp];exact h9.za
   have VX:lN (h6 P) tt N opsA.toList {g with rs:=E.rs,aL:=[]} o=some (.aW x {env:=mS g.env,H:=E.m9++g.H,aJ:=g.aJ} (E.f.aL++[])):=by
    unfold lN;rw [EC]
    dsimp only
    rw [eh];rfl
   refine Lf nP b4 (opsA:=opsA) rfl VX (λq ax=>?_) (λe dj w' oX=>?_)
   ·rw [List.append_nil]at ax;have:=h9.aL q ax
    rw [hp]at this;exact this
   ·obtain⟨v,Z,ad,vm,vn,al,aH⟩:=oX;have lf:=h9.fin hk
    have jO:∀q cs,look hs q=some cs→look (E.m9++g.H) q=some cs:=by
     intro q cs ax;rw [←VW,ti]at ax;rw [ti];cases ab:look E.m9 q with
     |some c=>rw [ab]at ax;exact ax
     |none=>
      rw [ab]at ax;obtain⟨a6,bT⟩:=Ey ax;rw [←bT];exact lf q (mq q a6)
    refine dq g.aJ e dj w' ⟨v,Z,ad,vm,vn,al,(aH.vN _).sub rfl (λl a1 ab=>?_) (λq cs ax=>⟨cs,jO q cs ax,rfl⟩)⟩
    cases l with
    |slot s=>simp [az.at,look]at ab
    |cell q i=>
     simp only [az.at]at ab ⊢;cases ax:look hs q with
     |none=>rw [ax]at ab;simp at ab
     |some cs=>
      rw [ax]at ab;rw [jO q cs ax];exact⟨a1,ab,rfl,λ_ h=>h⟩
  ·have:=VU gr hi (jQ.dead i E b7 hk)
   rw [LX]at this;cases this
def zx{ops:List Oper}{fo mk:Nat}{Fi:cG→Prop}:∀{l:List Oper} {i:Nat} {h':List (List eD)} {g:cG} {b':List dB} {es:cG} {aL:List Prop} {xs:List (V×List (Nat×List aM))},oY bL tt ops fo mk i l h' g=some (b',es,aL,xs)→(∀q,q∈aL→q)→Fi es→
 b'.length=l.length∧zi bL tt ops Fi (ju l b') g∧
 (∀(j:Nat) E,b'[j]? = some E→(E.fL=0∧i+j≠fo∧(E.f.hs.all (λy=>!Nat.beq y.1 mk))=true)∨(E.fL=1∧E.p=[]∧(E.rk,E.m9++ne E.pM mk)∈xs∧∀q,q<mk→q∈E.il)∨(E.fL=2∧waits ops fo 3 (i+j)=true))
 |[],i,[],g,b',es,aL,xs,h,_,da=>by
  simp only [oY,Option.some.injEq,Prod.mk.injEq]at h;obtain⟨rfl,rfl,rfl,rfl⟩:=h;exact⟨rfl,da,by simp⟩
 |[],_,_::_,_,_,_,_,_,h,_,_=>by simp [oY]at h
 |_::_,_,[],_,_,_,_,_,h,_,_=>by simp [oY]at h
 |o::l,i,rs::h',g,b',es,aL,xs,h,b5,da=>by
  have next:∀{E:dB} {ru:List dB} {tl:List (V×List (Nat×List aM))},(∀(j:Nat) E,ru[j]? = some E→(E.fL=0∧i+1+j≠fo∧(E.f.hs.all (λy=>!Nat.beq y.1 mk))=true)∨(E.fL=1∧E.p=[]∧(E.rk,E.m9++ne E.pM mk)∈tl∧∀q,q<mk→q∈E.il)∨(E.fL=2∧waits ops fo 3 (i+1+j)=true))→(∀z,z∈tl→z∈xs)→
   ((E.fL=0∧i≠fo∧(E.f.hs.all (λy=>!Nat.beq y.1 mk))=true)∨(E.fL=1∧E.p=[]∧(E.rk,E.m9++ne E.pM mk)∈xs∧∀q,q<mk→q∈E.il)∨(E.fL=2∧waits ops fo 3 i=true))→
   ∀(j:Nat) cx,(E::ru)[j]? = some cx→(cx.fL=0∧i+j≠fo∧(cx.f.hs.all (λy=>!Nat.beq y.1 mk))=true)∨(cx.fL=1∧cx.p=[]∧(cx.rk,cx.m9++ne cx.pM mk)∈xs∧∀q,q<mk→q∈cx.il)∨(cx.fL=2∧waits ops fo 3 (i+j)=true):=by
   intro E ru tl Z hx ad j cx hj;cases j with
   |zero=>simp at hj;subst hj;exact ad
   |succ j=>
    have:=Z j cx (by simpa using hj)
    rw [show i+1+j=i+(j+1)by omega]at this
    rcases this with al|⟨al,aH,a6,bT⟩|al
    ·exact .inl al
    ·exact .inr (.inl ⟨al,aH,hx _ a6,bT⟩)
    ·exact .inr (.inr al)
  simp only [oY]at h;rw [Bool.cond_eq_ite]at h;split at h
  ·rename_i zw;split at h
   case h_2=>cases h
   rename_i EC;split at h
   case h_2=>cases h
   rename_i x hs VH eh;split at h
   case h_2=>cases h
   rename_i ru g1 LY tl Z;simp only [Option.some.injEq,Prod.mk.injEq]at h;obtain⟨rfl,rfl,rfl,rfl⟩:=h;obtain⟨ad,al,aH⟩:=zx Z (λq ax=>b5 q (List.mem_append_left _ ax)) da
   refine⟨by simp [ad],⟨.inr ⟨EC,eh,(λq ax=>b5 q (List.mem_append_right _ ax)),(λq ax=>List.mem_append_left _ ax),λ_ q _=>rfl⟩,al⟩,next aH (λz dM=>List.mem_cons_of_mem _ dM) (.inr (.inl ⟨rfl,rfl,List.mem_cons_self ..,λq ax=>List.mem_append_right _ (List.mem_range.2 ax)⟩))⟩
  ·rename_i zw;rw [Bool.cond_eq_ite]at h;split at h
   ·rename_i hw;split at h
    case h_2=>cases h
    rename_i ru g1 LY tl Z;simp only [Option.some.injEq,Prod.mk.injEq]at h;obtain⟨rfl,rfl,rfl,rfl⟩:=h;obtain⟨ad,al,aH⟩:=zx Z b5 da;exact⟨by simp [ad],⟨.inl rfl,al⟩,next aH (λz dM=>dM) (.inr (.inr ⟨rfl,hw⟩))⟩
   ·split at h
    case h_2=>cases h
    rename_i E b7;rw [Bool.cond_eq_ite]at h;split at h
    case isFalse=>cases h
    rename_i mV;split at h
    case h_2=>cases h
    rename_i ru g1 LY tl Z;simp only [Option.some.injEq,Prod.mk.injEq]at h;obtain⟨rfl,rfl,rfl,rfl⟩:=h;obtain⟨ad,al,aH⟩:=zx Z (λq ax=>b5 q (List.mem_append_left _ ax)) da
    have Ej:∀q,q∈E.f.aL→under g E.p q:=λq ax=>b5 _ (List.mem_append_right _ (List.mem_map.2 ⟨q,ax,rfl⟩))
    have rf:=mV;unfold findD at b7;split at b7
    ·cases b7
    rename_i p hp;split at b7
    ·rename_i f a7;cases b7;exact⟨by simp [ad],⟨.inr ⟨hp,a7,Ej,λ_ h=>h,λh=>by cases h⟩,al⟩,next aH (λz dM=>dM) (.inl ⟨rfl,(by simpa using zw),rf⟩)⟩
    ·cases b7
def aS.VY{id:Nat}{Q:bY→az→Prop}(b4:eI P tt=true)(hm:P.follows .mixedOrders=true)(fo:Nat)(h':List (Nat×List eD)){x:V}{b9:List Prop}(ai:Ez (wc (h6 P) tt N opsA.toList fo (st.aJ+opsA.toList.length) (spread opsA.toList.length 0 h') st)=some (x,b9))(b5:i7 b9)
 (dq:∀n,Q (.aW x) {env:=[],H:=EA (wc (h6 P) tt N opsA.toList fo (st.aJ+opsA.toList.length) (spread opsA.toList.length 0 h') st),aJ:=n}):aS P N E (.region id opsA true) Q st:=by
 rintro K dT a w ⟨_,hd,dz,M,β,ci⟩
 obtain⟨tmps,ds⟩:=a;simp only at hd dz
 subst hd;refine wp_region_any hm ?_;cases jP:wc (h6 P) tt N opsA.toList fo (st.aJ+opsA.toList.length) (spread opsA.toList.length 0 h') st with
 |none=>rw [jP]at ai;cases ai
 |some res=>
 obtain⟨fm,wd,adO⟩:=res;rw [jP]at ai dq;simp only [Ez,Option.some.injEq,Prod.mk.injEq]at ai;obtain⟨rfl,rfl⟩:=ai;simp only [EA]at dq;unfold wc at jP;split at jP
 case h_2=>cases jP
 rename_i b' g pJ fa fb et;rw [Bool.cond_eq_ite]at jP;split at jP
 case isFalse=>cases jP
 rename_i hc;simp only [Option.some.injEq,Prod.mk.injEq]at jP;obtain⟨rfl,rfl,rfl⟩:=jP;simp only [Bool.and_eq_true,Option.isNone_iff_eq_none]at hc;obtain⟨⟨hc,zb⟩,LZ⟩:=hc;generalize adP:st.aJ+opsA.toList.length=mk at et zb LZ
 obtain⟨hlen,En,zy⟩:=zx (Fi:=λg=>(look g.H mk).isSome=true) et b5.mem zb
 simp only [zm,Bool.and_eq_true]at hc;obtain⟨⟨⟨c1,c2⟩,c3⟩,c4⟩:=hc
 have eR:∀(i:Nat) o E,opsA[i]? = some o→b'[i]? = some E→g' opsA.toList o E=true:=by
  intro i o E am b7;obtain⟨iZ,z2⟩:=rv hlen i;have iV:opsA.toList[i]? = some o:=by simpa using am
  rw [iV]at iZ;rw [b7]at z2;cases dM:(ju opsA.toList b')[i]? with
  |none=>rw [dM]at iZ;simp at iZ
  |some x=>
   rw [dM]at iZ z2;simp at iZ z2
   subst iZ;subst z2;exact List.all_eq_true.1 c1 x (List.mem_of_getElem? dM)
 have bA:∀(i:Nat) E,b'[i]? = some E→nU N E=true:=λi E b7=>List.all_eq_true.1 c2 E (List.mem_of_getElem? b7)
 have v8:lY opsA (Array.replicate opsA.size false):=λj o am hj=>by have cB:j<opsA.size:=(Array.getElem?_eq_some_iff.1 am).1;simp [Array.getD_eq_getD_getElem?,cB]at hj
 have v':=hP.text eR (λg1 g2 i8 Z=>by rw [←i8.box mk];exact Z) (ju opsA.toList b') 0 (Array.replicate opsA.size false) _ (λj=>by have:=(rv hlen j).1;simpa using this) (λj=>by have:=(rv hlen j).2;simpa using this)
  ⟨by simp,λj hj=>by simp [hj]⟩ v8 c4 En
 have qY:(ju opsA.toList b').length=opsA.size:=by rw [Ek hlen];simp
 rw [qY]at v'
 have jQ:LV opsA b' fo mk fa fb:=by
  constructor
  ·intro i E b7 hk;rcases zy i E b7 with⟨Z,_⟩|⟨Z,_⟩|⟨_,Z⟩
   ·omega
   ·omega
   ·simpa using Z
  ·intro i E b7 hk;rcases zy i E b7 with⟨Z,_⟩|⟨_,Z,ad,al⟩|⟨Z,_⟩
   ·omega
   ·simp only [List.mem_singleton,Prod.mk.injEq]at ad;exact⟨Z,ad.1,ad.2,al⟩
   ·omega
  ·intro i E b7 hk;rcases zy i E b7 with⟨_,Z,ad⟩|⟨Z,_⟩|⟨Z,_⟩
   ·exact⟨by simpa using Z,ad⟩
   ·omega
   ·omega
  ·intro i E b7;rcases zy i E b7 with⟨Z,_⟩|⟨Z,_⟩|⟨Z,_⟩
   ·exact .inl Z
   ·exact .inr (.inl Z)
   ·exact .inr (.inr Z)
 refine hP.LW (K:=K) (mk:=mk) b4 jQ eR bA c3 (λn e dj w' cL=>⟨_,_,cL,dq n⟩) _ _ _ tmps _ M β v' (by simp) v8 (λx hx=>by cases hx) ?_ LZ ⟨(ci.drew _).up _,dz,(λs id h _ b hb=>by have Z:=ci.lt _ _ hb;have ad:=(zr _ _ _ (oI h)).1;simp only at ad;omega),λ_ _ _ h=>by simp [zp,look]at h⟩
 rw [Array.getD_eq_getD_getElem?];by_cases L0:fo<opsA.size
 ·simp [L0]
 ·simp [L0]
end
section
variable {P:Program} {tt:c7} {fn:Func} {E:Nat} {st:az}
def ED{y:Code}{R:Out→List (List aM)→Prop}(h:nc P tt fn E y R st):Eu P tt fn E y R .normal st:=h
def VZ{y:Code}{out:Out}{we:List (List aM)}(h:(Ab.leave tt E fn.results.toList st).map (λx=>(x.1,lV x.2))=some (out,we)):Eu P tt fn E y (λo bq=>o=out∧bq=we) .ret st:=by
 rw [Option.map_eq_some_iff]at h;obtain⟨⟨o,bq⟩,Z,ad⟩:=h;cases ad;exact⟨o,bq,Z,rfl,rfl⟩
def L1(tt:c7)(E:Nat)(rs:List ResultVar)(ds:List D)(ρ:List Nat)(ch:List (List aM))(st:az):Option (List (List aM)×List D×Out×List (List aM)):=
 bif !k3 ρ then none else match boxes st.H ρ,jj (idx ρ) ds,ig (λj=>ρ[j]?) ch with
  |some bs,some h1,some gS=>bif Nat.beq ch.length ρ.length then match ig (idx ρ) bs,Ab.leave tt E rs {env:=st.env,H:=jk ρ gS++st.H,aJ:=st.aJ} with
   |some H1,some (o,bq)=>some (H1,h1,o,lV bq)
   |_,_=>none
   else none
  |_,_,_=>none
def nV.of{rs:List ResultVar}{fd:FuncId}{ds h1:List D}{x:Option V}(ρ:List Nat){H1 ch we:List (List aM)}{o:Out}(d:pR P fd h1 H1 x λbq=>bq=ch)(hc:L1 tt E rs ds ρ ch st=some (H1,h1,o,we)):
 nV P tt E rs fd ds (λo' bq=>o'=o∧bq=we) x st:=by
 unfold L1 at hc;rw [Bool.cond_eq_ite]at hc;split at hc
 ·cases hc
 rename_i hn;split at hc
 case h_2=>cases hc
 rename_i bs a gS iY ha q5;rw [Bool.cond_eq_ite]at hc;split at hc
 case isFalse=>cases hc
 rename_i ab;split at hc
 case h_2=>cases hc
 rename_i V0 o' bq ki lb;simp only [Option.some.injEq,Prod.mk.injEq]at hc;obtain⟨rfl,rfl,rfl,rfl⟩:=hc;refine⟨ρ,bs,V0,a,_,(by simpa using hn),iY,ki,ha,d,λLR al=>?_⟩
 subst al;exact⟨gS,o',bq,(by simpa using ab),q5,lb,rfl,rfl⟩
def V1{rs:List ResultVar}{fd:FuncId}{ds:List D}{R:Out→List (List aM)→Prop}(h:nV P tt E rs fd ds R none st):Ev P tt E rs fd ds R .ret st:=h
def L2{rs:List ResultVar}{fd:FuncId}{ds:List D}{R:Out→List (List aM)→Prop}{x:V}(h:nV P tt E rs fd ds R (some x) st):Ev P tt E rs fd ds R (.aW x) st:=h
end
section
variable {P:Program}
def V2{w:World}{b off:Nat}{vs:List Value}{T:TypeId}{mh:Nat×Nat}(h:w.heap[b]? = some (.cells ⟨vs⟩ T mh))(u:Value):
 (w.setCell ⟨b,off,none⟩ u).heap[b]? = some (.cells ⟨vs.set off u⟩ T mh):=by
 have cB:=lt_of_heap h;have cL:w.heap[b] = .cells ⟨vs⟩ T mh:=by simpa [Array.getElem?_eq_getElem cB]using h
 show(w.heap.modify b _)[b]? = _
 rw [Array.getElem?_eq_getElem (by simpa using cB),Array.getElem_modify_self,cL]
 simp
def V3{w:World}{b off:Nat}{u:Value}(k:Nat)(h:k≠b):(w.setCell ⟨b,off,none⟩ u).heap[k]? = w.heap[k]? := Go.RowKit.Below.heap_setCell w ⟨b,off,none⟩ u k h
def L3 {f : FuncId} {fd : Func} {off : Nat} {u : TypeId} (kH : P.funcs[f]? = some fd) (EE : fd.body.isSome = true) (hn : decide (fd.name = "runtime.NumGoroutine") = false)
 (V4:∀(b:Nat) (w:World),w.cell? ⟨b,off,none⟩=some (.pointer (some ⟨b,off,none⟩))→Calls P f #[.pointer (some ⟨b,off,none⟩)] w λe w'=>e = .returned (.tuple #[])∧w'=w)
 (V5:∀(b:Nat) (w:World) (T:TypeId) (k:Nat),w.cell? ⟨b,off,none⟩=some (.pointer none)→w.shape? b=some (T,k)→off<k→liesAt P P.depth T (k / P.cellsOf T) off u 1=true→w.frozen? ⟨b,off,none⟩=false→
  Calls P f #[.pointer (some ⟨b,off,none⟩)] w λe w'=>e = .returned (.tuple #[])∧w'=w.setCell ⟨b,off,none⟩ (.pointer (some ⟨b,off,none⟩)))
 {cs:List aM} (dy:cs[off]? = some ⟨.bZ 0 off u,none⟩):fK P f [.ptr 0 off] [] [cs] (.ret (.cc []) none) [cs]:=by
 refine⟨⟨fd,kH,EE,by simpa using hn⟩,λK w vs M β hlen hs fZ=>?_⟩
 obtain⟨v,rfl⟩:∃v,vs=[v]:=by
  match vs,hlen with
  |[v],_=>exact⟨v,rfl⟩
 have oP:=hs.eE (.slot 0) ⟨.ptr 0 off,none⟩ (by simp [az.at,gj,oR,cl,look])
 have q9:b0 (⟨[v]⟩:Array Value) w β (.slot 0)=v:=by simp [b0]
 rw [q9]at oP;obtain⟨b,hb,rfl⟩:∃b,β 0=some b∧v = .pointer (some ⟨b,off,none⟩):=by cases oP with|ptr r o b h=>exact⟨b,h,rfl⟩
 have hl0:look (cl 0 [cs]) 0=some cs:=by simp [cl,look]
 obtain⟨bl,ws,T,bw,bf,L4,V6,V7,hz,hlies⟩:=hs.box 0 cs hl0;rw [hb]at bw;cases bw;have pG:off<cs.length:=(List.getElem?_eq_some_iff.1 dy).1;have wg:ws[off]? = some ws[off]:=List.getElem?_eq_getElem (by omega)
 have gz:w.cell? ⟨b,off,none⟩=some ws[off]:=by rw [cell_of_heap bf,wg]
 have fA:=hs.eE (.cell 0 off) ⟨.bZ 0 off u,none⟩ (by simp [az.at,hl0,dy])
 have bO:b0 (⟨[.pointer (some ⟨b,off,none⟩)]⟩:Array Value) w β (.cell 0 off)=ws[off]:=by simp [b0,hb,gz]
 rw [bO]at fA
 have fin:∀w',bo P K M β {env:=[],H:=cl 0 [cs],aJ:=[cs].length} #[.tuple #[]] w'→bo P K M β {env:=gG (.ret (.cc []) none),H:=cl 0 [cs],aJ:=[cs].length} #[.tuple #[]] w':=λw' h=>by
  have:=h.put (t:=0) (v:=.tuple #[]) (e:=⟨.cc [],none⟩) (by simp) (.cc [] [] rfl λi v c ar=>by simp at ar) (λT aG=>by cases aG)
  exact this
 generalize hx:ws[off]=x at gz fA wg
 cases fA with
 |jL r o li=>
  have hsh:w.shape? b=some (T,ws.length):=by simp [World.shape?,bf]
  have hfz:w.frozen? ⟨b,off,none⟩=false:=by simp [World.frozen?,bf]
  have kD:=hlies _ (List.mem_of_getElem? dy) 0 off u rfl;refine(V5 b w T ws.length gz hsh (by omega) kD hfz).mono ?_
  rintro e w' ⟨rfl,rfl⟩
  refine⟨_,_,.tuple #[],M,β,⟨rfl,rfl⟩,rfl,fin _ ?_⟩
  have Z:=(hs.vN #[.tuple #[]]).CV (r:=0) (b:=b) (cs:=cs) (w':=w.setCell ⟨b,off,none⟩ (.pointer (some ⟨b,off,none⟩))) hl0 hb bf (vs':=ws.set off (.pointer (some ⟨b,off,none⟩))) (cs':=cs) (by simpa using L4)
   (λy bX=>by
    rcases List.mem_or_eq_of_mem_set bX with h|rfl
    ·exact hz y h
    ·rfl) (λh=>by rw [List.length_set];exact h) rfl (V2 bf _) (λk hk=>V3 k hk) cs.length (λi y e bX he=>by
    by_cases hi:off=i
    ·subst hi;rw [List.getElem?_set_self (by omega)]at bX
     cases bX;rw [dy]at he;cases he;exact⟨.bZ 0 off b u hb,λT aG=>by cases aG⟩
    ·rw [List.getElem?_set_ne hi]at bX;have C_:=(List.getElem?_eq_some_iff.1 he).1;refine⟨?_,λT aG=>.inl ⟨by omega,⟨e,he,aG⟩,bX⟩⟩
     have:=hs.eE (.cell 0 i) e (by simp [az.at,hl0,he])
     simpa [b0,hb,cell_of_heap bf,bX]using this)
  refine Z.sub rfl (λl e ab=>⟨e,?_,rfl,λ_ h=>h⟩) (λr c ai=>⟨c,?_,rfl⟩)
  ·cases l with
   |slot s=>exact ab
   |cell r i=>
    simp only [az.at,de]at ab ⊢;by_cases ai:r=0
    ·subst ai;rw [hl0]at ab;simpa using ab
    ·simp [cl,de,Ne.symm ai,look]at ab
  ·simp only [de]at ai ⊢;by_cases kc:r=0
   ·subst kc;rw [hl0]at ai;simpa using ai
   ·simp [cl,de,Ne.symm kc,look]at ai
 |bZ r o iD li fl=>
  rw [hb]at fl;cases fl;refine(V4 b w gz).mono ?_
  rintro e w' ⟨rfl,rfl⟩
  exact⟨_,_,.tuple #[],M,β,⟨rfl,rfl⟩,rfl,fin _ (hs.vN _)⟩
end
section
variable {P:Program}
def L5 {f : FuncId} {fd : Func} {T5 : TypeId} (kH : P.funcs[f]? = some fd) (EE : fd.body.isSome = true) (hn : decide (fd.name = "runtime.NumGoroutine") = false) (V8 : P.cellsOf T5 = 1)
 (mV:∀(b:Nat) (w:World),w.cell? ⟨b,1,none⟩=some (.slice none 0 0)→Calls P f #[.pointer (some ⟨b,0,none⟩)] w λe w'=>e = .returned (.string ⟨#[]⟩)∧w'=w.drew)
 (qU:∀(b g cap:Nat) (w:World),cap≠0→w.cell? ⟨b,1,none⟩=some (.slice (some ⟨g,0,none⟩) 0 cap)→Calls P f #[.pointer (some ⟨b,0,none⟩)] w λe w'=>e = .returned (.string ⟨#[]⟩)∧w'=w.drew)
 (V9:∀(b g:Nat) (w:World) (vs:List Value),w.cell? ⟨b,1,none⟩=some (.slice (some ⟨g,0,none⟩) 0 0)→b<w.heap.size→w.heap[g]? = some (.cells ⟨vs⟩ T5 (0,0))→
  Calls P f #[.pointer (some ⟨b,0,none⟩)] w λe w'=>e = .returned (.string ⟨#[]⟩)∧w'=(w.drew.alloc (.view ⟨g,0,none⟩ T5)))
 (q4:∀(b g cap:Nat) (w:World) (vs:List Value) (l:ae7),l≠[]→w.cell? ⟨b,1,none⟩=some (.slice (some ⟨g,0,none⟩) l.length cap)→w.heap[g]? = some (.cells ⟨vs⟩ T5 (0,0))→
  l.length≤cap→cap≤vs.length→l.length≤9223372036854775807→(∀(j:Nat) (x:UInt8),l[j]? = some x→vs[j]? = some (Value.int .u8 x.toNat))→
  Calls P f #[.pointer (some ⟨b,0,none⟩)] w λe w'=>e = .returned (.string ⟨l.toArray⟩)∧w'=w.drew.freeze ⟨g,0,none⟩ l.length)
 {d0:aM} {cs:List aM} {l:ae7} {n:Nat} {get:Nat→V} (gW:n=l.length∧∀i,i<l.length→get i = .int .u8 ((l.getD i 0).toNat:Int)) (h63:l.length≤9223372036854775807):
 fK P f [.ptr 0 0] [] [d0::⟨.v (.bm 1 n get),some T5⟩::cs] (.ret (.v (.str l)) none) [d0::⟨.v (.bm 1 n get),none⟩::cs]:=by
 obtain⟨rfl,gW⟩:=gW;refine⟨⟨fd,kH,EE,by simpa using hn⟩,λK w vs M β hlen hs fZ=>?_⟩
 obtain⟨v,rfl⟩:∃v,vs=[v]:=by
  match vs,hlen with
  |[v],_=>exact⟨v,rfl⟩
 have oP:=hs.eE (.slot 0) ⟨.ptr 0 0,none⟩ (by simp [az.at,gj,oR,cl,look])
 have q9:b0 (⟨[v]⟩:Array Value) w β (.slot 0)=v:=by simp [b0]
 rw [q9]at oP;obtain⟨b,hb,rfl⟩:∃b,β 0=some b∧v = .pointer (some ⟨b,0,none⟩):=by cases oP with|ptr r o b h=>exact⟨b,h,rfl⟩
 generalize kg:d0::(⟨.v (.bm 1 l.length get),some T5⟩:aM)::cs=lj at hs
 have iX:lj[1]? = some ⟨.v (.bm 1 l.length get),some T5⟩:=by rw [←kg];rfl
 have hl0:look (cl 0 [lj]) 0=some lj:=by simp [cl,look]
 obtain⟨bl,ws,T,bw,bf,L4,V6,V7,hz⟩:=hs.box 0 lj hl0;rw [hb]at bw;cases bw;have pG:1<lj.length:=(List.getElem?_eq_some_iff.1 iX).1;have wg:ws[1]? = some ws[1]:=List.getElem?_eq_getElem (by omega)
 have gz:w.cell? ⟨b,1,none⟩=some ws[1]:=by rw [cell_of_heap bf,wg]
 have L6:({env:=gj [.ptr 0 0] [],H:=cl 0 [lj],aJ:=[lj].length}:az).at (.cell 0 1)=some ⟨.v (.bm 1 l.length get),some T5⟩:=by simp [az.at,hl0,iX]
 have fA:=hs.eE _ _ L6;have fj:=hs.own _ _ T5 L6 rfl;have bO:b0 (⟨[.pointer (some ⟨b,0,none⟩)]⟩:Array Value) w β (.cell 0 1)=ws[1]:=by simp [b0,hb,gz]
 rw [bO]at fA fj
 -- kh state behind it
 have q3:∀(j:Nat) a1,(d0::(⟨.v (.bm 1 l.length get),none⟩:aM)::cs)[j]? = some a1→∃bW,lj[j]? = some bW∧bW.d=a1.d∧(∀T,a1.own=some T→bW.own=some T∧j≠1):=by
  intro j a1 hj;rw [←kg]
  match j with
  | 0=>simp only [List.getElem?_cons_zero,Option.some.injEq]at hj ⊢;subst hj;exact⟨_,rfl,rfl,λT aG=>⟨aG,by omega⟩⟩
  | 1=>simp only [List.getElem?_cons_succ,List.getElem?_cons_zero,Option.some.injEq]at hj ⊢;subst hj;exact⟨_,rfl,rfl,λT aG=>by cases aG⟩
  |j+2=>simp only [List.getElem?_cons_succ]at hj ⊢;exact⟨a1,hj,rfl,λT aG=>⟨aG,by omega⟩⟩
 obtain⟨nP,mp⟩:=hs.JV (r:=0) (i:=1) (cs':=d0::⟨.v (.bm 1 l.length get),none⟩::cs) hl0 iX rfl (by rw [←kg];rfl) q3 (.slot 0)
 rw [bO]at mp
 have fin:∀w' M',bo P K M' β {env:=gj [.ptr 0 0] [],H:=(0,d0::⟨.v (.bm 1 l.length get),none⟩::cs)::cl 0 [lj],aJ:=[lj].length} ⟨[.pointer (some ⟨b,0,none⟩)]⟩ w'→
  bo P K M' β {env:=gG (.ret (.v (.str l)) none),H:=cl 0 [d0::⟨.v (.bm 1 l.length get),none⟩::cs],aJ:=[lj].length} #[.string ⟨⟨l⟩⟩] w':=λw' M' h=>by
  have Z:=(h.vN #[.string ⟨⟨l⟩⟩]).put (t:=0) (v:=.string ⟨⟨l⟩⟩) (e:=⟨.v (.str l),none⟩) (by simp) (.v _ _ (.str l)) (λT aG=>by cases aG)
  refine Z.sub rfl (λq e ax=>⟨e,?_,rfl,λ_ h=>h⟩) (λr c ai=>⟨c,?_,rfl⟩)
  ·cases q with
   |slot s=>exact ax
   |cell r i=>
    simp only [az.at,de]at ax ⊢;by_cases ai:r=0
    ·subst ai;simpa [cl,look]using ax
    ·simp [cl,de,Ne.symm ai,look]at ax
  ·simp only [de]at ai ⊢;by_cases kc:r=0
   ·subst kc;simpa [cl,look]using ai
   ·simp [cl,de,Ne.symm kc,look]at ai
 have V':b<w.heap.size:=lt_of_heap bf;have zz:bo P K M β {env:=gj [.ptr 0 0] [],H:=(0,d0::⟨.v (.bm 1 l.length get),none⟩::cs)::cl 0 [lj],aJ:=[lj].length} ⟨[.pointer (some ⟨b,0,none⟩)]⟩ w.drew:=nP.drew _;have adQ:[lj].length=1:=rfl;generalize hx:ws[1]=x at gz fA fj mp wg
 rcases fj with h0|⟨g,n,cap,us,T',Z,ad,al,aH,a6,bT,cI⟩
 ·subst h0;obtain⟨_,ab⟩|⟨_,_,_,_,h,_⟩:=pu fA
  ·obtain rfl:=List.eq_nil_of_length_eq_zero ab;refine(mV b w gz).mono ?_
   rintro e w' ⟨rfl,rfl⟩
   exact⟨_,_,_,M,β,⟨rfl,rfl⟩,rfl,fin _ M zz⟩
  ·cases h
 ·subst cI
  have V_:∃(b off cap:Nat) (val:Nat→Nat→Value),x = .slice (some ⟨b,off,none⟩) l.length cap∧l.length≤cap∧(∀i,i<l.length→(get i).cells.length=1)∧(∀i j,i<l.length→j<1→M b (off+i*1+j)=some (val i j))∧
   (∀i j,i<l.length→j<1→(val i j).oneCell'=true)∧(∀(i j:Nat) c,i<l.length→(get i).cells[j]? = some c→cw M (val i j) c):=by
   rcases pu fA with⟨h|⟨a,h⟩,dM⟩|hx
   ·rw [Z]at h;cases h
   ·rw [Z]at h;simp only [Value.slice.injEq,Option.some.injEq]at h;obtain⟨rfl,rfl,rfl⟩:=h;exact⟨g,0,0,λ_ _=>undef,Z.trans (by rw [dM]),by omega,λi hi=>by omega,λi j hi=>by omega,λi j hi=>by omega,λi j c hi=>by omega⟩
   ·exact hx
  obtain⟨g2,off,adR,val,ar,hc,hk,cr,adS,hy⟩:=V_
  focus
  ·rw [Z]at ar;simp only [Value.slice.injEq,Option.some.injEq,Addr.mk.injEq,and_true]at ar;obtain⟨⟨rfl,rfl⟩,rfl,rfl⟩:=ar;rw [V8,Nat.mul_one]at aH;subst Z;by_cases ab:l=[]
   ·subst ab;by_cases hcap:cap=0
    ·subst hcap;refine(V9 b g w us gz V' al).mono ?_
     rintro e w' ⟨rfl,rfl⟩
     refine⟨_,_,_,M,β,⟨rfl,rfl⟩,rfl,fin _ M (zz.grow (λk hk=>?_))⟩
     exact Go.Lib.alloc_old _ _ k hk
    ·refine(qU b g cap w hcap gz).mono ?_
     rintro e w' ⟨rfl,rfl⟩
     exact⟨_,_,_,M,β,⟨rfl,rfl⟩,rfl,fin _ M zz⟩
   ·have vp:∀(j:Nat) (x:UInt8),l[j]? = some x→us[j]? = some (Value.int .u8 x.toNat):=by
     intro j x hx;have hj:j<l.length:=(List.getElem?_eq_some_iff.1 hx).1;have e1:=hs.mem _ _ _ (cr j 0 hj (by omega))
     have e2:=gW j hj;have e3:=hy j 0 (.int .u8 ((l.getD j 0).toNat:Int)) hj (by rw [e2];rfl)
     rw [cell_of_heap al,show 0+j*1+0=j by omega]at e1
     rw [e1];generalize val j 0=y at e3 ⊢
     cases e3;simp [List.getD,hx]
    refine(q4 b g cap w us l ab gz al hc aH h63 vp).mono ?_
    rintro e w' ⟨rfl,rfl⟩
    refine⟨_,_,.string ⟨⟨l⟩⟩,M,β,⟨rfl,rfl⟩,rfl,fin _ M ?_⟩
    have hfz:(w.drew.freeze ⟨g,0,none⟩ l.length).os=w.drew.os∧(w.drew.freeze ⟨g,0,none⟩ l.length).output=w.drew.output∧(∀k,k≠g→(w.drew.freeze ⟨g,0,none⟩ l.length).heap[k]? = w.drew.heap[k]?)∧∃mh,(w.drew.freeze ⟨g,0,none⟩ l.length).heap[g]? = some (.cells ⟨us⟩ T' mh):=by
     have hg':w.drew.heap[g]? = some (.cells ⟨us⟩ T' (0,0)):=al;have cB:=lt_of_heap hg';have cL:w.drew.heap[g] = .cells ⟨us⟩ T' (0,0):=by simpa [Array.getElem?_eq_getElem cB]using hg'
     unfold World.freeze;split
     ·exact⟨rfl,rfl,λ_ _=>rfl,_,hg'⟩
     ·refine⟨rfl,rfl,λk hk=>?_,?_⟩
      ·simp only [Array.getElem?_modify];rw [if_neg (by simpa using(Ne.symm hk))]
      ·simp only [Array.getElem?_modify];rw [if_pos trivial,hg'];exact⟨_,rfl⟩
    obtain⟨f1,f2,f3,mh,f4⟩:=hfz;refine zz.free g bT (λr c ai kj=>mp.unbox g r c rfl ai kj) (λq e f0 ax pA Wa=>?_) (λk hk _=>f3 k hk) (Mem.le_refl _) (λ_ _ _=>rfl) (λo v ar=>?_) (by rw [f1,f2])
    ·refine mp.apart q e f0 g ax pA ?_ rfl Wa
     rintro rfl
     simp only [az.at,gj,oR,cl,look]at ax;simp at ax;subst ax;cases pA
    ·have:=hs.mem _ _ _ ar
     rw [cell_of_heap al]at this;rw [cell_of_heap f4,this]
end
def pT(w:World):Mem:=λb o=>w.cell? ⟨b,o,none⟩
def eY(w:World)(vs:List Value)(cs:List V):Prop:=
 vs.length=cs.length∧(∀v,v∈vs→v.oneCell'=true)∧∀(i:Nat) v c,vs[i]? = some v→cs[i]? = some c→cw (pT w) v c
def eY.nil{w:World}:eY w [] []:=⟨rfl,(λv h=>by cases h),λi v c h=>by simp at h⟩
def eY.one{w:World}{v:Value}{c:V}(Z:v.oneCell'=true)(h:cw (pT w) v c):eY w [v] [c]:=
 ⟨rfl,(λu hu=>by obtain rfl:=List.mem_singleton.1 hu;exact Z),λi u d hu hd=>by
  match i with
  | 0=>cases hu;cases hd;exact h
  |i+1=>simp at hu⟩
def eY.app{w:World}{vs us:List Value}{cs ds:List V}(h:eY w vs cs)(cL:eY w us ds):eY w (vs++us) (cs++ds):=by
 refine⟨by simp [h.1,cL.1],λv ar=>?_,λi v c ar hc=>?_⟩
 ·rcases List.mem_append.1 ar with ar|ar
  ·exact h.2.1 v ar
  ·exact cL.2.1 v ar
 ·by_cases hi:i<vs.length
  ·rw [List.getElem?_append_left hi]at ar;rw [List.getElem?_append_left (by rw [←h.1];exact hi)]at hc
   exact h.2.2 i v c ar hc
  ·rw [List.getElem?_append_right (by omega)]at ar
   rw [List.getElem?_append_right (by rw [←h.1];omega),←h.1]at hc
   exact cL.2.2 _ v c ar hc
def eY.zA{w:World}{vs:List Value}{cs ds:List V}(h:eY w vs cs)(ar:iG cs ds):eY w vs ds:=by
 refine⟨h.1.trans ar.len,h.2.1,λi v c hi hc=>?_⟩
 obtain⟨x,hx,pz⟩:=ar.at i hc;exact pz _ _ (h.2.2 i v x hi hx)
def eY.agg{w:World}{vs:List Value}{cs:List V}(h:eY w vs cs):cw (pT w) (.agg ⟨vs⟩) (.agg cs):=.agg vs cs h.1 h.2.1 h.2.2
def L7{α:Type}[Inhabited α]:∀(n:Nat) (Q:Nat→α→Prop),(∀i,i<n→∃a,Q i a)→∃l:List α,l.length=n∧∀i,i<n→Q i (l.getD i default)
 | 0,Q,h=>⟨[],rfl,λi hi=>by omega⟩
 |n+1,Q,h=>by
  obtain⟨l,Z,ad⟩:=L7 n Q λi hi=>h i (by omega)
  obtain⟨a,ha⟩:=h n (by omega)
  refine⟨l++[a],by simp [Z],λi hi=>?_⟩
  by_cases hin:i<n
  ·have:=ad i hin
   simpa [List.getD,List.getElem?_append_left (show i<l.length by omega)]using this
  ·obtain rfl:i=n:=by omega
   simpa [List.getD,←Z]using ha
section
variable {H:Type} {enc:TypeId×Value→H} {P:Program} {w:World}
def g_{fuel:Nat}{t:TypeId}{k:IntKind}{cs:List Value}{x:DataW H×List MemPlace}(bH:P.underlying t=some (.int k))(h:DataW.trod enc P w 0 (λ_=>true) true fuel t cs=some x):
 ∃n:Int,(k.min≤n∧n≤k.max)∧eY w cs [.int k n]:=by
 obtain⟨n,rfl,_,hw⟩:=DataW.trod_int bH h;refine⟨n,by simpa [Lit.wf]using hw,.one rfl (.int _ _)⟩
def L8{fuel:Nat}{t:TypeId}{cs:List Value}{x:DataW H×List MemPlace}(bH:P.underlying t=some .bool)(h:DataW.trod enc P w 0 (λ_=>true) true fuel t cs=some x):
 ∃b:Bool,eY w cs [.bool b]:=by
 obtain⟨b,rfl,_⟩:=DataW.trod_bool bH h;exact⟨b,.one rfl (.bool _)⟩
def mw{fuel:Nat}{t:TypeId}{cs:List Value}{x:DataW H×List MemPlace}(bH:P.underlying t=some .string)(h:DataW.trod enc P w 0 (λ_=>true) true fuel t cs=some x):
 ∃s:ae7,s.length≤9223372036854775807∧eY w cs [.str s]:=by
 obtain⟨s,rfl,_,hw⟩:=DataW.trod_string bH h;exact⟨s.data.toList,by simpa [maxLen]using hw,.one rfl (.str s.data.toList)⟩
def jT{α:Type}[Inhabited α]{fuel:Nat}{t e:TypeId}{k:Nat}{cs:List Value}{x:DataW H×List MemPlace}{encA:α→V}{ok:α→Prop}(bH:P.underlying t=some (.slice e))(hk:P.cellsOf e=k)(hD:0<k)
 (h:DataW.trod enc P w 0 (λ_=>true) true fuel t cs=some x)
 (ai:∀n cs' fa,n<fuel→DataW.trod enc P w 0 (λ_=>true) true n e cs'=some fa→∃a:α,ok a∧eY w cs' (encA a).cells):
 ∃l:List α,l.length≤9223372036854775807∧(∀i,i<l.length→ok (l.getD i default))∧eY w cs [af k encA l]:=by
 rcases DataW.trod_slice bH h with⟨rfl,_⟩|⟨a,len,cap,elems,rest,n,rfl,rfl,_,_,wh,Wb,js,he,Wc,_⟩
 ·exact⟨[],by simp,(λi hi=>by simp at hi),.one rfl (.j_ _ _)⟩
 ·have m4:∀i,i<len→∃b:α,ok b∧∃cs',w.cells? 0 (a.add (i*k)) k=some cs'∧eY w cs' (encA b).cells:=by
   intro i hi;have Z:=he i hi;rw [List.getElem?_eq_getElem (by omega),Option.bind_eq_some_iff,hk]at Z
   obtain⟨cs',ad,al⟩:=Z;obtain⟨b,aH,a6⟩:=ai n cs' _ (by omega) al
   exact⟨b,aH,cs',ad,a6⟩
  obtain⟨l,ab,dq⟩:=L7 len _ m4;subst ab;refine⟨l,by unfold maxLen at Wb;omega,λi hi=>(dq i hi).1,?_⟩
  by_cases hc0:cap=0
  ·obtain rfl:l=[]:=List.eq_nil_of_length_eq_zero (by omega)
   subst hc0;exact .one rfl (.mO _ _ _)
  ·have L9:a.spot=none:=by
    have h0:∃cs',w.cells? 0 (a.add (0*k)) k=some cs':=by
     by_cases hl0:l.length=0
     ·obtain⟨Z,ad⟩:=Wc rfl;have al:=ad 0 (by omega)
      rw [List.getElem?_eq_getElem (by omega),Option.bind_eq_some_iff,hk,hl0]at al
      obtain⟨cs',aH,_⟩:=al;exact⟨cs',aH⟩
     ·obtain⟨_,cs',aH,_⟩:=dq 0 (by omega)
      exact⟨cs',aH⟩
    obtain⟨cs',aH⟩:=h0;obtain⟨_,a6,bT⟩:=World.cells?_some aH;have cI:=bT 0 hD;rw [List.getElem?_eq_getElem (by omega),Nat.zero_mul]at cI
    have:(a.add 0).add 0=a:=by simp [Addr.add]
    rw [this]at cI;exact World.cell?_spot cI
   obtain⟨b,off,sp⟩:=a;simp only at L9
   subst L9
   have bO:∀i j,i<l.length→j<k→∃cs':List Value,cs'.length=k∧eY w cs' (encA (l.getD i default)).cells∧w.cell? ⟨b,off+i*k+j,none⟩=cs'[j]? := by
    intro i j hi hj;obtain⟨_,cs',Z,ad⟩:=dq i hi;obtain⟨_,a6,bT⟩:=World.cells?_some Z;refine⟨cs',a6,ad,?_⟩
    rw [←bT j hj,addr_add,addr_add]
   have L':∀i,i<l.length→(encA (l.getD i default)).cells.length=k:=by
    intro i hi;obtain⟨cs',Z,ad,_⟩:=bO i 0 hi hD;rw [←ad.1,Z]
   refine .one rfl (.bm b off k l.length cap _ (λi j=>(w.cell? ⟨b,off+i*k+j,none⟩).getD undef) wh L' (λi j hi hj=>?_) (λi j hi hj=>?_) (λi j c hi hc=>?_))
   ·obtain⟨cs',Z,ad,al⟩:=bO i j hi hj;unfold pT;rw [al,List.getElem?_eq_getElem (by omega)];rfl
   ·obtain⟨cs',Z,ad,al⟩:=bO i j hi hj;rw [al,List.getElem?_eq_getElem (by omega)]
    exact ad.2.1 _ (List.getElem_mem _)
   ·have hj:j<k:=by rw [←L' i hi];exact(List.getElem?_eq_some_iff.1 hc).1
    obtain⟨cs',Z,ad,al⟩:=bO i j hi hj;rw [al,List.getElem?_eq_getElem (by omega)]
    exact ad.2.2 j _ c (List.getElem?_eq_getElem (by omega)) hc
end
section
variable {P:Program} {K:Ctx} {N E:Nat} {M:Mem} {β:Nat→Option Nat} {st bD:az} {tmps:Array Value} {w:World}
mutual
def nX(r:Nat)(x:V):D→D
 |.v y=>.v y
 |.ptr q off=>bif Nat.beq q r&&Nat.beq off 0 then .eg x else .ptr q off
 |.bZ q off u=>.bZ q off u
 |.eg y=>.eg y
 |.full k n g=>.full k n g
 |.fn f cs=>.fn f (nY r x cs)
 |.agg cs=>.agg (nY r x cs)
 |.cc cs=>.cc (nY r x cs)
def nY(r:Nat)(x:V):List D→List D
 |[]=>[]
 |d::l=>nX r x d::nY r x l
end
def zB(r:Nat)(x:V):∀(l:List D) (i:Nat),(nY r x l)[i]? = (l[i]?).map (nX r x)
 |[],i=>by simp [nY]
 |d::l,0=>by simp [nY]
 |d::l,i+1=>by simp only [nY,List.getElem?_cons_succ];exact zB r x l i
def zC(r:Nat)(x:V):∀l:List D,(nY r x l).length=l.length
 |[]=>rfl
 |d::l=>by simp only [nY,List.length_cons,zC r x l]
def b3.mh{M':Mem}(cr:M.le M'){r b:Nat}{x:V}{u:Value}(hb:β r=some b)(hx:x.isAgg=false)(hu:M' b 0=some u)(Z:u.oneCell'=true)(ai:cw M' u x){v:Value}{d:D}(h:b3 M β v d):b3 M' β v (nX r x d):=by
 induction h with
 |v u x h=>exact .v u x (h.mono cr)
 |ptr q off bl h=>
  simp only [nX];cases hc:Nat.beq q r&&Nat.beq off 0 with
  |false=>exact .ptr q off bl h
  |true=>
   simp only [Bool.and_eq_true,Nat.beq_eq]at hc;obtain⟨rfl,rfl⟩:=hc;rw [hb]at h;cases h;have td:=sZ hx;refine .eg b 0 x (λ_=>u) (λj hj=>?_) (λj hj=>Z) (λj c hc=>?_)
   ·rw [td]at hj;simp at hj
    subst hj;exact hu
   ·rw [td]at hc;cases j with
    |zero=>simp at hc;subst hc;exact ai
    |succ j=>simp at hc
 |jL q off t=>exact .jL q off t
 |bZ q off bl t h=>exact .bZ q off bl t h
 |eg b off x val hm Z h=>exact .eg b off x val (λj hj=>cr _ _ _ (hm j hj)) Z (λj c hc=>(h j c hc).mono cr)
 |full base k n get h=>exact .full base k n get (h.mono cr)
 |fn f vs cs hn _ a'=>
  simp only [nX];refine .fn f vs _ (by rw [zC];exact hn) λi v c ar hc=>?_
  rw [zB]at hc;simp only [Option.map_eq_some_iff]at hc;obtain⟨c0,h0,rfl⟩:=hc;exact a' i v c0 ar h0
 |agg vs cs hn Z _ a'=>
  simp only [nX];refine .agg vs _ (by rw [zC];exact hn) Z λi v c ar hc=>?_
  rw [zB]at hc;simp only [Option.map_eq_some_iff]at hc;obtain⟨c0,h0,rfl⟩:=hc;exact a' i v c0 ar h0
 |cc vs cs hn _ a'=>
  simp only [nX];refine .cc vs _ (by rw [zC];exact hn) λi v c ar hc=>?_
  rw [zB]at hc;simp only [Option.map_eq_some_iff]at hc;obtain⟨c0,h0,rfl⟩:=hc;exact a' i v c0 ar h0
def tm(r:Nat)(x:V)(e:aM):aM:={d:=nX r x e.d,own:=e.own}
def zD(r:Nat)(x:V):List (Nat×aM)→List (Nat×aM)
 |[]=>[]
 |(t,e)::l=>(t,tm r x e)::zD r x l
def zE(r:Nat)(x:V):List (Nat×List aM)→List (Nat×List aM)
 |[]=>[]
 |(t,cs)::l=>(t,cs.map (tm r x))::zE r x l
def L_(r:Nat)(x:V):∀(l:List (Nat×aM)) (s:Nat),look (zD r x l) s=(look l s).map (tm r x)
 |[],s=>rfl
 |(t,e)::l,s=>by
  simp only [zD,de];by_cases h:t=s
  ·simp [h]
  ·simp only [h,if_false];exact L_ r x l s
def EF(r:Nat)(x:V):∀(l:List (Nat×List aM)) (s:Nat),look (zE r x l) s=(look l s).map λcs=>cs.map (tm r x)
 |[],s=>rfl
 |(t,cs)::l,s=>by
  simp only [zE,de];by_cases h:t=s
  ·simp [h]
  ·simp only [h,if_false];exact EF r x l s
def pU(r:Nat)(x:V)(st:az):az:={env:=zD r x st.env,H:=zE r x (del st.H r),aJ:=st.aJ}
def wi{r:Nat}{x:V}{l:Loc}{a1:aM}(h:(pU r x st).at l=some a1):∃e,az.at {env:=st.env,H:=del st.H r,aJ:=st.aJ} l=some e∧a1=tm r x e:=by
 cases l with
 |slot s=>
  simp only [az.at,pU,L_,Option.map_eq_some_iff]at h ⊢;obtain⟨e,Z,ad⟩:=h;exact⟨e,Z,ad.symm⟩
 |cell q i=>
  simp only [az.at,pU,EF,Option.bind_eq_some_iff,Option.map_eq_some_iff]at h ⊢;obtain⟨cs,⟨jt,Z,rfl⟩,ad⟩:=h;rw [List.getElem?_map,Option.map_eq_some_iff]at ad;obtain⟨e,al,aH⟩:=ad;exact⟨e,⟨jt,Z,al⟩,aH.symm⟩
def Wd{r:Nat}{x:V}{d:D}{q off:Nat}{u:TypeId}(h:nX r x d = .bZ q off u):d = .bZ q off u:=by
 cases d<;>simp only [nX]at h
 case ptr q' o'=>cases hc:Nat.beq q' r&&Nat.beq o' 0<;>rw [hc]at h<;>cases h
 all_goals first|exact h|cases h
def bo.freeze(h:bo P K M β st tmps w){r:Nat}{x:V}{own:Option TypeId}(ai:look st.H r=some [⟨.v x,own⟩])(hx:x.isAgg=false):∃M',bo P K M' β (pU r x st) tmps w:=by
 obtain⟨b,vs,T,hb,bf,hlen,Ma,da,hz,hlies⟩:=h.box r _ ai
 obtain⟨u,rfl⟩:∃u,vs=[u]:=by
  match vs,hlen with
  |[u],_=>exact⟨u,rfl⟩
 have zF:∀q cs,look (del st.H r) q=some cs→q≠r∧look st.H q=some cs:=by
  intro q cs ax;rw [nE]at ax;split at ax
  ·cases ax
  ·rename_i dt;exact⟨λe=>dt e.symm,ax⟩
 have Z:bo P K M β {env:=st.env,H:=del st.H r,aJ:=st.aJ} tmps w:=h.sub rfl (λl e ab=>by
  cases l with
  |slot s=>exact⟨e,ab,rfl,λ_ h=>h⟩
  |cell q i=>
   simp only [az.at,Option.bind_eq_some_iff]at ab ⊢;obtain⟨cs,ad,al⟩:=ab;exact⟨e,⟨cs,(zF _ _ ad).2,al⟩,rfl,λ_ h=>h⟩) (λq cs ax=>⟨cs,(zF _ _ ax).2,rfl⟩)
 have hle:M.le (hA M b 0 [u]):=Dg λo _=>Ma o
 have gz:hA M b 0 [u] b 0=some u:=by simp [hA]
 have ad:bo P K (hA M b 0 [u]) β {env:=st.env,H:=del st.H r,aJ:=st.aJ} tmps w:=by
  refine Z.free b da (λq cs ax We=>?_) (λl e T' ab aG k6=>?_) (λ_ _ _=>rfl) hle (λbl o dt=>by simp [hA,dt]) (λo v ar=>?_)
  ·obtain⟨al,aH⟩:=zF _ _ ax;exact al (h.inj q r b _ _ aH ai We hb)
  ·have hl0:∃bW,st.at l=some bW∧bW.own=some T':=by
    cases l with
    |slot s=>exact⟨e,ab,aG⟩
    |cell q i=>
     simp only [az.at,Option.bind_eq_some_iff]at ab ⊢;obtain⟨cs,al,aH⟩:=ab;exact⟨e,⟨cs,(zF _ _ al).2,aH⟩,aG⟩
   obtain⟨bW,al,aH⟩:=hl0;exact h.unbox l bW T' b r _ al aH k6 ai hb
  ·rw [cell_of_heap bf];unfold hA at ar;split at ar
   ·rename_i hc;simpa using ar
   ·rw [Ma o]at ar;cases ar
 have fA:cw (hA M b 0 [u]) u x:=by
  have al:=h.eE (.cell r 0) ⟨.v x,own⟩ (by rw [az.CS ai];rfl)
  have aH:b0 tmps w β (.cell r 0)=u:=by simp only [b0,hb,cell_of_heap bf];simp
  rw [aH]at al;cases al with
  |v _ _ a6=>exact a6.mono hle
 refine⟨hA M b 0 [u],?_⟩
 have qG:∀q cs',look (pU r x st).H q=some cs'→∃cs,look (del st.H r) q=some cs∧cs'=cs.map (tm r x):=by
  intro q cs' ax;simp only [pU,EF,Option.map_eq_some_iff]at ax;obtain⟨cs,al,aH⟩:=ax;exact⟨cs,al,aH.symm⟩
 constructor
 ·intro l a1 ab;obtain⟨e,al,rfl⟩:=wi ab;exact(ad.eE l e al).mh (Mem.le_refl _) hb hx gz (hz u (by simp)) fA
 ·intro l a1 T' ab aG;obtain⟨e,al,rfl⟩:=wi ab;exact ad.own l e T' al aG
 ·intro l cd e a1 T' Wf bl ab aG cY dn;obtain⟨e1,al,rfl⟩:=wi ab;obtain⟨e2,aH,rfl⟩:=wi cY;exact ad.uniq l cd e1 e2 T' Wf bl al aG aH dn
 ·intro l e T' bl q cs ab aG k6 ax;obtain⟨e1,al,rfl⟩:=wi ab;obtain⟨jt,aH,_⟩:=qG q cs ax;exact ad.unbox l e1 T' bl q jt al aG k6 aH
 ·intro q cs ax;obtain⟨jt,aH,rfl⟩:=qG q cs ax;obtain⟨bl,vs',T',g1,g2,g3,g4,g5,g6,g7⟩:=ad.box q jt aH;refine⟨bl,vs',T',g1,g2,by simpa using g3,g4,g5,g6,λe he q' off t hd=>?_⟩
  obtain⟨bW,CW,rfl⟩:=List.mem_map.1 he;exact g7 bW CW q' off t (Wd hd)
 ·intro q q' bl cs cs' ax m5 cK fl;obtain⟨c1,al,_⟩:=qG q cs ax;obtain⟨c2,aH,_⟩:=qG q' cs' m5;exact ad.inj q q' bl c1 c2 al aH cK fl
 ·exact ad.lt
 ·exact ad.mem
 ·exact ad.m0
 ·exact ad.frame
 ·exact ad.gT
 ·exact ad.hL
 ·exact ad.gn
def wj(H:List (Nat×List aM))(r:Nat):Option V:=
 match look H r with
 |some [⟨.v x,_⟩]=>bif x.isAgg then none else some x
 |_=>none
def aS.freeze{c:Code}{Q:bY→az→Prop}(r:Nat)(x:V)(ai:wj st.H r=some x)(h:aS P N E c Q (pU r x st)):aS P N E c Q st:=by
 rintro K dT a w ⟨he,hd,dz,M,β,ci⟩
 unfold wj at ai;split at ai
 ·rename_i y own ab;rw [Bool.cond_eq_ite]at ai;split at ai
  ·cases ai
  ·rename_i hx;cases ai;obtain⟨M',hs⟩:=ci.freeze ab (by simpa using hx)
   exact h K dT a w ⟨he,hd,dz,M',β,hs⟩
 ·cases ai
def wk(r:Nat)(st:az):az:=match wj st.H r with
 |some x=>pU r x st
 |none=>st
def EG(r:Nat)(Q:bY→az→Prop):bY→az→Prop
 |.normal,st=>Q .normal (wk r st)
 |.ret,st=>Q .ret (wk r st)
 |e,st=>Q e st
def Mb{K:Ctx}{M:Mem}{β:Nat→Option Nat}{tmps:Array Value}{w:World}(r:Nat)(h:bo P K M β st tmps w):∃M',bo P K M' β (wk r st) tmps w:=by
 unfold wk;cases hx:wj st.H r with
 |none=>exact⟨M,h⟩
 |some x=>
  unfold wj at hx;split at hx
  ·rename_i y own ab;rw [Bool.cond_eq_ite]at hx;split at hx
   ·cases hx
   ·rename_i Wg;cases hx;exact h.freeze ab (by simpa using Wg)
  ·cases hx
def aS.mh{x:Code}{Q:bY→az→Prop}(r:Nat)(h:aS P N E x (EG r Q) st):aS P N E x Q st:=by
 intro K dT a w hs;refine wp_mono (h K dT a w hs) ?_
 rintro e dj w' ⟨eQ,bD,Z,ad⟩
 cases eQ with
 |normal=>
  obtain⟨g1,g2,g3,M,β,g4⟩:=Z;obtain⟨M',g5⟩:=Mb r g4;exact⟨.normal,_,⟨g1,g2,g3,M',β,g5⟩,ad⟩
 |ret=>
  obtain⟨g1,g2,g3,M,β,g4⟩:=Z;obtain⟨M',g5⟩:=Mb r g4;exact⟨.ret,_,⟨g1,g2,g3,M',β,g5⟩,ad⟩
 |exit i=>exact⟨.exit i,bD,Z,ad⟩
 |aW x=>exact⟨.aW x,bD,Z,ad⟩
def wl(s e:aM):aM:=match s.own with|none=>{d:=e.d} |some _=>e
def tn:List (Nat×aM)→List (Nat×aM)→List (Nat×aM)
 |(_,s)::l,(t,e)::m=>(t,wl s e)::tn l m
 |_,m=>m
def l1:List aM→List aM→List aM
 |s::l,e::m=>wl s e::l1 l m
 |_,m=>m
def tp:List (Nat×List aM)→List (Nat×List aM)→List (Nat×List aM)
 |(_,s)::l,(t,cs)::m=>(t,l1 s cs)::tp l m
 |_,m=>m
def fit(s st:az):az:={env:=tn s.env st.env,H:=tp s.H st.H,aJ:=st.aJ}
def zG(s e:aM):(wl s e).d=e.d∧∀T,(wl s e).own=some T→e.own=some T:=by
 unfold wl;split
 ·exact⟨rfl,λT h=>by cases h⟩
 ·exact⟨rfl,λT h=>h⟩
def Mc:∀(l m:List (Nat×aM)) (t:Nat) (a1:aM),look (tn l m) t=some a1→∃e,look m t=some e∧e.d=a1.d∧∀T,a1.own=some T→e.own=some T
 |[],m,t,a1,h=>⟨a1,by simpa [tn]using h,rfl,λ_ h=>h⟩
 |(a,s)::l,[],t,a1,h=>by simp [tn,look]at h
 |(a,s)::l,(q,e)::m,t,a1,h=>by
  simp only [tn,de]at h ⊢;split at h
  ·rename_i ax;rw [if_pos ax];cases h;exact⟨e,rfl,(zG s e).1.symm,(zG s e).2⟩
  ·rename_i ax;rw [if_neg ax];exact Mc l m t a1 h
def Md:∀(l m:List aM) (i:Nat) (a1:aM),(l1 l m)[i]? = some a1→∃e,m[i]? = some e∧e.d=a1.d∧∀T,a1.own=some T→e.own=some T
 |[],m,i,a1,h=>⟨a1,by simpa [l1]using h,rfl,λ_ h=>h⟩
 |s::l,[],i,a1,h=>by simp [l1]at h
 |s::l,e::m,0,a1,h=>by
  simp only [l1,List.getElem?_cons_zero,Option.some.injEq]at h;subst h;exact⟨e,rfl,(zG s e).1.symm,(zG s e).2⟩
 |s::l,e::m,i+1,a1,h=>by
  simp only [l1,List.getElem?_cons_succ]at h ⊢;exact Md l m i a1 h
def Me:∀l m:List aM,(l1 l m).length=m.length
 |[],m=>by simp [l1]
 |s::l,[]=>by simp [l1]
 |s::l,e::m=>by simp only [l1,List.length_cons,Me l m]
def EH:∀(l m:List (Nat×List aM)) (t:Nat) (cs':List aM),look (tp l m) t=some cs'→∃cs s,look m t=some cs∧cs'=l1 s cs
 |[],m,t,cs',h=>⟨cs',[],by simpa [tp]using h,by simp [l1]⟩
 |(a,s)::l,[],t,cs',h=>by simp [tp,look]at h
 |(a,s)::l,(q,cs)::m,t,cs',h=>by
  simp only [tp,de]at h ⊢;split at h
  ·rename_i ax;rw [if_pos ax];cases h;exact⟨cs,s,rfl,rfl⟩
  ·rename_i ax;rw [if_neg ax];exact EH l m t cs' h
def bo.fit(h:bo P K M β st tmps w)(s:az):bo P K M β (fit s st) tmps w:=
 h.sub rfl (λl a1 ab=>by
  cases l with
  |slot t=>exact Mc _ _ _ _ ab
  |cell q i=>
   simp only [az.at,Ab.fit,Option.bind_eq_some_iff]at ab;obtain⟨cs',Z,ad⟩:=ab;obtain⟨cs,z,al,rfl⟩:=EH _ _ _ _ Z;obtain⟨e,aH,a6⟩:=Md _ _ _ _ ad;exact⟨e,by simp only [az.at,al,Option.bind_some];exact aH,a6⟩) (λq cs' ax=>by
   obtain⟨cs,z,al,rfl⟩:=EH _ _ _ _ ax;exact⟨cs,al,(Me _ _).symm⟩)
def aS.fit{c:Code}{Q:bY→az→Prop}(s:az)(h:aS P N E c Q (Ab.fit s st)):aS P N E c Q st:=by
 rintro K dT a w ⟨he,hd,dz,M,β,ci⟩
 exact h K dT a w ⟨he,hd,dz,M,β,ci.fit s⟩
def aS.nZ{c:Code}{Q:bY→az→Prop}(s:az)(live sV:List Nat)(n:Nat)(ai:(qF live sV n st.env st.H st.aJ).map (Ab.fit s)=some bD)(b7:Nat.ble E n=true)(h:aS P N E c Q bD):aS P N E c Q st:=by
 simp only [Option.map_eq_some_iff]at ai;obtain⟨adT,Z,rfl⟩:=ai;exact aS.drop live sV n Z b7 (h.fit s)
def forget(l2:List Nat):List (Nat×aM)→List (Nat×aM)
 |[]=>[]
 |(t,e)::l=>(t,bif l2.any (Nat.beq t)then {d:=e.d}else e)::forget l2 l
def Mf(l2:List Nat):∀(m:List (Nat×aM)) (t:Nat) (a1:aM),look (forget l2 m) t=some a1→∃e,look m t=some e∧e.d=a1.d∧∀T,a1.own=some T→e.own=some T
 |[],t,a1,h=>by simp [forget,look]at h
 |(q,e)::m,t,a1,h=>by
  simp only [forget,de]at h ⊢;split at h
  ·rename_i ax;rw [if_pos ax];cases h;refine⟨e,rfl,?_⟩
   cases l2.any (Nat.beq q)
   ·exact⟨rfl,λ_ h=>h⟩
   ·exact⟨rfl,λT h=>by cases h⟩
  ·rename_i ax;rw [if_neg ax];exact Mf l2 m t a1 h
def aS.forget{c:Code}{Q:bY→az→Prop}(l2:List Nat)(h:aS P N E c Q {env:=Ab.forget l2 st.env,H:=st.H,aJ:=st.aJ}):aS P N E c Q st:=by
 rintro K dT a w ⟨he,hd,dz,M,β,ci⟩
 refine h K dT a w ⟨he,hd,dz,M,β,ci.sub rfl (λl a1 ab=>?_) (λq cs ax=>⟨cs,ax,rfl⟩)⟩
 cases l with
 |slot t=>exact Mf _ _ _ _ ab
 |cell q i=>exact⟨a1,ab,rfl,λ_ h=>h⟩
end
end Go.Ab

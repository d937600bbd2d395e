/- The abstract machine: a step of code over plain data, proved against the model. -/
import Derived.Orders
import Derived.Scope
import Derived.Recover
import Derived.Lib.Builder
import Derived.Lib.UnsafeStr
import Derived.ChangeSame
import Derived.OpenShut
import Derived.ReadAgain
import Derived.Test.YtcjbfnojhpfchaaGreatDoorMachB
set_option linter.all false
namespace Go.Ab
section
variable {P:Program} {N E:Nat} {st bW:aI}
def a'.drop{c:Code}{Q:cm→aI→Prop}(live uO:List Nat)(n:Nat)(ak:se live uO n st.env st.H st.aW=some bW)(cw:Nat.ble E n=true)(h:a' P N E c Q bW):a' P N E c Q st:=by
 rintro K ey a w ⟨he,hd,ej,M,β,cG⟩
 obtain⟨yj,hs⟩:=cG.se ak (λr b hb=>Nat.lt_of_lt_of_le (ey r b hb) (by simpa using cw))
 exact h K ey a w ⟨he,hd,ej,M,yj,hs⟩
end
def all_nil:j_ []:=trivial
def all_cons{p:Prop}{l:List Prop}(h:p)(af:j_ l):j_ (p::l):=⟨h,af⟩
inductive aO(α β:Type) where
 |ret (a:α) (b:β)
 |bd (x:V) (b:β)
def aO.on{α β du:Type}(x:aO α β)(f:α→β→du)(g:V→β→du):du:=
 match x with
 |.ret a b=>f a b
 |.bd x b=>g x b
def fJ{b:Bool}(h:b=false):(!b)=true:=by subst h;rfl
def vc{a b:Bool}(h:a=true)(ae:b=true):(a&&b)=true:=by subst h;subst ae;rfl
inductive jD:List V→List V→Prop where
 |nil:jD [] []
 |cons {x y:V} {xs ys:List V} (h:gC x y) (af:jD xs ys):jD (x::xs) (y::ys)
def jD.len:∀{xs ys:List V},jD xs ys→xs.length=ys.length
 |_,_,.nil=>rfl
 |_,_,.cons _ af=>by simp [af.len]
def jD.at:∀{xs ys:List V},jD xs ys→∀(i:Nat) {y:V},ys[i]? = some y→∃x,xs[i]? = some x∧gC x y
 |_,_,.nil,i,y,h=>by simp at h
 |_,_,.cons h af,i,y,cl=>by
  cases i with
  |zero=>simp at cl;subst cl;exact⟨_,rfl,h⟩
  |succ i=>simp at cl;simpa using af.at i cl
def Q'{xs ys:List V}(h:jD xs ys):gC (.agg xs) (.agg ys):=by
 intro M v ay;cases ay with
 |agg vs cs hn Z ak=>
  refine .agg vs ys (hn.trans h.len) Z (λi v c ay hc=>?_)
  obtain⟨x,hx,hi⟩:=h.at i hc;exact hi M v (ak i v x ay hx)
def abh{k n:Nat}{g eR:Nat→V}(h:∀i,i<n→jD (g i).cells (eR i).cells):gC (.bD k n g) (.bD k n eR):=by
 intro M v ay;cases ay with
 |k5=>exact .k5 _ _
 |n2=>exact .n2 _ _ _
 |bD b off k n cap g val hc hk cM Z ak=>
  refine .bD b off k n cap eR val hc (λi hi=>by rw [←(h i hi).len];exact hk i hi) cM Z (λi j c hi la=>?_)
  obtain⟨x,hx,abi⟩:=(h i hi).at j la;exact abi M _ (ak i j x hi hx)
inductive kX{α:Type}(e:α→V):List V→List α→Prop where
 |nil:kX e [] []
 |cons {x:V} {y:α} {xs:List V} {ys:List α} (h:jD x.cells (e y).cells) (af:kX e xs ys):kX e (x::xs) (y::ys)
def kX.len{α:Type}{e:α→V}:∀{xs:List V} {ys:List α},kX e xs ys→xs.length=ys.length
 |_,_,.nil=>rfl
 |_,_,.cons _ af=>by simp [af.len]
def kX.at{α:Type}[Inhabited α]{e:α→V}:∀{xs:List V} {ys:List α},kX e xs ys→∀(i:Nat),i<ys.length→jD (xs.getD i .en).cells (e (ys.getD i default)).cells
 |_,_,.nil,i,h=>by simp at h
 |_,_,.cons h af,i,cl=>by
  cases i with
  |zero=>simpa using h
  |succ i=>simpa using af.at i (by simpa using cl)
def Cf{α:Type}[Inhabited α]{k:Nat}{e:α→V}{xs:List V}{l:List α}(h:kX e xs l)(n:Nat)(hn:n=l.length):gC (.bD k n λi=>xs.getD i .en) (ai k e l):=by
 subst hn;exact abh λi hi=>h.at i hi
section
variable {tt:dw} {g1 g2:c_} {p:Path} {o:Oper} {ops:List Oper} {b4:f6}
def Ik{x:Operand}(h:∀t,x = .tmp t→look g1.env t=look g2.env t∧look g1.bU t=look g2.bU t)(p:Path)(ty:TypeId):rd g1.env g1.bU p tt ty x=rd g2.env g2.bU p tt ty x:=by
 cases x with
 |tmp t=>
  obtain⟨Z,ae⟩:=h t rfl;simp only [rd,Z,ae]
 |const v=>cases v with
  |slice a n c=>cases a<;>cases n<;>cases c<;>rfl
  |_=>rfl
 |global _=>rfl
 |func _=>rfl
def abj{x:Operand}(h:∀t,x = .tmp t→look g1.env t=look g2.env t):n5 g1 x=n5 g2 x:=by
 cases x with
 |tmp t=>simp only [n5,h t rfl]
 |_=>rfl
def yk{α β:Type}{f ri:α→Option β}:∀{l:List α},(∀x,x∈l→f x=ri x)→mapM' f l=mapM' ri l
 |[],_=>rfl
 |x::l,h=>by simp only [mapM',h x (by simp),yk (l:=l) λy cl=>h y (by simp [cl])]
def Il{f ri:TypeId→Operand→Option D}:∀{l:List Operand} {ts:List TypeId},(∀x,x∈l→∀t,f t x=ri t x)→kR f l ts=kR ri l ts
 |[],_,_=>by simp [kR]
 |x::l,[],_=>by simp [kR]
 |x::l,t::ts,h=>by simp only [kR,h x (by simp) t,Il (l:=l) (ts:=ts) λy cl=>h y (by simp [cl])]
def h_(tt:dw)(g:c_)(p:Path)(o:Oper):List Nat:=
 match o.op with
 |.alloc _ |.box _ _=>match o.dst.bind (look g.ids)with |some id=>[id] |none=>[]
 |.load _ a=>match rd g.env g.bU p tt o.type a with |some (.ptr q _)=>[q] |_=>[]
 |.store _ a _=>match rd g.env g.bU p tt o.type a with |some (.ptr q _)=>[q] |_=>[]
 |.call c=>match c.callee with
  |.value x=>match rd g.env g.bU p tt o.type x,kR (rd g.env g.bU p tt) c.args.toList c.argTypes.toList with
   |some (.fn _ eQ),some ds=>nm g.H 2 (dedup ((ds++eQ).flatMap refs))
   |_,_=>[]
  |_=>[]
 |_=>[]
def Cg{x:Nat}:∀{l:List Nat},x∈l→x∈dedup l
 |y::l,h=>by
  simp only [dedup];rw [Bool.cond_eq_ite];split
  ·rename_i cl;rcases List.mem_cons.1 h with rfl|h
   ·obtain⟨z,dE,abk⟩:=List.any_eq_true.1 cl;have:x=z:=by simpa using abk
    subst this;exact dE
   ·exact Cg h
  ·rcases List.mem_cons.1 h with rfl|h
   ·simp
   ·exact List.mem_cons_of_mem _ (Cg h)
def Q_{H:List (Nat×List a1)}:∀{n:Nat} {l:List Nat} {x:Nat},x∈l→x∈nm H n l
 | 0,_,_,h=>h
 |n+1,_,_,h=>Q_ (n:=n) (Cg (List.mem_append_left _ h))
def Ra{α β:Type}{f ri:α→List β}:∀{l:List α},(∀x,x∈l→f x=ri x)→l.flatMap f=l.flatMap ri
 |[],_=>rfl
 |x::l,h=>by simp only [List.flatMap_cons,h x (by simp),Ra (l:=l) λy cl=>h y (by simp [cl])]
def Im{H1 cF:List (Nat×List a1)}:∀{n:Nat} {l:List Nat},(∀q,q∈nm H1 n l→look H1 q=look cF q)→nm H1 n l=nm cF n l
 | 0,_,_=>rfl
 |n+1,l,h=>by
  simp only [nm]at h ⊢
  have:(l.flatMap λr=>((look H1 r).getD []).flatMap λe=>refs e.d)=l.flatMap λr=>((look cF r).getD []).flatMap λe=>refs e.d:=
   Ra λr ak=>by rw [h r (Q_ (Cg (List.mem_append_left _ ak)))]
  rw [←this];exact Im h
def Rb{H1 cF:List (Nat×List a1)}:∀{l:List Nat},(∀q,q∈l→look H1 q=look cF q)→boxes H1 l=boxes cF l
 |[],_=>rfl
 |r::l,h=>by simp only [boxes,h r (by simp),Rb (l:=l) λq aB=>h q (by simp [aB])]
def Rc{xs:List Operand}{ts:List TypeId}(hs:∀t,Operand.tmp t∈xs→look g1.env t=look g2.env t∧look g1.bU t=look g2.bU t):∀os:List Nat,handed tt g1 xs ts os=handed tt g2 xs ts os
 |[]=>rfl
 |i::os=>by
  simp only [handed,Rc hs os];split
  ·rename_i t l hx af;obtain⟨Z,ae⟩:=hs t (List.mem_of_getElem? hx);rw [Z,ae]
  ·rfl
  ·rfl
def abl{xs:List Operand}{ts:List TypeId}{f:FuncId}{args:List D}(hs:∀t,Operand.tmp t∈xs→look g1.env t=look g2.env t∧look g1.bU t=look g2.bU t)(eD:g1.rs=g2.rs)(eZ:∀q,q∈nm g1.H 2 (dedup (args.flatMap refs))→look g1.H q=look g2.H q):uH b4 tt g1 p xs ts f args=uH b4 tt g2 p xs ts f args:=by
 have Z:nm g1.H 2 (dedup (args.flatMap refs))=nm g2.H 2 (dedup (args.flatMap refs)):=Im eZ;unfold uH;simp only [←Z,←eD,←Rb eZ,←λos=>Rc (tt:=tt) (ts:=ts) hs os]
def pp(o:Oper):Bool:=
 match o.op with
 |.alloc _ |.box _ _=>true
 |_=>false
def Rd(pq:g1.ids=g2.ids)(hn:g1.aW=g2.aW)(eZ:∀id,o.dst.bind (look g1.ids)=some id→look g1.H id=look g2.H id):mH g1 o=mH g2 o:=by
 unfold mH;rw [←pq,←hn];split
 ·rename_i id h;rw [eZ id h]
 ·rfl
def In(hs:∀x,x∈o.op.operands.toList→∀t,x = .tmp t→look g1.env t=look g2.env t∧look g1.bU t=look g2.bU t)(eD:g1.rs=g2.rs)(pq:g1.ids=g2.ids)
 (hn:pp o=true→g1.aW=g2.aW) (eZ:∀q,q∈h_ tt g1 p o→look g1.H q=look g2.H q):step1 b4 tt ops g1 p o=step1 b4 tt ops g2 p o:=by
 have R:∀x,x∈o.op.operands.toList→∀p ty,rd g1.env g1.bU p tt ty x=rd g2.env g2.bU p tt ty x:=λx hx p ty=>Ik (hs x hx) p ty
 have O:∀x,x∈o.op.operands.toList→n5 g1 x=n5 g2 x:=λx hx=>abj λt bS=>(hs x hx t bS).1
 cases ax:o.op with
 |move x=>simp only [ax,Op.operands]at R O;simp only [step1,ax,R x (by simp),O x (by simp),eD]
 |assign x=>simp only [ax,Op.operands]at R O;simp only [step1,ax,R x (by simp),O x (by simp),eD]
 |pick c a b=>
  simp only [ax,Op.operands]at R O;cases c with
  |tmp c=>simp only [step1,ax,R (.tmp c) (by simp),R a (by simp),R b (by simp),eD]
  |_=>simp only [step1,ax]
 |alloc t=>
  have hi:mH g1 o=mH g2 o:=Rd pq (hn (by simp [pp,ax])) λid hid=>eZ id (by simp [h_,ax,hid])
  simp only [step1,ax,eD,hi]
 |box t x=>
  have hi:mH g1 o=mH g2 o:=Rd pq (hn (by simp [pp,ax])) λid hid=>eZ id (by simp [h_,ax,hid])
  simp only [ax,Op.operands]at R O;simp only [step1,ax,R x (by simp),eD,hi]
 |build t parts=>
  simp only [ax,Op.operands]at R O
  have:mapM' (fun(i,x)=>(rd g1.env g1.bU p tt (p9 tt t i) x).map λd=>(i,d)) parts.toList=mapM' (fun(i,x)=>(rd g2.env g2.bU p tt (p9 tt t i) x).map λd=>(i,d)) parts.toList:=
   yk λy cl=>by
    obtain⟨i,x⟩:=y;simp only [R x (List.mem_map.2 ⟨(i,x),cl,rfl⟩)]
  simp only [step1,ax,this,eD]
 |buildSlice t len parts=>
  simp only [ax,Op.operands]at R O
  have:mapM' (fun(i,x)=>(rd g1.env g1.bU p tt (p9 tt t i) x).map λd=>(i,d)) parts.toList=mapM' (fun(i,x)=>(rd g2.env g2.bU p tt (p9 tt t i) x).map λd=>(i,d)) parts.toList:=
   yk λy cl=>by
    obtain⟨i,x⟩:=y;simp only [R x (List.mem_map.2 ⟨(i,x),cl,rfl⟩)]
  simp only [step1,ax,this,eD]
 |load t a=>
  simp only [ax,Op.operands]at R O;simp only [h_,ax,R a (by simp)]at eZ
  simp only [step1,ax,R a (by simp),eD]
  split
  ·rename_i q off aP ha B5;simp only [ha]at eZ;simp only [eZ q (by simp)]
  ·rfl
  ·rfl
 |store t a x=>
  simp only [ax,Op.operands]at R O;simp only [h_,ax,R a (by simp)]at eZ
  simp only [step1,ax,R a (by simp),R x (by simp),O x (by simp),eD]
  split
  ·rename_i q off d aP ha hd B5;simp only [ha]at eZ;simp only [eZ q (by simp)]
  ·rfl
 |nilCheck x=>simp only [ax,Op.operands]at R O;simp only [step1,ax,R x (by simp),eD]
 |binOp op t x y t2=>simp only [ax,Op.operands]at R O;simp only [step1,ax,R x (by simp),R y (by simp),eD]
 |unOp op t x=>simp only [ax,Op.operands]at R O;simp only [step1,ax,R x (by simp),eD]
 |convert s t x=>simp only [ax,Op.operands]at R O;simp only [step1,ax,R x (by simp),eD]
 |makeInterface t x=>simp only [ax,Op.operands]at R O;simp only [step1,ax,R x (by simp),eD]
 |makeFunc fn first eQ=>
  simp only [ax,Op.operands]at R O;cases fn with
  |func f=>
   have:mapM' (rd g1.env g1.bU p tt o.type) eQ.toList=mapM' (rd g2.env g2.bU p tt o.type) eQ.toList:=yk λx hx=>R x (by rw [Array.toList_append];exact List.mem_append_right _ hx) _ _
   simp only [step1,ax,this,eD]
  |_=>simp only [step1,ax]
 |slice t x lo hi jh=>
  simp only [ax,Op.operands]at R O
  have jj:lo.map (rd g1.env g1.bU p tt o.type)=lo.map (rd g2.env g2.bU p tt o.type):=by
   cases lo with
   |none=>rfl
   |some l=>simp [R l (by simp)]
  have iI:hi.map (rd g1.env g1.bU p tt o.type)=hi.map (rd g2.env g2.bU p tt o.type):=by
   cases hi with
   |none=>rfl
   |some l=>simp [R l (by simp)]
  have Io:jh.map (rd g1.env g1.bU p tt o.type)=jh.map (rd g2.env g2.bU p tt o.type):=by
   cases jh with
   |none=>rfl
   |some m=>simp [R m (by simp)]
  simp only [step1,ax,R x (by simp),jj,iI,Io,eD]
 |fieldAddr s x f=>simp only [ax,Op.operands]at R O;simp only [step1,ax,R x (by simp),eD]
 |field s x f=>simp only [ax,Op.operands]at R O;simp only [step1,ax,R x (by simp),eD]
 |indexAddr t x i=>simp only [ax,Op.operands]at R O;simp only [step1,ax,R x (by simp),R i (by simp),eD]
 |index t x i=>simp only [ax,Op.operands]at R O;simp only [step1,ax,R x (by simp),R i (by simp),eD]
 |typeAssert x a t ok=>simp only [ax,Op.operands]at R O;simp only [step1,ax,R x (by simp),eD]
 |extract x i=>simp only [ax,Op.operands]at R O;simp only [step1,ax,R x (by simp),eD]
 |panic x=>simp only [ax,Op.operands]at R O;simp only [step1,ax,R x (by simp)]
 |call c=>
  simp only [ax,Op.operands,Call.operands]at R O hs;cases hc:c.callee with
  |value x=>
   have hx:=R x (by simp [hc])
   have ha:kR (rd g1.env g1.bU p tt) c.args.toList c.argTypes.toList=kR (rd g2.env g2.bU p tt) c.args.toList c.argTypes.toList:=Il λy cl t=>R y (by rw [Array.toList_append];exact List.mem_append_right _ cl) p t
   simp only [h_,ax,hc,hx,ha]at eZ;simp only [step1,ax,hc,hx,ha];split
   ·rename_i f eQ ds Z ae;simp only [Z,ae]at eZ;exact abl (λt bS=>hs (.tmp t) (by rw [Array.toList_append];exact List.mem_append_right _ bS) t rfl) eD eZ
   ·rfl
  |invoke x m=>simp only [step1,ax,hc]
  |builtin b=>
   have ha:mapM' (λy=>rd g1.env g1.bU p tt o.type y) c.args.toList=mapM' (λy=>rd g2.env g2.bU p tt o.type y) c.args.toList:=yk λx hx=>R x (by rw [Array.toList_append];exact List.mem_append_right _ hx) _ _
   cases b with
   |len=>simp only [step1,ax,hc,ha,eD]
   |min=>simp only [step1,ax,hc,ha,eD]
   |max=>simp only [step1,ax,hc,ha,eD]
   |append=>
    simp only [step1,ax,hc,eD];split
    ·rename_i t x e fv akN akO _ t2 af _ _;have hm:∀y,y∈[Operand.tmp t,x]→y∈(match c.callee with|.value f => #[f] |.invoke r _ => #[r] |.builtin _ => #[]:Array Operand).toList++c.args.toList:=λy cl=>by rw [af];exact List.mem_append_right _ cl
     have jk:∀y,y∈[Operand.tmp t,x]→y∈((match c.callee with|.value f => #[f] |.invoke r _ => #[r] |.builtin _ => #[]:Array Operand)++c.args).toList:=λy cl=>by rw [Array.toList_append];exact hm y cl
     simp only [R (.tmp t) (jk _ (by simp)),R x (jk _ (by simp)),(hs (.tmp t) (jk _ (by simp)) t rfl).1]
    ·rfl
   |_=>simp only [step1,ax,hc]
 |_=>simp only [step1,ax]
end
structure ek where
 dst:Option Nat
 p:Path
 f:ko
 jl:List Nat
 mb:List Nat
 oi:Bool
 rs:List e'
 gl:Nat:=0
 sU:V:=.en
 oj:List (Nat×List a1):=[]
 rj:List (Nat×List a1):=[]
 mS:Nat:=0
def ol(ops:List Oper)(o:Oper):List Nat:=
 (o.op.operands.toList.filterMap fun|.tmp t=>some t|_=>none)++(match o.guard with
  |some (j,_)=>((ops[j]?).bind (·.dst)).toList
  |none=>[])
def ep(E:ek)(g:c_):c_:=
 match E.dst with
 |none=>{g with env:=gD E.f.gJ g.env,H:=E.f.hs++g.H,aW:=g.aW+E.f.eY}
 |some t=>match E.p with
  |[]=>{g with
   env:=match E.f.e with|some e=>(t,e)::gD E.f.gJ g.env|none=>del (gD E.f.gJ g.env) t
   bU:=del g.bU t,H:=E.f.hs++g.H,aW:=g.aW+E.f.eY}
  |_::_=>match E.f.e with
   |some e=>{g with env:=del g.env t,bU:=(t,E.p,e.d)::del g.bU t}
   |none=>g
def mT(E:ek):List Nat:=E.dst.toList++E.f.gJ
def nB(E:ek):List Nat:=E.f.hs.map (·.1)
def vd{α:Type}:∀(a b:List (Nat×α)) (q:Nat),look (a++b) q=(match look a q with|some x=>some x|none=>look b q)
 |[],_,_=>rfl
 |(j,x)::a,b,q=>by
  simp only [List.cons_append,dP,vd a b q];by_cases h:j=q<;>simp [h]
def Re{α:Type}:∀{a:List (Nat×α)} {q:Nat},q∉a.map (·.1)→look a q=none
 |[],_,_=>rfl
 |(j,x)::a,q,h=>by
  simp only [List.map_cons,List.mem_cons,not_or]at h;rw [dP,if_neg (Ne.symm h.1)];exact Re h.2
section
variable {E:ek} {g g1 g2:c_}
def lO(g1 g2:c_)(t:Nat):Prop:=look g1.env t=look g2.env t∧look g1.bU t=look g2.bU t
def sV(g1 g2:c_)(q:Nat):Prop:=look g1.H q=look g2.H q
def sW{t:Nat}(h:t∉mT E):lO (ep E g) g t:=by
 simp only [mT,List.mem_append,not_or]at h;unfold lO ep;cases hd:E.dst with
 |none=>simp only [mL,if_neg h.2,and_self]
 |some u=>
  have hu:u≠t:=by rintro rfl;simp [hd]at h
  cases hp:E.p with
  |nil=>
   dsimp only
   cases he:E.f.e with
   |some e=>simp only [dP,if_neg hu,mL,if_neg h.2,pc,and_self]
   |none=>simp only [mL,if_neg h.2,pc,if_neg hu,and_self]
  |cons x p=>
   dsimp only
   cases he:E.f.e with
   |some e=>simp only [dP,if_neg hu,pc,and_self]
   |none=>exact⟨rfl,rfl⟩
def Ip{t:Nat}(h:lO g1 g2 t):lO (ep E g1) (ep E g2) t:=by
 obtain⟨Z,ae⟩:=h;unfold lO ep;cases hd:E.dst with
 |none=>simp only [mL,Z,ae,and_self]
 |some u=>
  cases hp:E.p with
  |nil=>
   dsimp only
   cases he:E.f.e with
   |some e=>simp only [dP,mL,Z,ae,pc,and_self]
   |none=>simp only [mL,pc,Z,ae,and_self]
  |cons x p=>
   dsimp only
   cases he:E.f.e with
   |some e=>simp only [dP,pc,Z,ae,and_self]
   |none=>exact⟨Z,ae⟩
def Iq:(ep E g).H=E.f.hs++g.H∨(ep E g).H=g.H:=by
 unfold ep;cases E.dst with
 |none=>exact .inl rfl
 |some u=>
  cases E.p with
  |nil=>exact .inl rfl
  |cons x p=>dsimp only;cases E.f.e<;>exact .inr rfl
def ve{q:Nat}(h:q∉nB E):sV (ep E g) g q:=by
 unfold sV;rcases Iq (E:=E) (g:=g)with Z|Z<;>rw [Z]
 rw [vd,Re h]
def Ir{q:Nat}(h:sV g1 g2 q):sV (ep E g1) (ep E g2) q:=by
 unfold sV at *;unfold ep;cases E.dst with
 |none=>simp only [vd,h]
 |some u=>
  cases E.p with
  |nil=>simp only [vd,h]
  |cons x p=>dsimp only;cases E.f.e<;>exact h
def vf(E:ek):Nat:=
 match E.dst with
 |none=>E.f.eY
 |some _=>match E.p with
  |[]=>E.f.eY
  |_::_=>0
def Ch:(ep E g).aW=g.aW+vf E:=by
 unfold ep vf;cases E.dst with
 |none=>rfl
 |some u=>
  cases E.p with
  |nil=>rfl
  |cons x p=>dsimp only;cases E.f.e<;>rfl
structure Alike(g1 g2:c_):Prop where
 slot:∀t,lO g1 g2 t
 box:∀q,sV g1 g2 q
 aW:g1.aW=g2.aW
 ids:g1.ids=g2.ids
def Ci:(ep E g).ids=g.ids:=by
 unfold ep;cases E.dst with
 |none=>rfl
 |some u=>
  cases E.p with
  |nil=>rfl
  |cons x p=>dsimp only;cases E.f.e<;>rfl
def Alike.refl:Alike g g:=⟨λ_=>⟨rfl,rfl⟩,λ_=>rfl,rfl,rfl⟩
def Alike.symm(h:Alike g1 g2):Alike g2 g1:=⟨λt=>⟨(h.slot t).1.symm,(h.slot t).2.symm⟩,λq=>(h.box q).symm,h.aW.symm,h.ids.symm⟩
def Alike.trans{g3:c_}(h:Alike g1 g2)(de:Alike g2 g3):Alike g1 g3:=⟨λt=>⟨(h.slot t).1.trans (de.slot t).1,(h.slot t).2.trans (de.slot t).2⟩,λq=>(h.box q).trans (de.box q),h.aW.trans de.aW,h.ids.trans de.ids⟩
def Alike.ap(h:Alike g1 g2):Alike (ep E g1) (ep E g2):=
 ⟨λt=>Ip (h.slot t),λq=>Ir (h.box q),(by simp only [Ch,h.aW]),by simp only [Ci,h.ids]⟩
def sep(a b:List Nat):Bool:=a.all λx=>!b.any (Nat.beq x)
def sX{a b:List Nat}(h:sep a b=true){x:Nat}(ha:x∈a):x∉b:=by
 intro hb;have:=List.all_eq_true.1 h x ha
 simp only [Bool.not_eq_true',List.any_eq_false]at this;exact this x hb (by simp)
def yl(E cZ:ek):Bool:=
 sep (mT E) cZ.mb&&sep (mT E) (mT cZ)&&sep (mT cZ) E.mb&&(sep (nB E) cZ.jl||Nat.beq E.mS 2&&Nat.beq cZ.mS 1)&&sep (nB E) (nB cZ)&&(sep (nB cZ) E.jl||Nat.beq cZ.mS 2&&Nat.beq E.mS 1)&&(!E.oi||Nat.beq (vf cZ) 0)&&(!cZ.oi||Nat.beq (vf E) 0)
def abm{E cZ:ek}(Z:sep (mT E) (mT cZ)=true)(ae:sep (nB E) (nB cZ)=true):Alike (ep E (ep cZ g)) (ep cZ (ep E g)):=by
 refine⟨λt=>?_,λq=>?_,?_,by simp only [Ci]⟩
 ·by_cases bS:t∈mT E
  ·have nu:=sX Z bS;have a:lO (ep E (ep cZ g)) (ep E g) t:=Ip (sW nu);have b:lO (ep cZ (ep E g)) (ep E g) t:=sW nu;exact⟨a.1.trans b.1.symm,a.2.trans b.2.symm⟩
  ·have a:lO (ep E (ep cZ g)) (ep cZ g) t:=sW bS;have b:lO (ep cZ (ep E g)) (ep cZ g) t:=Ip (sW bS);exact⟨a.1.trans b.1.symm,a.2.trans b.2.symm⟩
 ·by_cases bS:q∈nB E
  ·have nu:=sX ae bS;exact(Ir (E:=E) (ve (E:=cZ) (g:=g) nu)).trans (ve (E:=cZ) (g:=ep E g) nu).symm
  ·exact(ve (E:=E) (g:=ep cZ g) bS).trans (Ir (E:=cZ) (ve (E:=E) (g:=g) bS)).symm
 ·simp only [Ch];omega
end
section
variable {tt:dw} {ops:List Oper} {b4:f6} {o:Oper} {E:ek} {g g1 g2:c_}
def Rf(h:∀t,t∈ol ops o→lO g1 g2 t):n7 ops g1 o=n7 ops g2 o:=by
 unfold n7;split
 ·rfl
 ·rename_i j w hg;cases bS:(ops[j]?).bind (·.dst) with
  |none=>rfl
  |some t=>
   have:=h t (by simp [ol,hg,bS])
   simp only [this.1,this.2]
def Cj:∀{p:Path} {q:Prop},(∀x,x∈p→lO g1 g2 x.1)→under g1 p q=under g2 p q
 |[],_,_=>rfl
 |(t,w)::p,q,h=>by
  have bS:=h (t,w) (by simp)
  have a7:=Cj (p:=p) (q:=q) λx hx=>h x (by simp [hx])
  have:xy g1.env g1.bU t=xy g2.env g2.bU t:=by unfold xy;rw [bS.1,bS.2]
  simp only [under,this,a7]
def abn{p:Path}(hs:∀x,x∈o.op.operands.toList→∀t,x = .tmp t→look g1.env t=look g2.env t∧look g1.bU t=look g2.bU t)(pq:g1.ids=g2.ids)(eZ:∀q,q∈h_ tt g1 p o→look g1.H q=look g2.H q):h_ tt g1 p o=h_ tt g2 p o:=by
 have R:∀x,x∈o.op.operands.toList→∀p ty,rd g1.env g1.bU p tt ty x=rd g2.env g2.bU p tt ty x:=λx hx p ty=>Ik (hs x hx) p ty
 cases ax:o.op with
 |alloc t=>simp only [h_,ax,pq]
 |box t x=>simp only [h_,ax,pq]
 |load t a=>simp only [ax,Op.operands]at R;simp only [h_,ax,R a (by simp)]
 |store t a x=>simp only [ax,Op.operands]at R;simp only [h_,ax,R a (by simp)]
 |call c=>
  simp only [ax,Op.operands,Call.operands]at R;cases hc:c.callee with
  |value x=>
   have hx:=R x (by simp [hc])
   have ha:kR (rd g1.env g1.bU p tt) c.args.toList c.argTypes.toList=kR (rd g2.env g2.bU p tt) c.args.toList c.argTypes.toList:=Il λy cl t=>R y (by rw [Array.toList_append];exact List.mem_append_right _ cl) p t
   simp only [h_,ax,hc,hx,ha]at eZ ⊢;split
   ·rename_i f eQ ds Z ae;simp only [Z,ae]at eZ;exact Im eZ
   ·rfl
  |_=>simp only [h_,ax,hc]
 |_=>simp only [h_,ax]
structure Is(b4:f6)(tt:dw)(ops:List Oper)(o:Oper)(E:ek)(g:c_):Prop where
 Ck:n7 ops g o=some E.p
 st:step1 b4 tt ops {g with rs:=E.rs} E.p o=some (bif Nat.beq E.gl 0 then .go E.f else .bd E.sU E.oj E.f.aZ)
 aZ:∀q,q∈E.f.aZ→under g E.p q
 jl:∀q,q∈h_ tt g E.p o→q∈E.jl
 fin:E.gl=1→∀q,q∈E.jl→look g.H q=look E.rj q
def Can(b4:f6)(tt:dw)(ops:List Oper)(o:Oper)(E:ek)(g:c_):Prop:=E.gl=2∨Is b4 tt ops o E g
def Can.congr(h:Can b4 tt ops o E g1)(sY:∀t,t∈ol ops o++E.p.map (·.1)→t∈E.mb)(Cl:pp o=E.oi)(hs:∀t,t∈E.mb→lO g1 g2 t)(hb:∀q,q∈E.jl→sV g1 g2 q)(hn:E.oi=true→g1.aW=g2.aW)(pq:g1.ids=g2.ids):Can b4 tt ops o E g2:=by
 rcases h with h|h
 ·exact .inl h
 right
 have gM:∀x,x∈o.op.operands.toList→∀t,x = .tmp t→look g1.env t=look g2.env t∧look g1.bU t=look g2.bU t:=by
  rintro x hx t rfl
  exact hs t (sY t (List.mem_append_left _ (by simp only [ol,List.mem_append,List.mem_filterMap];exact .inl ⟨_,hx,rfl⟩)))
 have kW:h_ tt g1 E.p o=h_ tt g2 E.p o:=abn gM pq (λq aB=>hb q (h.jl q aB))
 refine⟨?_,?_,λq aB=>?_,(by rw [←kW];exact h.jl),λhk q aB=>(hb q aB).symm.trans (h.fin hk q aB)⟩
 ·rw [←Rf (g1:=g1) (g2:=g2) λt bS=>hs t (sY t (List.mem_append_left _ bS))];exact h.Ck
 ·rw [←h.st];refine(In (g1:={g1 with rs:=E.rs}) (g2:={g2 with rs:=E.rs}) gM rfl pq (λhm=>hn (by rw [←Cl];exact hm)) (λq aB=>hb q ?_)).symm
  exact h.jl q aB
 ·rw [←Cj (g1:=g1) (g2:=g2) λx hx=>hs x.1 (sY _ (List.mem_append_right _ (List.mem_map.2 ⟨x,hx,rfl⟩)))]
  exact h.aZ q aB
def sZ(o:Oper)(rs:List e'):Nat:=
 match o.op with
 |.load _ _=>match rs with
  |.own::_=>2
  |_=>1
 |_=>0
def rk(g1 g2:c_)(q:Nat):Prop:=(look g1.H q).map (·.map (·.d))=(look g2.H q).map (·.map (·.d))
def Rg:∀(cs:List a1) (off:Nat) (e:a1),cs[off]? = some e→(setAt cs off [{d:=e.d}]).map (·.d)=cs.map (·.d)
 |[],off,e,h=>by simp at h
 |c::cs,0,e,h=>by
  simp only [List.getElem?_cons_zero,Option.some.injEq]at h;subst h;simp [setAt]
 |c::cs,off+1,e,h=>by
  simp only [List.getElem?_cons_succ]at h;simp only [setAt,List.map_cons,Rg cs off e h]
def abo(h:Is b4 tt ops o E g)(af:sZ o E.rs=2)(hk:E.gl=0)(q:Nat):rk (ep E g) g q:=by
 have dH:=h.st;rw [hk]at dH;unfold sZ at af;split at af
 case h_2=>cases af
 rename_i t a ax;simp only [step1,ax,show Nat.beq 0 0=true from rfl,cond_true]at dH
 have nil:E.f.hs=[]→rk (ep E g) g q:=by
  intro bx;unfold rk;rcases Iq (E:=E) (g:=g)with Z|Z<;>rw [Z]
  rw [bx];rfl
 split at dH
 ·rename_i abp off aP ak c8;split at dH
  ·rename_i cs ei;rw [Bool.cond_eq_ite]at dH;split at dH
   ·rw [Bool.cond_eq_ite]at dH;split at dH
    ·simp only [Option.map_some,Option.some.injEq,mG.go.injEq]at dH;exact nil (by rw [←dH])
    ·cases dH
   ·split at dH
    ·rename_i e he;split at dH
     ·rw [Bool.cond_eq_ite]at dH;split at dH
      ·simp only [Option.some.injEq,mG.go.injEq]at dH;unfold rk;rcases Iq (E:=E) (g:=g)with Z|Z<;>rw [Z]
       rw [←dH];simp only [List.cons_append,List.nil_append,dP];split
       ·rename_i aB;subst aB;rw [ei];simp only [Option.map_some,Rg cs off e he]
       ·rfl
      ·cases dH
     ·simp only [Option.map_some,Option.some.injEq,mG.go.injEq]at dH;exact nil (by rw [←dH])
    ·cases dH
  ·cases dH
 ·rename_i x aP ak c8;rw [Bool.cond_eq_ite]at dH;split at dH
  ·simp only [Option.map_some,Option.some.injEq,mG.go.injEq]at dH;exact nil (by rw [←dH])
  ·cases dH
 ·cases dH
def abq{p:Path}{rs:List e'}{t:TypeId}{a:Operand}(ax:o.op = .load t a)(eD:∀l,rs ≠ .own::l)(R:rd g1.env g1.bU p tt o.type a=rd g2.env g2.bU p tt o.type a)(abr:∀q off,rd g2.env g2.bU p tt o.type a=some (.ptr q off)→rk g1 g2 q):
 step1 b4 tt ops {g1 with rs:=rs} p o=step1 b4 tt ops {g2 with rs:=rs} p o:=by
 simp only [step1,ax,R];split
 ·rename_i q off aP ak c8;have hd:=abr q off ak;unfold rk at hd;cases Z:look g1.H q with
  |none=>
   rw [Z]at hd;cases ae:look g2.H q with
   |none=>rfl
   |some c2=>rw [ae]at hd;cases hd
  |some c1=>
   rw [Z]at hd;cases ae:look g2.H q with
   |none=>rw [ae]at hd;cases hd
   |some c2=>
    rw [ae]at hd;simp only [Option.map_some,Option.some.injEq]at hd;have hlen:c1.length=c2.length:=by have:=congrArg List.length hd;simpa using this
    have abs:((c1.drop off).take aP.size).map (·.d)=((c2.drop off).take aP.size).map (·.d):=by rw [List.map_take,List.map_drop,hd,←List.map_drop,←List.map_take]
    have h7:(c1[off]?).map (·.d)=(c2[off]?).map (·.d):=by rw [←List.getElem?_map,hd,List.getElem?_map]
    simp only [hlen,abs];cases aP.k.isAgg with
    |true=>rfl
    |false=>
     simp only [cond_false];cases Rh:c1[off]? with
     |none=>
      rw [Rh]at h7;cases Cm:c2[off]? with
      |none=>rfl
      |some e2=>rw [Cm]at h7;cases h7
     |some e1=>
      rw [Rh]at h7;cases Cm:c2[off]? with
      |none=>rw [Cm]at h7;cases h7
      |some e2=>
       rw [Cm]at h7;simp only [Option.map_some,Option.some.injEq]at h7;cases rs with
       |nil=>cases e1.own<;>cases e2.own<;>simp [h7]
       |cons r l=>
        cases r with
        |own=>exact absurd rfl (eD l)
        |val x=>cases e1.own<;>cases e2.own<;>simp [h7]
        |raw=>cases e1.own<;>cases e2.own<;>simp [h7]
        |call u v z=>cases e1.own<;>cases e2.own<;>simp [h7]
 ·rfl
 ·rfl
def Can.Ri(h:Can b4 tt ops o E g1)(af:sZ o E.rs=1)(hk:E.gl=0)(sY:∀t,t∈ol ops o++E.p.map (·.1)→t∈E.mb)(hs:∀t,t∈E.mb→lO g1 g2 t)(hb:∀q,rk g1 g2 q):Can b4 tt ops o E g2:=by
 rcases h with h|h
 ·exact .inl h
 right
 have gM:∀x,x∈o.op.operands.toList→∀t,x = .tmp t→look g1.env t=look g2.env t∧look g1.bU t=look g2.bU t:=by
  rintro x hx t rfl
  exact hs t (sY t (List.mem_append_left _ (by simp only [ol,List.mem_append,List.mem_filterMap];exact .inl ⟨_,hx,rfl⟩)))
 unfold sZ at af;split at af
 case h_2=>cases af
 rename_i t a ax
 have eD:∀l,E.rs ≠ .own::l:=by
  intro l e;rw [e]at af;cases af
 have R:rd g1.env g1.bU E.p tt o.type a=rd g2.env g2.bU E.p tt o.type a:=Ik (gM a (by simp [ax,Op.operands])) _ _
 have kW:h_ tt g1 E.p o=h_ tt g2 E.p o:=by simp only [h_,ax,R]
 refine⟨?_,?_,λq aB=>?_,(by rw [←kW];exact h.jl),λsN=>by rw [hk]at sN;cases sN⟩
 ·rw [←Rf (g1:=g1) (g2:=g2) λt bS=>hs t (sY t (List.mem_append_left _ bS))];exact h.Ck
 ·rw [←h.st];exact(abq ax eD R λq off _=>hb q).symm
 ·rw [←Cj (g1:=g1) (g2:=g2) λx hx=>hs x.1 (sY _ (List.mem_append_right _ (List.mem_map.2 ⟨x,hx,rfl⟩)))]
  exact h.aZ q aB
end
def hL(ops:List Oper)(o:Oper)(E:ek):Bool:=abt (ol ops o++E.p.map (·.1)) E.mb&&(pp o == E.oi)&&decide (E.dst=o.dst)&&(match E.f.rs with|[]=>true|_=>false)&&(Nat.beq E.mS 0||Nat.beq E.mS (sZ o E.rs)&&Nat.beq E.gl 0)
where abt (a b:List Nat):Bool:=a.all λx=>b.any (Nat.beq x)
def Cn{ops:List Oper}{o:Oper}{E:ek}(h:hL ops o E=true):(∀t,t∈ol ops o++E.p.map (·.1)→t∈E.mb)∧pp o=E.oi∧E.dst=o.dst∧E.f.rs=[]:=by
 simp only [hL,Bool.and_eq_true,beq_iff_eq,decide_eq_true_eq]at h;obtain⟨⟨⟨⟨Z,ae⟩,ar⟩,aK⟩,_⟩:=h;refine⟨λt bS=>?_,ae,ar,?_⟩
 ·obtain⟨y,cl,gj⟩:=List.any_eq_true.1 (List.all_eq_true.1 Z t bS);have:t=y:=by simpa using gj
  rw [this];exact cl
 ·split at aK
  ·assumption
  ·cases aK
def waits(ops:List Oper)(i:Nat):Nat→Nat→Bool
 | 0,_=>false
 |n+1,j=>match ops[j]? with
  |some o=>o.after.toList.any λe=>Region.binds .any e&&(Nat.beq e.on i||waits ops i n e.on)
  |none=>false
def mU(opsA:Array Oper)(listed:Array Bool):Prop:=∀(j:Nat) o,opsA[j]? = some o→listed.getD j false=true→∀e,e∈o.after→Region.binds .any e=true→listed.getD e.on false=true
def Co{opsA:Array Oper}{listed:Array Bool}(hc:mU opsA listed){i:Nat}:∀{n j:Nat},waits opsA.toList i n j=true→listed.getD j false=true→listed.getD i false=true
 | 0,_,h,_=>by simp [waits]at h
 |n+1,j,h,hj=>by
  simp only [waits]at h;split at h
  ·rename_i o ax;obtain⟨e,he,hb⟩:=List.any_eq_true.1 h;simp only [Bool.and_eq_true,Bool.or_eq_true,Nat.beq_eq]at hb;have Z:=hc j o (by simpa using ax) hj e (by simpa using he) hb.1
   rcases hb.2 with rfl|ae
   ·exact Z
   ·exact Co hc ae Z
  ·cases h
def mU.set{opsA:Array Oper}{listed:Array Bool}(hc:mU opsA listed){i:Nat}(ak:i∈Region.ready .any opsA listed):mU opsA (listed.setIfInBounds i true):=by
 intro j o ax hj e he hb;by_cases om:i=j
 ·subst om;obtain⟨_,o',jS,s0⟩:=mem_ready.1 ak;rw [ax]at jS;cases jS;exact getD_set_true (s0 e he hb)
 ·rw [getD_set_ne false om]at hj;exact getD_set_true (hc j o ax hj e he hb)
section
variable {b4:f6} {tt:dw} {opsA:Array Oper} {cz:List ek} {Fi:c_→Prop} {g g1 g2:c_}
def iJ(b4:f6)(tt:dw)(opsA:Array Oper)(cz:List ek)(Fi:c_→Prop):Nat→Array Bool→c_→Prop
 | 0,listed,g=>Region.ready .any opsA listed=[]∧Fi g
 |n+1,listed,g=>(Region.ready .any opsA listed=[]→Fi g)∧∀i,i∈Region.ready .any opsA listed→∃o E,opsA[i]? = some o∧cz[i]? = some E∧Can b4 tt opsA.toList o E g∧
  iJ b4 tt opsA cz Fi n (listed.setIfInBounds i true) (ep E g)
def iJ.alike(eK:∀(i:Nat) o E,opsA[i]? = some o→cz[i]? = some E→hL opsA.toList o E=true)(dF:∀g1 g2,Alike g1 g2→Fi g1→Fi g2):∀{n:Nat} {listed:Array Bool} {g1 g2:c_},Alike g1 g2→iJ b4 tt opsA cz Fi n listed g1→iJ b4 tt opsA cz Fi n listed g2
 | 0,_,_,_,ha,h=>⟨h.1,dF _ _ ha h.2⟩
 |n+1,_,_,_,ha,h=>⟨λak=>dF _ _ ha (h.1 ak),λi hi=>by
  obtain⟨o,E,ax,cw,i8,hn⟩:=h.2 i hi;obtain⟨cN,aj,_,_⟩:=Cn (eK i o E ax cw);exact⟨o,E,ax,cw,i8.congr cN aj (λt _=>ha.slot t) (λq _=>ha.box q) (λ_=>ha.aW) ha.ids,iJ.alike eK dF ha.ap hn⟩⟩
def ym{ops:List Oper}{o:Oper}{E:ek}{n:Nat}(h:hL ops o E=true)(af:E.mS=n+1):sZ o E.rs=n+1∧E.gl=0:=by
 simp only [hL,Bool.and_eq_true,Bool.or_eq_true,Nat.beq_eq]at h;rcases h.2 with h|h
 ·rw [af]at h;cases h
 ·exact⟨h.1.symm.trans af,h.2⟩
def Can.data{b4:f6}{tt:dw}{ops:List Oper}{o:Oper}{E:ek}{g:c_}(h:Can b4 tt ops o E g)(eK:hL ops o E=true)(af:E.mS=2)(q:Nat):rk (ep E g) g q:=by
 obtain⟨Z,ae⟩:=ym eK af;rcases h with h|h
 ·rw [ae]at h;cases h
 ·exact abo h Z ae q
def abu{E cZ:ek}(h:yl E cZ=true):sep (mT E) cZ.mb=true∧sep (mT E) (mT cZ)=true∧sep (mT cZ) E.mb=true∧(sep (nB E) cZ.jl=true∨E.mS=2∧cZ.mS=1)∧sep (nB E) (nB cZ)=true∧(sep (nB cZ) E.jl=true∨cZ.mS=2∧E.mS=1)∧(E.oi=true→vf cZ=0)∧(cZ.oi=true→vf E=0):=by
 simp only [yl,Bool.and_eq_true,Bool.or_eq_true,Bool.not_eq_true',Nat.beq_eq]at h;obtain⟨⟨⟨⟨⟨⟨⟨Z,ae⟩,ar⟩,aK⟩,bc⟩,b2⟩,cU⟩,dQ⟩:=h;exact⟨Z,ae,ar,aK,bc,b2,λhm=>cU.resolve_left (by simp [hm]),λhm=>dQ.resolve_left (by simp [hm])⟩
def iJ.first(eK:∀(i:Nat) o E,opsA[i]? = some o→cz[i]? = some E→hL opsA.toList o E=true)(dF:∀g1 g2,Alike g1 g2→Fi g1→Fi g2){i:Nat}{o:Oper}{E:ek}(hi:opsA[i]? = some o)(cw:cz[i]? = some E):
 ∀(fuel:Nat) (listed:Array Bool) (g:c_),
  (∀(j:Nat) oo lh,opsA[j]? = some oo→cz[j]? = some lh→j≠i→listed.getD j true=false→waits opsA.toList i 3 j=false→yl E lh=true)→mU opsA listed→
  i∈Region.ready .any opsA listed→Can b4 tt opsA.toList o E g→iJ b4 tt opsA cz Fi fuel (listed.setIfInBounds i true) (ep E g)→iJ b4 tt opsA cz Fi (fuel+1) listed g:=by
 intro fuel;induction fuel with
 |zero=>
  intro listed g _ _ ak i8 H;refine⟨λh=>(by rw [h]at ak;cases ak),λj hj=>?_⟩
  by_cases om:j=i
  ·subst om;exact⟨o,E,hi,cw,i8,H⟩
  ·have:=ready_mono hj om
   rw [H.1]at this;cases this
 |succ fuel a7=>
  intro listed g jA hf ak i8 H;refine⟨λh=>(by rw [h]at ak;cases ak),λj hj=>?_⟩
  by_cases om:j=i
  ·subst om;exact⟨o,E,hi,cw,i8,H⟩
  obtain⟨oo,lh,oq,rl,Rj,abv⟩:=H.2 j (ready_mono hj om);obtain⟨Rk,akP,Rl,s0⟩:=mem_ready.1 hj;rw [oq]at Rl;cases Rl
  have mV:listed.getD i false=false:=by
   have h0:=(mem_ready.1 ak).1;rcases Nat.lt_or_ge i listed.size with de|de
   ·simpa [Array.getD_eq_getD_getElem?,de]using h0
   ·simp [Array.getD_eq_getD_getElem?,Array.getElem?_eq_none de]
  have abw:waits opsA.toList i 3 j=false:=by
   rw [Bool.eq_false_iff];intro hw;rw [waits]at hw;have af:opsA.toList[j]? = some oo:=by simpa using oq
   simp only [af]at hw;obtain⟨e,he,hb⟩:=List.any_eq_true.1 hw;simp only [Bool.and_eq_true,Bool.or_eq_true,Nat.beq_eq]at hb;have Z:=s0 e (by simpa using he) hb.1
   rcases hb.2 with rfl|ae
   ·rw [mV]at Z;cases Z
   ·rw [Co hf ae Z]at mV;cases mV
  obtain⟨d1,d2,d3,d4,d5,d6,d7,d8⟩:=abu (jA j oo lh oq rl om Rk abw);obtain⟨cN,aj,_,_⟩:=Cn (eK i o E hi cw);obtain⟨gb,h8,_,_⟩:=Cn (eK j oo lh oq rl)
  have c1:Can b4 tt opsA.toList oo lh g:=by
   rcases d4 with d4|⟨e1,e2⟩
   ·exact Rj.congr gb h8 (λt bS=>sW λhw=>sX d1 hw bS) (λq aB=>ve λhw=>sX d4 hw aB) (λhm=>by rw [Ch,d8 hm];rfl) Ci
   ·exact Rj.Ri (ym (eK j oo lh oq rl) e2).1 (ym (eK j oo lh oq rl) e2).2 gb (λt bS=>sW λhw=>sX d1 hw bS) (i8.data (eK i o E hi cw) e1)
  have c2:Can b4 tt opsA.toList o E (ep lh g):=by
   have Rm:∀t,t∈E.mb→lO g (ep lh g) t:=λt bS=>by have:=sW (E:=lh) (g:=g) (t:=t) λhw=>sX d3 hw bS;exact⟨this.1.symm,this.2.symm⟩
   rcases d6 with d6|⟨e1,e2⟩
   ·exact i8.congr cN aj Rm (λq aB=>(ve (E:=lh) (g:=g) (q:=q) λhw=>sX d6 hw aB).symm) (λhm=>by rw [Ch,d7 hm];rfl) Ci.symm
   ·exact i8.Ri (ym (eK i o E hi cw) e2).1 (ym (eK i o E hi cw) e2).2 cN Rm (λq=>(c1.data (eK j oo lh oq rl) e1 q).symm)
  refine⟨oo,lh,oq,rl,c1,a7 (listed.setIfInBounds j true) (ep lh g) ?_ (hf.set hj) (ready_mono ak (Ne.symm om)) c2 ?_⟩
  ·intro k ok abx hk aby Cp mV nw;refine jA k ok abx hk aby Cp ?_ nw;by_cases rm:j=k
   ·subst rm;exact Rk
   ·rw [getD_set_ne true rm]at mV;exact mV
  ·rw [Array.setIfInBounds_comm _ _ om];exact iJ.alike eK dF (abm d2 d5).symm abv
structure Cq(n k:Nat)(listed:Array Bool):Prop where
 size:listed.size=n
 at':∀j,j<n→listed[j]? = some (decide (j<k))
def Cq.set{n k:Nat}{listed:Array Bool}(h:Cq n k listed):Cq n (k+1) (listed.setIfInBounds k true):=by
 refine⟨by simp [h.size],λj hj=>?_⟩
 by_cases rm:k=j
 ·subst rm;simp [h.size,hj]
 ·rw [Array.getElem?_setIfInBounds_ne rm,h.at' j hj]
  congr 1
  have:(j<k)=(j<k+1):=by apply propext;omega
  simp [this]
def abz(o:Oper)(k:Nat):Bool:=o.after.toList.all λe=>!Region.binds .any e||Nat.blt e.on k
def Cr(ops:List Oper)(E:ek)(k:Nat):Nat→List (Oper×ek)→Bool
 |_,[]=>true
 |j,(_,cZ)::l=>(yl E cZ||waits ops k 3 j)&&Cr ops E k (j+1) l
def Cs(ops:List Oper):Nat→List (Oper×ek)→Bool
 |_,[]=>true
 |k,(o,E)::l=>abz o k&&Cr ops E k (k+1) l&&Cs ops (k+1) l
def Ct(b4:f6)(tt:dw)(ops:List Oper)(Fi:c_→Prop):List (Oper×ek)→c_→Prop
 |[],g=>Fi g
 |(o,E)::l,g=>Can b4 tt ops o E g∧Ct b4 tt ops Fi l (ep E g)
def Rn{ops:List Oper}{E:ek}{k:Nat}:∀{l:List (Oper×ek)} {n:Nat},Cr ops E k n l=true→∀(j:Nat) o cZ,l[j]? = some (o,cZ)→waits ops k 3 (n+j)=false→yl E cZ=true
 |[],_,_,j,o,cZ,hj,_=>by simp at hj
 |(dD,a6)::l,n,h,j,o,cZ,hj,nw=>by
  simp only [Cr,Bool.and_eq_true,Bool.or_eq_true]at h;cases j with
  |zero=>
   simp at hj
   obtain⟨rfl,rfl⟩:=hj;exact h.1.resolve_right (by rw [Nat.add_zero]at nw;rw [nw];simp)
  |succ j=>exact Rn h.2 j o cZ (by simpa using hj) (by rwa [show n+1+j=n+(j+1)by omega])
def iJ.text(eK:∀(i:Nat) o E,opsA[i]? = some o→cz[i]? = some E→hL opsA.toList o E=true)(dF:∀g1 g2,Alike g1 g2→Fi g1→Fi g2):
 ∀(l:List (Oper×ek)) (k:Nat) (listed:Array Bool) (g:c_),(∀j:Nat,(l[j]?).map (·.1)=opsA[k+j]?)→(∀j:Nat,(l[j]?).map (·.2)=cz[k+j]?)→Cq opsA.size k listed→mU opsA listed→Cs opsA.toList k l=true→Ct b4 tt opsA.toList Fi l g→
  iJ b4 tt opsA cz Fi l.length listed g
 |[],k,listed,g,Z,_,mc,_,_,hc=>by
  refine⟨?_,hc⟩
  have hk:opsA[k]? = none:=by have:=Z 0;simpa using this.symm
  have sN:opsA.size≤k:=by simpa using hk
  refine List.eq_nil_iff_forall_not_mem.2 λj hj=>?_
  obtain⟨hu,o,ax,_⟩:=mem_ready.1 hj;have c8:j<opsA.size:=(Array.getElem?_eq_some_iff.1 ax).1;have:=mc.at' j c8
  rw [Array.getD_eq_getD_getElem?,this]at hu;have rm:j<k:=by omega
  simp [rm]at hu
 |(o,E)::l,k,listed,g,Z,ae,mc,hf,hx,hc=>by
  have ax:opsA[k]? = some o:=by have:=Z 0;simpa using this.symm
  have cw:cz[k]? = some E:=by have:=ae 0;simpa using this.symm
  have c8:k<opsA.size:=(Array.getElem?_eq_some_iff.1 ax).1;simp only [Cs,Bool.and_eq_true]at hx;obtain⟨⟨ak,ba⟩,hx⟩:=hx
  have Ro:k∈Region.ready .any opsA listed:=by
   refine mem_ready.2 ⟨?_,o,ax,λe he hb=>?_⟩
   ·rw [Array.getD_eq_getD_getElem?,mc.at' k c8];simp
   ·have:=List.all_eq_true.1 ak e (by simpa using he)
    simp only [hb,Bool.not_true,Bool.false_or,Nat.blt_eq]at this;rw [Array.getD_eq_getD_getElem?,mc.at' e.on (by omega)]
    simp [this]
  refine iJ.first eK dF ax cw l.length listed g ?_ hf Ro hc.1 (iJ.text eK dF l (k+1) _ _ (λj=>?_) (λj=>?_) mc.set (hf.set Ro) hx hc.2)
  ·intro j oo lh oq rl ea mV nw;have sB:j<opsA.size:=(Array.getElem?_eq_some_iff.1 oq).1
   have rm:k<j:=by
    rw [Array.getD_eq_getD_getElem?,mc.at' j sB]at mV;simp at mV
    omega
   have e1:=Z (j-k);have e2:=ae (j-k);have Rp:k+(j-k)=j:=by omega
   rw [Rp,oq]at e1;rw [Rp,rl]at e2
   have e3:(((o,E)::l)[j-k]?)=l[j-k-1]? := by
    have:j-k=(j-k-1)+1:=by omega
    rw [this];simp
   rw [e3]at e1 e2;cases af:l[j-k-1]? with
   |none=>rw [af]at e1;simp at e1
   |some x=>
    rw [af]at e1 e2;simp at e1 e2
    obtain⟨fc,gu⟩:=x;simp only at e1 e2
    subst e1;subst e2;exact Rn ba _ _ _ af (by rwa [show k+1+(j-k-1)=j by omega])
  ·have:=Z (j+1);simpa [Nat.add_assoc,Nat.add_comm 1 j]using this
  ·have:=ae (j+1);simpa [Nat.add_assoc,Nat.add_comm 1 j]using this
end
def pr(N:Nat)(E:ek):Bool:=
 match E.dst with
 |none=>E.p.isEmpty
 |some t=>Nat.blt t N&&match E.p with
  |[]=>true
  |p=>E.f.e.isSome&&E.f.hs.isEmpty&&E.f.gJ.isEmpty&&p.all (λy=>!Nat.beq y.1 t)&&Nat.beq E.f.eY 0
def yn(ops:List Oper)(i:Nat)(t:Nat):Nat→List ek→Bool
 |_,[]=>true
 |j,cZ::l=>(match cZ.p with
  |[]=>true
  |p=>(match cZ.dst with |some iV=>Nat.beq iV t |none=>false)||p.all (λy=>!Nat.beq y.1 t)||waits ops i 3 j)&&yn ops i t (j+1) l
def Cu(ops:List Oper)(cz:List ek):Nat→List ek→Bool
 |_,[]=>true
 |i,E::l=>(match E.dst with
  |none=>true
  |some t=>yn ops i t 0 cz)&&Cu ops cz (i+1) l
def yo(ops:List Oper)(cz:List ek):Bool:=Cu ops cz 0 cz
def Rq{ops:List Oper}{i t:Nat}:∀{l:List ek} {k:Nat},yn ops i t k l=true→∀(j:Nat) (cZ:ek),l[j]? = some cZ→cZ.p≠[]→
 ((match cZ.dst with|some iV=>Nat.beq iV t|none=>false)||cZ.p.all (λy=>!Nat.beq y.1 t))=true∨waits ops i 3 (k+j)=true
 |[],_,_,j,cZ,h,_=>by simp at h
 |a6::l,k,h,j,cZ,hj,ea=>by
  simp only [yn,Bool.and_eq_true]at h;cases j with
  |zero=>
   simp at hj
   subst hj;have Z:=h.1;split at Z
   ·rename_i n9;exact absurd n9 ea
   ·rw [Bool.or_eq_true]at Z;exact Z
  |succ j=>
   have:=Rq h.2 j cZ (by simpa using hj) ea
   rwa [show k+(j+1)=k+1+j by omega]
def Rr{ops:List Oper}{cz:List ek}:∀{l:List ek} {k:Nat},Cu ops cz k l=true→∀(i:Nat) (E:ek) (t:Nat),l[i]? = some E→E.dst=some t→yn ops (k+i) t 0 cz=true
 |[],_,_,i,E,t,h,_=>by simp at h
 |a6::l,k,h,i,E,t,hi,hd=>by
  simp only [Cu,Bool.and_eq_true]at h;cases i with
  |zero=>
   simp at hi
   subst hi;have Z:=h.1;rw [hd]at Z;exact Z
  |succ i=>
   have:=Rr h.2 i E t (by simpa using hi) hd
   rwa [show k+(i+1)=k+1+i by omega]
section
variable {P:Program} {K:Ctx} {N:Nat} {M:Mem} {β:Nat→Option Nat} {tt:dw} {opsA:Array Oper} {cz:List ek} {g:c_} {w:World} {tmps:Array Value}
def rn(cz:List ek)(listed:Array Bool)(g:c_):Prop:=∀x,x∈g.bU→∃(i:Nat) (E:ek),cz[i]? = some E∧listed.getD i false=true∧E.dst=some x.1∧E.p=x.2.1∧E.p≠[]
def Cv{α:Type}:∀{l:List (Nat×α)} {t:Nat} {x:Nat×α},x∈del l t→x∈l
 |[],_,_,h=>by simp [del]at h
 |(j,y)::l,t,x,h=>by
  simp only [del]at h;rw [Bool.cond_eq_ite]at h;split at h
  ·exact List.mem_cons_of_mem _ (Cv h)
  ·rcases List.mem_cons.1 h with rfl|h
   ·simp
   ·exact List.mem_cons_of_mem _ (Cv h)
def rn.ap{listed:Array Bool}{i:Nat}{E:ek}(cw:cz[i]? = some E)(hi:i<listed.size)(h:rn cz listed g):rn cz (listed.setIfInBounds i true) (ep E g):=by
 have de:rn cz (listed.setIfInBounds i true) g:=λx hx=>by
  obtain⟨j,cZ,Z,ae,ar⟩:=h x hx;exact⟨j,cZ,Z,getD_set_true ae,ar⟩
 intro x hx;unfold ep at hx;cases hd:E.dst with
 |none=>simp only [hd]at hx;exact de x hx
 |some t=>
  simp only [hd]at hx;cases hp:E.p with
  |nil=>simp only [hp]at hx;exact de x (Cv hx)
  |cons y p=>
   simp only [hp]at hx;cases he:E.f.e with
   |none=>simp only [he]at hx;exact de x hx
   |some e=>
    simp only [he]at hx;rcases List.mem_cons.1 hx with rfl|hx
    ·exact⟨i,E,cw,by simp [hi],by simp [hd],by simp [hp],by simp [hp]⟩
    ·exact de x (Cv hx)
def abA{listed:Array Bool}{i:Nat}{E:ek}{t:Nat}(jA:yo opsA.toList cz=true)(cw:cz[i]? = some E)(hd:E.dst=some t)(hc:mU opsA listed)(hi:listed.getD i false=false)(h:rn cz listed g):uJ g.bU t=true:=by
 unfold uJ;rw [List.all_eq_true];intro x hx;obtain⟨j,cZ,qp,af,jw,u_,ea⟩:=h x hx;have Z:=Rr jA i E t cw hd;rw [Nat.zero_add]at Z;rcases Rq Z j cZ qp ea with ae|ae
 ·rw [jw,u_]at ae;exact ae
 ·rw [Nat.zero_add]at ae;have:=Co hc ae af
  rw [hi]at this;cases this
def Rs{listed:Array Bool}{b4:f6}{o:Oper}{E:ek}{i:Nat}(ir:E.gl=0)(i8:Is b4 tt opsA.toList o E g)(cw:cz[i]? = some E)(eK:hL opsA.toList o E=true)(bz:pr N E=true)(jA:yo opsA.toList cz=true)(hc:mU opsA listed)(hi:listed.getD i false=false)(lF:rn cz listed g):
 mI b4 tt N opsA.toList {g with rs:=E.rs,aZ:=[]} o=some (.go {ep E g with rs:=[],aZ:=E.f.aZ.map (under g E.p)}):=by
 obtain⟨_,_,ee,dx⟩:=Cn eK;have hg:n7 opsA.toList {g with rs:=E.rs,aZ:=[]} o=some E.p:=i8.Ck
 have hs:step1 b4 tt opsA.toList {g with rs:=E.rs,aZ:=[]} E.p o=some (.go E.f):=by
  have dH:=i8.st;rw [ir]at dH;refine Eq.trans ?_ dH;exact In (g1:={g with rs:=E.rs,aZ:=[]}) (g2:={g with rs:=E.rs}) (λ_ _ _ _=>⟨rfl,rfl⟩) rfl rfl (λ_=>rfl) (λ_ _=>rfl)
 have hu:∀q,under {g with rs:=E.rs,aZ:=[]} E.p q=under g E.p q:=λq=>Cj λ_ _=>⟨rfl,rfl⟩
 unfold mI;rw [hg]
 dsimp only
 rw [hs]
 dsimp only
 rw [←ee];have cj:E.f.aZ.map (under {g with rs:=E.rs,aZ:=[]} E.p)++[]=E.f.aZ.map (under g E.p):=by rw [List.append_nil];exact List.map_congr_left λq _=>hu q
 rw [cj,dx];unfold pr at bz;unfold ep;cases hd:E.dst with
 |none=>
  rw [hd]at bz
  dsimp only at bz ⊢
  rw [bz];rfl
 |some t=>
  rw [hd]at bz;have ba:=abA jA cw hd hc hi lF;simp only [Bool.and_eq_true]at bz;obtain⟨c8,bz⟩:=bz
  dsimp only
  rw [c8,ba];cases hp:E.p with
  |nil=>rfl
  |cons x p=>
   rw [hp]at bz;simp only [Bool.and_eq_true,List.isEmpty_iff,Nat.beq_eq,Option.isSome_iff_exists]at bz;obtain⟨⟨⟨⟨⟨e,he⟩,bx⟩,hc⟩,s0⟩,hn⟩:=bz;simp only [he,bx,hc,hn,s0];rfl
def iJ.sound(cu:fb P tt=true)(ir:∀(i:Nat) E,cz[i]? = some E→E.gl=0)(eK:∀(i:Nat) o E,opsA[i]? = some o→cz[i]? = some E→hL opsA.toList o E=true)(bz:∀(i:Nat) E,cz[i]? = some E→pr N E=true)(jA:yo opsA.toList cz=true){Fi:c_→Prop}{Q:Exit→Act→World→Prop}
 (d_:∀g fw w' M' β',Fi g→fx P K N M' β' g fw w'→Q .normal ⟨fw,K.ds⟩ w'):
 ∀(n:Nat) (listed:Array Bool) (g:c_) (tmps:Array Value) (w:World) (M:Mem) (β:Nat→Option Nat),iJ (iZ P) tt opsA cz Fi n listed g→listed.size=opsA.size→mU opsA listed→rn cz listed g→fx P K N M β g tmps w→wpAny P .any opsA Q n listed ⟨tmps,K.ds⟩ w
 | 0,_,g,tmps,w,M,β,h,_,_,_,hs=>⟨h.1,d_ g tmps w M β h.2 hs⟩
 |n+1,listed,g,tmps,w,M,β,h,ej,hf,lF,hs=>by
  refine⟨λak=>d_ g tmps w M β (h.1 ak) hs,λi hi=>?_⟩
  obtain⟨o,E,ax,cw,Cw,hn⟩:=h.2 i hi;have i8:=Cw.resolve_left (by rw [ir i E cw];simp)
  have c8:i<listed.size:=by rw [ej];exact(Array.getElem?_eq_some_iff.1 ax).1
  have mV:listed.getD i false=false:=by have:=(mem_ready.1 hi).1;simpa [Array.getD_eq_getD_getElem?,c8]using this
  have It:=Rs (N:=N) (ir i E cw) i8 cw (eK i o E ax cw) (bz i E cw) jA hf mV lF;have fI:fx P K N M β {g with rs:=E.rs,aZ:=[]} tmps w:=⟨hs.bo,hs.size,hs.fresh,hs.cond⟩;unfold wpOp;simp only [ax];refine Ib fI cu (opsA:=opsA) rfl It (λq aB=>?_) (λfw w' M' β' de=>?_)
  ·obtain⟨q',od,rfl⟩:=List.mem_map.1 aB;exact i8.aZ q' od
  ·exact iJ.sound cu ir eK bz jA d_ n _ (ep E g) fw w' M' β' hn (by simpa using ej) (hf.set hi) (lF.ap cw c8) ⟨de.bo,de.size,de.fresh,de.cond⟩
end
def findD(b4:f6)(tt:dw)(ops:List Oper)(g:c_)(o:Oper)(rs:List e'):Option ek:=
 match n7 ops g o with
 |none=>none
 |some p=>match step1 b4 tt ops {g with rs:=rs} p o with
  |some (.go f)=>some {dst:=o.dst,p,f,jl:=h_ tt g p o,mb:=ol ops o++p.map (·.1),oi:=pp o,rs,mS:=sZ o rs}
  |_=>none
def s1(b4:f6)(tt:dw)(ops:List Oper):List Oper→List (List e')→c_→Option (List ek×c_×List Prop)
 |[],[],g=>some ([],g,[])
 |o::l,rs::i',g=>match findD b4 tt ops g o rs with
  |some E=>match s1 b4 tt ops l i' (ep E g) with
   |some (cz,eR,aZ)=>some (E::cz,eR,aZ++E.f.aZ.map (under g E.p))
   |none=>none
  |none=>none
 |_,_,_=>none
def kB:List Oper→List ek→List (Oper×ek)
 |o::l,E::m=>(o,E)::kB l m
 |_,_=>[]
def Cx(N:Nat)(ops:List Oper)(cz:List ek):Bool:=
 (kB ops cz).all (λx=>hL ops x.1 x.2)&&cz.all (pr N)&&yo ops cz&&Cs ops 0 (kB ops cz)
section
variable {b4:f6} {tt:dw} {ops:List Oper}
def Rt{Fi:c_→Prop}:∀{l:List Oper} {i':List (List e')} {g:c_} {cz:List ek} {eR:c_} {aZ:List Prop},s1 b4 tt ops l i' g=some (cz,eR,aZ)→(∀q,q∈aZ→q)→Fi eR→
 cz.length=l.length∧(∀E,E∈cz→E.gl=0)∧Ct b4 tt ops Fi (kB l cz) g
 |[],[],g,cz,eR,aZ,h,_,dF=>by
  simp only [s1,Option.some.injEq,Prod.mk.injEq]at h;obtain⟨rfl,rfl,rfl⟩:=h;exact⟨rfl,by simp,dF⟩
 |o::l,rs::i',g,cz,eR,aZ,h,cj,dF=>by
  simp only [s1]at h;split at h
  case h_2=>cases h
  rename_i E cw;split at h
  case h_2=>cases h
  rename_i s2 g1 abB Z;simp only [Option.some.injEq,Prod.mk.injEq]at h;obtain⟨rfl,rfl,rfl⟩:=h;obtain⟨ae,abC,ar⟩:=Rt Z (λq aB=>cj q (List.mem_append_left _ aB)) dF
  have abD:E.gl=0:=by
   unfold findD at cw;split at cw
   ·cases cw
   split at cw
   ·cases cw;rfl
   ·cases cw
  refine⟨by simp [ae],λcZ qp=>?_,?_,ar⟩
  ·rcases List.mem_cons.1 qp with rfl|qp
   ·exact abD
   ·exact abC cZ qp
  have Iu:∀q,q∈E.f.aZ→under g E.p q:=λq aB=>cj _ (List.mem_append_right _ (List.mem_map.2 ⟨q,aB,rfl⟩))
  unfold findD at cw;split at cw
  ·cases cw
  rename_i p hp;split at cw
  ·rename_i f ba;cases cw;exact .inr ⟨hp,ba,Iu,λ_ h=>h,λh=>by cases h⟩
  ·cases cw
 |[],_::_,_,_,_,_,h,_,_=>by simp [s1]at h
 |_::_,[],_,_,_,_,h,_,_=>by simp [s1]at h
def s3:∀{l:List Oper} {m:List ek},m.length=l.length→∀(j:Nat),((kB l m)[j]?).map (·.1)=l[j]? ∧ ((kB l m)[j]?).map (·.2)=m[j]?
 |[],[],_,j=>by simp [kB]
 |o::l,E::m,h,j=>by
  cases j with
  |zero=>simp [kB]
  |succ j=>simpa [kB]using s3 (by simpa using h) j
 |[],_::_,h,_=>by simp at h
 |_::_,[],h,_=>by simp at h
def Iv:∀{l:List Oper} {m:List ek},m.length=l.length→(kB l m).length=l.length
 |[],[],_=>rfl
 |_::l,_::m,h=>by simp [kB,Iv (l:=l) (m:=m) (by simpa using h)]
 |[],_::_,h=>by simp at h
 |_::_,[],h=>by simp at h
end
section
variable {P:Program} {N E:Nat} {st:aI} {tt:dw}
def Alike.bo{K:Ctx}{M:Mem}{β:Nat→Option Nat}{g1 g2:c_}{tmps:Array Value}{w:World}(ha:Alike g1 g2)(h:bH P K M β {env:=g1.env,H:=g1.H,aW:=g1.aW} tmps w):bH P K M β {env:=g2.env,H:=g2.H,aW:=g2.aW} tmps w:=by
 have fQ:∀l,({env:=g2.env,H:=g2.H,aW:=g2.aW}:aI).at l=({env:=g1.env,H:=g1.H,aW:=g1.aW}:aI).at l:=by
  intro l;cases l with
  |slot s=>exact(ha.slot s).1.symm
  |cell r i=>simp only [aI.at];rw [←ha.box r]
 have hb:∀r,look g2.H r=look g1.H r:=λr=>(ha.box r).symm
 constructor
 ·intro l e af;rw [fQ]at af;exact h.e_ l e af
 ·intro l e T af;rw [fQ]at af;exact h.own l e T af
 ·intro l cD e bf T T' b af aS dr;rw [fQ]at af dr;exact h.uniq l cD e bf T T' b af aS dr
 ·intro l e T b r cs af aS l7 ak;rw [fQ]at af;exact h.unbox l e T b r cs af aS l7 (by rw [←hb r];exact ak)
 ·intro r cs ak;exact h.box r cs (by rw [←hb r];exact ak)
 ·intro r dl b cs cs' ak fG;exact h.inj r dl b cs cs' (by rw [←hb r];exact ak) (by rw [←hb dl];exact fG)
 ·intro r b ak;exact(by have:=h.lt r b ak;simpa [ha.aW]using this)
 ·exact h.mem
 ·exact h.m0
 ·exact h.frame
 ·exact h.h4
 ·exact h.iF
 ·exact h.gZ
def bH.drew{K:Ctx}{M:Mem}{β:Nat→Option Nat}{tmps:Array Value}{w:World}(h:bH P K M β st tmps w)(k:Nat):bH P K M β st tmps {w with drawn:=k}:=
 ⟨h.e_,h.own,h.uniq,h.unbox,h.box,h.inj,h.lt,h.mem,h.m0,h.frame,h.h4,h.iF,h.gZ⟩
end
def a'.scope{P:Program}{N E:Nat}{c:Code}{Q:cm→aI→Prop}{st:aI}(h:a' P N E c Q st):a' P N E (.scope c) Q st:=by
 intro K ey a w hs;refine wp_scope_straight (wp_mono (h K ey a w hs) ?_)
 rintro e dX w' ⟨fs,bW,Z,ae⟩
 cases fs with
 |normal=>obtain⟨rfl,ar⟩:=Z;exact⟨.normal,bW,⟨rfl,ar⟩,ae⟩
 |exit i=>obtain⟨rfl,ar⟩:=Z;exact⟨.exit i,bW,⟨rfl,ar⟩,ae⟩
 |ret=>obtain⟨rfl,ar⟩:=Z;exact⟨.ret,bW,⟨rfl,ar⟩,ae⟩
 |bd x=>obtain⟨v,rfl,ar⟩:=Z;exact⟨.bd x,bW,⟨v,rfl,ar⟩,ae⟩
def hA.on{α β du:Type}(x:α ⊕ β)(f:α→du)(g:β→du):du:=
 match x with
 |.inl a=>f a
 |.inr b=>g b
def Cy.on{α β du:Type}(x:α×β)(f:α→β→du):du:=f x.1 x.2
def Cz(P:Program)(w:World):Prop:=(∀g,g∈G0 P→∃fr,w.cell? ⟨g,0,none⟩=some fr∧(fr = .nilIface∨∃b8 p_,fr = .iface b8 p_))∧
 ∀ g, P.globalNamed "internal/strconv.uint64pow10" = some g → ∃ t jR, w.heap[g]? = some (.cells G1 t jR)
section
variable {P:Program}
def bH.abE{K:Ctx}{M:Mem}{β:Nat→Option Nat}{st:aI}{tmps:Array Value}{w:World}(h:bH P K M β st tmps w):Cz P w:=⟨λg hg=>by
 obtain⟨cs,t,jR,fr,Z,ae,ar⟩:=h.iF.1 g hg;refine⟨fr,?_,ar⟩
 have:=(h.frame g _ Z).1
 unfold World.cell?;rw [this];exact ae,λg hg=>by
 obtain⟨t,jR,Z⟩:=h.iF.2 g hg;exact⟨t,jR,(h.frame g _ Z).1⟩⟩
def Ru {f : FuncId} {args : List D} {vsOf : World → List Value → Prop} {d : D} {fd : Func} (lI : P.funcs[f]? = some fd) (hb : fd.body.isSome = true) (hn : decide (fd.name = "runtime.NumGoroutine") = false)
 (eJ:∀(w:World) (M:Mem) (β:Nat→Option Nat) (vs:List Value),(∀b o v,M b o=some v→w.cell? ⟨b,o,none⟩=some v)→vs.length=args.length→(∀(i:Nat) v a,vs[i]? = some v→args[i]? = some a→ct M β v a)→vsOf w vs)
 (sR:∀(vs:List Value) (w:World),vsOf w vs→Cz P w→Calls P f ⟨vs⟩ w λe w'=>∃v,e = .returned v∧(∀M β,ct M β v d)∧(∀(b:Nat) (aZ:Obj),w.heap[b]? = some aZ→w'.heap[b]? = some aZ)∧(w'.os,w'.output)=(w.os,w.output)):
 gk P f args [] [] (.ret d none) []:=by
 refine⟨⟨fd,lI,hb,by simpa using hn⟩,λK w vs M β hlen hs gE=>?_⟩
 have ay:vsOf w vs:=eJ w M β vs hs.mem hlen λi v a hi ha=>by
  have Z:=hs.e_ (.slot i) ⟨a,none⟩ (by
   simp only [aI.at,gU,l',xW,ha,Option.map_some,look])
  have ae:cp (⟨vs⟩:Array Value) w β (.slot i)=v:=by
   simp [cp,hi]
  rw [ae]at Z;exact Z
 refine(sR vs w ay hs.abE).mono ?_
 rintro e w' ⟨v,rfl,f9,so,np⟩
 refine⟨.ret d none,[],v,M,β,⟨rfl,rfl⟩,rfl,?_⟩
 have hy:∀b o v,w.cell? ⟨b,o,none⟩=some v→w'.cell? ⟨b,o,none⟩=some v:=by
  intro b o v h;unfold World.cell? at h ⊢;cases hb:w.heap[b]? with
  |none=>simp [hb]at h
  |some aZ=>rw [so b aZ hb];rw [hb]at h;exact h
 constructor
 ·intro l e af;cases l with
  |slot s=>
   simp only [aI.at,hJ,dP]at af;split at af
   ·rename_i h0;subst h0;cases af;exact f9 M β
   ·simp [look]at af
  |cell r i=>simp [aI.at,cK,look]at af
 ·intro l e T af aS;cases l with
  |slot s=>
   simp only [aI.at,hJ,dP]at af;split at af
   ·cases af;cases aS
   ·simp [look]at af
  |cell r i=>simp [aI.at,cK,look]at af
 ·intro l cD e bf T T' b af aS;cases l with
  |slot s=>
   simp only [aI.at,hJ,dP]at af;split at af
   ·cases af;cases aS
   ·simp [look]at af
  |cell r i=>simp [aI.at,cK,look]at af
 ·intro l e T b r cs af aS hb ak;simp [cK,look]at ak
 ·intro r cs ak;simp [cK,look]at ak
 ·intro r dl b cs cs' ak;simp [cK,look]at ak
 ·exact hs.lt
 ·exact λb o v h=>hy b o v (hs.mem b o v h)
 ·exact hs.m0
 ·exact λb aZ h=>⟨so b aZ (hs.frame b aZ h).1,(hs.frame b aZ h).2⟩
 ·exact hs.h4
 ·exact hs.iF
 ·exact np.trans hs.gZ
def s4 {f : FuncId} {args : List D} {vsOf : List Value → Prop} {d : D} {fd : Func} (lI : P.funcs[f]? = some fd) (hb : fd.body.isSome = true) (hn : decide (fd.name = "runtime.NumGoroutine") = false)
 (eJ:∀(M:Mem) (β:Nat→Option Nat) (vs:List Value),vs.length=args.length→(∀(i:Nat) v a,vs[i]? = some v→args[i]? = some a→ct M β v a)→vsOf vs)
 (sR:∀(vs:List Value) (w:World),vsOf vs→Cz P w→Calls P f ⟨vs⟩ w λe w'=>∃v,e = .returned v∧(∀M β,ct M β v d)∧(∀(b:Nat) (aZ:Obj),w.heap[b]? = some aZ→w'.heap[b]? = some aZ)∧(w'.os,w'.output)=(w.os,w.output)):
 gk P f args [] [] (.ret d none) []:=
 Ru (vsOf:=λ_ vs=>vsOf vs) lI hb hn (λ_ M β vs _=>eJ M β vs) sR
end
def s5(b4:f6)(tt:dw)(N:Nat)(ops:List Oper)(rs:List e')(st:aI):Option Fin:=
 match qW b4 tt N ops ops {env:=st.env,bU:=[],H:=st.H,aW:=st.aW,rs,aZ:=[]} with
 |some (.go g)=>match g.rs with
  |[]=>some (.go {env:=g.env,H:=g.H,aW:=g.aW} g.aZ)
  |_=>none
 |some (.bd x st aZ)=>some (.bd x st aZ)
 |none=>none
def s6:List Oper→Nat→List (Nat×Nat)
 |[],_=>[]
 |o::l,n=>match pp o,o.dst with
  |true,some t=>(t,n)::s6 l (n+1)
  |_,_=>s6 l n
def CA(ops:List Oper)(st:aI):c_:=
 {env:=st.env,bU:=[],H:=st.H,aW:=st.aW+(s6 ops st.aW).length,rs:=[],aZ:=[],ids:=s6 ops st.aW}
def CB(b4:f6)(tt:dw)(N:Nat)(ops:List Oper)(i':List (List e'))(st:aI):Option Fin:=
 match s1 b4 tt ops ops i' (CA ops st) with
 |some (cz,g,aZ)=>bif Cx N ops cz then some (.go {env:=g.env,H:=g.H,aW:=g.aW} aZ)else none
 |none=>none
def i_:Option Fin→aI
 |some (.go st _)=>st
 |some (.bd _ st _)=>st
 |none=>{env:=[],H:=[],aW:=0}
def li:Option Fin→Option (List Prop)
 |some (.go _ aZ)=>some aZ
 |_=>none
def Iw:Option Fin→Option (V×List Prop)
 |some (.bd x _ aZ)=>some (x,aZ)
 |_=>none
def spread:Nat→Nat→List (Nat×List e')→List (List e')
 | 0,_,_=>[]
 |n+1,i,l=>(look l i).getD []::spread n (i+1) l
def CC:∀(l:List Oper) (n:Nat) (x:Nat×Nat),x∈s6 l n→n≤x.2∧True
 |[],n,x,h=>by simp [s6]at h
 |o::l,n,x,h=>by
  unfold s6 at h;split at h
  ·rcases List.mem_cons.1 h with h|h
   ·subst h;exact⟨Nat.le_refl _,trivial⟩
   ·have:=(CC l (n+1) x h).1;exact⟨by omega,trivial⟩
  ·exact CC l n x h
def bH.up{P:Program}{K:Ctx}{M:Mem}{β:Nat→Option Nat}{st:aI}{tmps:Array Value}{w:World}(h:bH P K M β st tmps w)(k:Nat):bH P K M β {env:=st.env,H:=st.H,aW:=st.aW+k} tmps w:=
 ⟨h.e_,h.own,h.uniq,h.unbox,h.box,h.inj,(λr b hb=>Nat.lt_of_lt_of_le (h.lt r b hb) (Nat.le_add_right _ _)),h.mem,h.m0,h.frame,h.h4,h.iF,h.gZ⟩
section
variable {P:Program} {N E:Nat} {st:aI} {tt:dw}
def a'.rg{id:Nat}{opsA:Array Oper}{Q:cm→aI→Prop}(cu:fb P tt=true)(rs:List e'){cy:List Prop}(ak:li (s5 (iZ P) tt N opsA.toList rs st)=some cy)(cj:j_ cy)
 (d_:Q .normal (i_ (s5 (iZ P) tt N opsA.toList rs st))):a' P N E (.region id opsA false) Q st:=by
 rintro K ey a w ⟨_,hd,ej,M,β,cG⟩
 obtain⟨tmps,ds⟩:=a;simp only at hd ej
 subst hd;have yp:fx P K N M β {env:=st.env,bU:=[],H:=st.H,aW:=st.aW,rs:=rs,aZ:=[]} tmps w:=⟨cG,ej,(λ_ _ h=>by simp [look]at h),λ_ _ _ h=>by simp [look]at h⟩
 refine wp_region ?_;unfold s5 at ak d_;have hlen:List.range opsA.size=List.range' 0 opsA.toList.length:=by rw [List.range_eq_range'];simp
 rw [hlen];split at ak
 ·rename_i g eS;split at ak
  case h_2=>cases ak
  rename_i eD;simp only [li,Option.some.injEq]at ak;subst ak;rw [eS]at d_;simp only [eD,i_]at d_;refine Ie cu rfl (fin:=.go g) cj.mem ?_ opsA.toList 0 _ tmps w M β (λj=>by simp) yp eS
  intro fw w' M' β' de;exact⟨.normal,_,⟨rfl,rfl,de.size,M',β',de.bo⟩,d_⟩
 ·cases ak
 ·cases ak
def a'.Ix{id:Nat}{opsA:Array Oper}{Q:cm→aI→Prop}(cu:fb P tt=true)(rs:List e'){x:V}{cy:List Prop}(ak:Iw (s5 (iZ P) tt N opsA.toList rs st)=some (x,cy))(cj:j_ cy)
 (d_:Q (.bd x) (i_ (s5 (iZ P) tt N opsA.toList rs st))):a' P N E (.region id opsA false) Q st:=by
 rintro K ey a w ⟨_,hd,ej,M,β,cG⟩
 obtain⟨tmps,ds⟩:=a;simp only at hd ej
 subst hd;have yp:fx P K N M β {env:=st.env,bU:=[],H:=st.H,aW:=st.aW,rs:=rs,aZ:=[]} tmps w:=⟨cG,ej,(λ_ _ h=>by simp [look]at h),λ_ _ _ h=>by simp [look]at h⟩
 refine wp_region ?_;unfold s5 at ak d_;have hlen:List.range opsA.size=List.range' 0 opsA.toList.length:=by rw [List.range_eq_range'];simp
 rw [hlen];split at ak
 ·split at ak<;>cases ak
 ·rename_i y bW aZ eS;simp only [Iw,Option.some.injEq,Prod.mk.injEq]at ak;obtain⟨rfl,rfl⟩:=ak;rw [eS]at d_;refine Ie cu rfl (fin:=.bd y bW aZ) cj.mem ?_ opsA.toList 0 _ tmps w M β (λj=>by simp) yp eS
  intro e dX w' de;exact⟨.bd y,_,de,d_⟩
 ·cases ak
def a'.CD{id:Nat}{opsA:Array Oper}{Q:cm→aI→Prop}(cu:fb P tt=true)(hm:P.follows .mixedOrders=true)(i':List (Nat×List e')){cy:List Prop}(ak:li (CB (iZ P) tt N opsA.toList (spread opsA.toList.length 0 i') st)=some cy)(cj:j_ cy)
 (d_:Q .normal (i_ (CB (iZ P) tt N opsA.toList (spread opsA.toList.length 0 i') st))):a' P N E (.region id opsA true) Q st:=by
 rintro K ey a w ⟨_,hd,ej,M,β,cG⟩
 obtain⟨tmps,ds⟩:=a;simp only at hd ej
 subst hd;refine wp_region_any hm ?_;unfold CB at ak d_;split at ak
 case h_2=>cases ak
 rename_i cz g rf eS;rw [eS]at d_
 dsimp only at d_
 rw [Bool.cond_eq_ite]at ak d_;split at ak
 case isFalse=>cases ak
 rename_i hc;rw [if_pos hc]at d_;simp only [li,Option.some.injEq]at ak;subst ak;simp only [i_]at d_;obtain⟨hlen,ir,Iy⟩:=Rt (Fi:=λg1=>Alike g g1) eS cj.mem Alike.refl
 simp only [Cx,Bool.and_eq_true]at hc;obtain⟨⟨⟨c1,c2⟩,c3⟩,c4⟩:=hc
 have eK:∀(i:Nat) o E,opsA[i]? = some o→cz[i]? = some E→hL opsA.toList o E=true:=by
  intro i o E ax cw;obtain⟨jZ,z2⟩:=s3 hlen i;have jS:opsA.toList[i]? = some o:=by simpa using ax
  rw [jS]at jZ;rw [cw]at z2;cases dE:(kB opsA.toList cz)[i]? with
  |none=>rw [dE]at jZ;simp at jZ
  |some x=>
   rw [dE]at jZ z2;simp at jZ z2
   subst jZ;subst z2;exact List.all_eq_true.1 c1 x (List.mem_of_getElem? dE)
 have bz:∀(i:Nat) E,cz[i]? = some E→pr N E=true:=λi E cw=>List.all_eq_true.1 c2 E (List.mem_of_getElem? cw)
 have yq:mU opsA (Array.replicate opsA.size false):=λj o ax hj=>by have c8:j<opsA.size:=(Array.getElem?_eq_some_iff.1 ax).1;simp [Array.getD_eq_getD_getElem?,c8]at hj
 have yr:=iJ.text eK (λg1 g2 f_ Z=>Alike.trans Z f_) (kB opsA.toList cz) 0 (Array.replicate opsA.size false) _ (λj=>by have:=(s3 hlen j).1;simpa using this) (λj=>by have:=(s3 hlen j).2;simpa using this)
  ⟨by simp,λj hj=>by simp [hj]⟩ yq c4 Iy
 have sy:(kB opsA.toList cz).length=opsA.size:=by rw [Iv hlen];simp
 rw [sy]at yr;refine iJ.sound (K:=K) cu (λi E cw=>ir E (List.mem_of_getElem? cw)) eK bz c3 ?_ _ _ _ tmps _ M β yr (by simp) yq (λx hx=>by cases hx) ⟨(cG.drew _).up _,ej,(λs id h _ b hb=>by have Z:=cG.lt _ _ hb;have ae:=(CC _ _ _ (qb h)).1;simp only at ae;omega),λ_ _ _ h=>by simp [CA,look]at h⟩
 intro g1 fw w' M' β' abF de;exact⟨.normal,_,⟨rfl,rfl,de.size,M',β',Alike.bo abF.symm de.bo⟩,d_⟩
def a'.Iz{α:Type}{b:Bool}{x y:Option α}{r:Option α}(h:(bif b then x else y)=r){c:Nat}{s7 s8:Code}{Q:cm→aI→Prop}(hc:(look st.env c).map (·.d)=some (.v (.bool b)))
 (bS:x=r→a' P N E s7 Q st) (ba:y=r→a' P N E s8 Q st):a' P N E (.cond (.tmp c) s7 s8) Q st:=by
 simp only [Option.map_eq_some_iff]at hc;obtain⟨⟨d,own⟩,he,rfl⟩:=hc;exact a'.cond b own he (λhb=>bS (by subst hb;exact h)) (λhb=>ba (by subst hb;exact h))
def a'.abG{c:Nat}{s7 s8:Code}{Q:cm→aI→Prop}(hc:(look st.env c).map (·.d)=some (.v (.bool true)))(bS:a' P N E s7 Q st):a' P N E (.cond (.tmp c) s7 s8) Q st:=by
 simp only [Option.map_eq_some_iff]at hc;obtain⟨⟨d,own⟩,he,rfl⟩:=hc;exact a'.cond true own he (λ_=>bS) (λhb=>by cases hb)
def a'.Rv{c:Nat}{s7 s8:Code}{Q:cm→aI→Prop}(hc:(look st.env c).map (·.d)=some (.v (.bool false)))(ba:a' P N E s8 Q st):a' P N E (.cond (.tmp c) s7 s8) Q st:=by
 simp only [Option.map_eq_some_iff]at hc;obtain⟨⟨d,own⟩,he,rfl⟩:=hc;exact a'.cond false own he (λhb=>by cases hb) (λ_=>ba)
end
def bB{P:Program}{f:FuncId}{args:List D}{ed:List (Nat×TypeId)}{H cF:List (List a1)}{out:Out}(_:gk P f args ed H out cF)(os:List Nat):e':=.call out (some cF) os
def aU{P:Program}{f:FuncId}{args:List D}{ed:List (Nat×TypeId)}{H cF:List (List a1)}{out:Out}(_:gk P f args ed H out cF)(os:List Nat):e':=.call out none os
def df{c:Prop}{P:Program}{f:FuncId}{args:List D}{ed:List (Nat×TypeId)}{H cF:List (List a1)}{out:Out}(_:c→gk P f args ed H out cF):e':=.call out none []
def vg{c c2:Prop}{P:Program}{f:FuncId}{args:List D}{ed:List (Nat×TypeId)}{H cF:List (List a1)}{out:Out}(_:c→c2→gk P f args ed H out cF):e':=.call out none []
def fT{raw x:V}(_:gC raw x):e':=.val x
def eT{α:Type}[Inhabited α]{k:Nat}{e:α→V}(l:List α):gC (.bD k l.length λi=>(l.map e).getD i .en) (ai k e l):=abg rfl _ rfl
def lj(l:List Int):Bool:=l.all λx=>decide (0≤x)&&decide (x<256)
def hl(l:List Int):al5:=l.map λx=>UInt8.ofNat x.toNat
def s9{l:List Int}(h:lj l=true):(hl l).length=l.length∧∀i,i<l.length→V.int .u8 (l.getD i default) = .int .u8 (((hl l).getD i 0).toNat:Int):=by
 refine⟨by simp [hl],λi hi=>?_⟩
 unfold lj at h;rw [List.all_eq_true]at h;have:=h l[i] (List.getElem_mem hi)
 simp only [Bool.and_eq_true,decide_eq_true_eq]at this;simp only [hl,List.getD,List.getElem?_map,List.getElem?_eq_getElem hi,Option.getD_some,Option.map_some,UInt8.toNat_ofNat'];rw [Nat.mod_eq_of_lt (by omega)]
 congr 1
 omega
def CE(T:TypeId):V→Option (Int×Int)
 |.iface t (.agg [.int .i64 a,.int .i64 b])=>bif Nat.beq t T then some (a,b)else none
 |_=>none
def Rw{T:TypeId}{x:V}{r:Int×Int}(h:CE T x=some r):x = .iface T (.agg [.int .i64 r.1,.int .i64 r.2]):=by
 unfold CE at h;split at h
 ·rw [Bool.cond_eq_ite]at h;split at h
  ·rename_i hb;cases h;rw [Nat.beq_eq]at hb;subst hb;rfl
  ·cases h
 ·cases h
def s'(M:Mem):Option V→FrameMode→Prop
 |none,m=>m = .returning
 |some x,m=>∃v,m = .panicking [{v,recovered:=false}]∧cY M v x
def ro(P:Program)(fd:FuncId)(args:List D)(H:List (List a1))(x:Option V)(R:List (List a1)→Prop):Prop:=
 ∀(K:Ctx) (w:World) (vs:List Value) (M:Mem) (β:Nat→Option Nat) (mode:FrameMode),vs.length=args.length→
  bH P K M β {env:=gU args [],H:=cK 0 H,aW:=H.length} ⟨vs⟩ w→(∀r b,β r=some b→K.kr r=some b)→s' M x mode→
  CallsD P fd ⟨vs⟩ mode w λe md w'=>∃v bM M' β',e = .returned v∧settle md = .returning∧R bM∧bH P K M' β' {env:=hJ (.ret (.cx []) none),H:=cK 0 bM,aW:=H.length} #[v] w'
section
variable {P:Program} {K:Ctx} {M:Mem} {β:Nat→Option Nat} {st:aI} {tmps:Array Value} {w:World} {tt:dw}
def s'.abH{x:Option V}{m:FrameMode}(h:s' M x m):m ≠ .run:=by
 cases x with
 |none=>intro hm;rw [hm]at h;cases h
 |some x=>obtain⟨v,Z,_⟩:=h;intro hm;rw [hm]at Z;cases Z
def s'.mono{M':Mem}(cM:M.le M'){x:Option V}{m:FrameMode}(h:s' M x m):s' M' x m:=by
 cases x with
 |none=>exact h
 |some x=>obtain⟨v,Z,ae⟩:=h;exact⟨v,Z,ae.mono cM⟩
def ps(P:Program)(tt:dw)(E:Nat)(rs:List ResultVar)(fd:FuncId)(ds:List D)(R:Out→List (List a1)→Prop)(x:Option V)(st:aI):Prop:=
 ∃(ρ:List Nat) (bs H1:List (List a1)) (iU:List D) (IA:List (List a1)→Prop),l4 ρ=true∧boxes st.H ρ=some bs∧jg (idx ρ) bs=some H1∧kp (idx ρ) ds=some iU∧ro P fd iU H1 x IA∧
  ∀cF,IA cF→∃h3 o bM,cF.length=ρ.length∧jg (λj=>ρ[j]?) cF=some h3∧Ab.leave tt E rs {env:=st.env,H:=kq ρ h3++st.H,aW:=st.aW}=some (o,bM)∧R o (mR bM)
def IB{fn:Func}{E:Nat}(cu:fb P tt=true)(ey:∀r b,K.kr r=some b→r<E)(hs:bH P K M β st tmps w){fd:FuncId}{ds:List D}{vs:List Value}(hlen:vs.length=ds.length)(ay:∀(i:Nat) v d,vs[i]? = some v→ds[i]? = some d→ct M β v d)
 {x : Option V} {mode : FrameMode} (hm : s' M x mode) {f : Func} (ba : P.funcs[fd]? = some f) (hb : f.body.isSome = true) (i7 : decide (f.name = "runtime.NumGoroutine") = false) {R : Out → List (List a1) → Prop} (ma : ps P tt E fn.results.toList fd ds R x st) :
 Leaves P fn tmps (λe w'=>∃o bM v M' β',R o bM∧e=q7 o v∧bH P K M' β' {env:=hJ o,H:=cK 0 bM,aW:=E} #[v] w') [{target:=.fn (.func fd) ⟨vs⟩,args := #[]}] mode w:=by
 obtain⟨ρ,bs,H1,iU,IA,hn,jX,ld,eJ,hd,sT⟩:=ma;have pn:f.body≠none:=by intro bx;rw [bx]at hb;cases hb
 have yt : f.name ≠ "runtime.NumGoroutine" := by simpa using i7
 refine leaves_cons (f:=fd) (args:=⟨vs⟩) hm.abH (by simp [invoke,callFunc,ba,pn,yt]) ?_
 have hc:=Qe (hd:=[]) hs hn jX ld hlen ay eJ ⟨by simp,by simp,by simp⟩
 have fk:H1.length=ρ.length:=by rw [(u0 ld).1,(sz jX).1]
 refine(hd (jB M β st tmps w ρ []) w vs M _ mode (by rw [hlen,QH eJ]) hc (λr b h=>h) hm).mono ?_
 rintro e md w' ⟨v,bM,M',β',rfl,hu,abI,cG⟩
 obtain⟨h3,o,Rx,Z,ae,ar,aK⟩:=sT bM abI;rw [fk]at cG;obtain⟨cM,IC,_,_⟩:=HM hs hn jX ae Z cG
 dsimp only
 rw [hu];obtain⟨v2,bc,l9,M2,s_,b2,cU⟩:=yi cu ey IC ar;exact⟨v2,bc,o,mR Rx,l9,M2,s_,aK,b2,cU.era⟩
def ot(P:Program)(_tt:dw)(fn:Func)(E:Nat)(c:Code)(R:Out→List (List a1)→Prop)(st:aI):Prop:=
 ∀(K:Ctx),K.ds=[]→(∀r b,K.kr r=some b→r<E)→∀(a:Act) (w:World),re P K fn.ntmps .normal st .normal a w→
  c.wp P (bodyPostD P fn λe w'=>∃o bM v M' β',R o bM∧e=q7 o v∧bH P K M' β' {env:=hJ o,H:=cK 0 bM,aW:=E} #[v] w') a w
def ID(P:Program)(tt:dw)(fn:Func)(E:Nat)(y:Code)(R:Out→List (List a1)→Prop):cm→aI→Prop
 |.normal,st=>ot P tt fn E y R st
 |.ret,st=>∃o bM,Ab.leave tt E fn.results.toList st=some (o,bM)∧R o (mR bM)
 |_,_=>False
def ot.seq{fn:Func}{E:Nat}{x y:Code}{R:Out→List (List a1)→Prop}(cu:fb P tt=true)(h:a' P fn.ntmps E x (ID P tt fn E y R) st):ot P tt fn E (.seq x y) R st:=by
 intro K g_ ey a w hs;refine wp_seq (wp_mono (h K ey a w hs) ?_)
 rintro e dX w' ⟨fs,bW,Z,ae⟩
 cases fs with
 |normal=>obtain⟨rfl,ar⟩:=Z;exact ae K g_ ey dX w' ⟨rfl,ar⟩
 |ret=>
  obtain⟨rfl,hd,_,M',β',cG⟩:=Z;obtain⟨o,bM,ar,aK⟩:=ae;obtain⟨v,bc,l9,M2,s_,b2,cU⟩:=yi cu ey cG ar;show Leaves P fn dX.tmps _ dX.defers .returning w'
  rw [hd,g_];exact⟨v,bc,o,mR bM,l9,M2,s_,aK,b2,cU.era⟩
 |exit i=>exact ae.elim
 |bd x=>exact ae.elim
def IE(P:Program)(tt:dw)(E:Nat)(rs:List ResultVar)(fd:FuncId)(ds:List D)(R:Out→List (List a1)→Prop):cm→aI→Prop
 |.normal,st |.ret,st=>ps P tt E rs fd ds R none st
 |.bd x,st=>ps P tt E rs fd ds R (some x) st
 |.exit _,_=>False
def ot.defer{fn:Func}{E:Nat}{id:Nat}{opsA:Array Oper}{dD hB:Oper}{y:Code}{R:Out→List (List a1)→Prop}(cu:fb P tt=true)(l_:opsA = #[dD,hB]){t:Nat}{fd:FuncId}{eQ:Array Operand}{c:Call}
 (Z:dD.op = .makeFunc (.func fd) #[] eQ) (ae:dD.dst=some t) (ar:dD.guard=none) (aK:hB.op = .defer c) (bc:hB.dst=none) (b2:hB.guard=none) (cU:c.callee = .value (.tmp t)) (dQ:c.args = #[]) (bS:Nat.blt t fn.ntmps=true)
 {ds : List D} (abJ : mapM' (rd st.env [] [] tt 0) eQ.toList = some ds) (_hE : Nat.ble E st.aW = true) {f : Func} (ba : P.funcs[fd]? = some f) (hb : f.body.isSome = true) (i7 : decide (f.name = "runtime.NumGoroutine") = false)
 (g_:sd st.aW ds=true)
 (h:a' P fn.ntmps st.aW y (IE P tt E fn.results.toList fd ds R) {env:=del st.env t,H:=st.H,aW:=st.aW}):ot P tt fn E (.seq (.region id opsA false) y) R st:=by
 rintro K abK ey a w ⟨_,hd,ej,M,β,cG⟩
 obtain⟨tmps,defers⟩:=a;simp only at hd ej
 rw [abK]at hd;subst hd;have c8:t<tmps.size:=by rw [ej];simpa using bS
 -- lb captured values
 obtain⟨fk,eC⟩:=q2 abJ;have yp:fx P K fn.ntmps M β {env:=st.env,bU:=[],H:=st.H,aW:=st.aW,rs:=[],aZ:=[]} tmps w:=⟨cG,ej,(λ_ _ h=>by simp [look]at h),λ_ _ _ h=>by simp [look]at h⟩
 have l8:∀(i:Nat) v d,(eQ.toList.map (⟨tmps,[]⟩:Act).eval)[i]? = some v→ds[i]? = some d→ct M β v d:=by
  intro i v d ay hd;rw [List.getElem?_map,Option.map_eq_some_iff]at ay;obtain⟨x,hx,rfl⟩:=ay;exact d' (ds:=[]) (p:=[]) yp (λx hx=>by cases hx) (eC i x d hx hd)
 have hlen:(eQ.toList.map (⟨tmps,[]⟩:Act).eval).length=ds.length:=by simp at fk ⊢;omega
 -- lb frame behind lb region
 have ou:bH P K M β {env:=del st.env t,H:=st.H,aW:=st.aW} (tmps.setIfInBounds t (.func (.func fd) #[] ⟨eQ.toList.map (⟨tmps,[]⟩:Act).eval⟩)) w:=cG.drop
 let pt:Ctx:={xF:=M,F:=K.F,kr:=λr=>if r<st.aW then β r else none,gZ:=K.gZ,ds:=[{target:=.fn (.func fd) ⟨eQ.toList.map (⟨tmps,[]⟩:Act).eval⟩,args := #[]}]}
 have IC:bH P pt M β {env:=del st.env t,H:=st.H,aW:=st.aW} (tmps.setIfInBounds t (.func (.func fd) #[] ⟨eQ.toList.map (⟨tmps,[]⟩:Act).eval⟩)) w:=
  ⟨ou.e_,ou.own,ou.uniq,ou.unbox,ou.box,ou.inj,ou.lt,ou.mem,Mem.le_refl _,(λb aZ dF=>⟨(ou.frame b aZ dF).1,λ_=>rfl⟩),(λr b hb=>by
   simp only [pt]at hb;split at hb
   ·exact hb
   ·cases hb),ou.iF,ou.gZ⟩
 have IF:∀{M':Mem} {β':Nat→Option Nat} {bW:aI} {fw:Array Value} {w':World},bH P pt M' β' bW fw w'→bH P K M' β' bW fw w':=by
  intro M' β' bW fw w' de
  exact⟨de.e_,de.own,de.uniq,de.unbox,de.box,de.inj,de.lt,de.mem,Mem.le_trans cG.m0 de.m0,(λb aZ dF=>⟨(de.frame b aZ dF).1,λo=>((de.frame b aZ dF).2 o).trans ((cG.frame b aZ dF).2 o)⟩),(λr b hb=>de.h4 r b (by
   have f':=cG.h4 r b hb;have kC:=cG.lt r b f';simp only [pt];rw [if_pos kC];exact f')),de.iF,de.gZ⟩
 have gE:∀{M':Mem} {β':Nat→Option Nat} {bW:aI} {fw:Array Value} {w':World},bH P pt M' β' bW fw w'→∀r,r<st.aW→∀b,β r=some b→β' r=some b:=λde r ak b hb=>de.h4 r b (by simp only [pt];rw [if_pos ak];exact hb)
 refine wp_seq (wp_region ?_);subst l_
 have e1:(execOp (Act.eval ⟨tmps,[]⟩) dD).run P w = .ok (.value (.func (.func fd) #[] ⟨eQ.toList.map (⟨tmps,[]⟩:Act).eval⟩)) w:=by
  simp only [execOp,Z,Instr.makeFunc];refine iH _ ?_;simp
  congr 1
  apply Array.ext';simp
 have e2:(execOp (Act.eval ⟨tmps.setIfInBounds t (.func (.func fd) #[] ⟨eQ.toList.map (⟨tmps,[]⟩:Act).eval⟩),[]⟩) hB).run P w = .ok (.defer {target:=.fn (.func fd) ⟨eQ.toList.map (⟨tmps,[]⟩:Act).eval⟩,args := #[]}) w:=by
  simp [execOp,aK,resolve,cU,dQ,Deferred.ofValue,Act.eval,c8]
 show wpOps P #[dD,hB] _ (List.range 2) ⟨tmps,[]⟩ w
 simp only [List.range,List.range.loop,wpOps];have vh:∀jE,Region.wanted dD (yielded #[dD,hB] jE)=true:=λjE=>by simp [Region.wanted,ar]
 have yu:∀jE,Region.wanted hB (yielded #[dD,hB] jE)=true:=λjE=>by simp [Region.wanted,b2]
 simp only [show(#[dD,hB]:Array Oper)[0]? = some dD from rfl,show(#[dD,hB]:Array Oper)[1]? = some hB from rfl,vh,yu,if_true]
 refine .inl ?_;unfold Oper.wp;rw [e1,Oper.upon_value,ae];refine .inl ?_;have abL:(execOp ((⟨tmps,[]⟩:Act).put (some t) (.func (.func fd) #[] ⟨eQ.toList.map (⟨tmps,[]⟩:Act).eval⟩)).eval hB).run P w = .ok (.defer {target:=.fn (.func fd) ⟨eQ.toList.map (⟨tmps,[]⟩:Act).eval⟩,args := #[]}) w:=e2;rw [abL,Oper.upon_defer,bc];show y.wp P _ ⟨tmps.setIfInBounds t _,[_]⟩ w
 have qp:∀r b,pt.kr r=some b→r<st.aW:=by
  intro r b hb;simp only [pt]at hb;split at hb
  ·assumption
  ·cases hb
 refine wp_mono (h pt qp _ w ⟨rfl,rfl,by simpa using ej,M,β,IC⟩) ?_
 rintro e dX w' ⟨fs,bW,g1,g2⟩
 have nt:∀{M':Mem} {β':Nat→Option Nat} {bW:aI} {fw:Array Value} {w':World},bH P pt M' β' bW fw w'→∀(i:Nat) v d,(eQ.toList.map (⟨tmps,[]⟩:Act).eval)[i]? = some v→ds[i]? = some d→ct M' β' v d:=by
  intro M' β' bW fw w' de i v d ay hd;have cM:M.le M':=de.m0;exact((l8 i v d ay hd).mono cM).Y1 (λr ak b hb=>gE de r ak b hb) (qY g_ hd)
 cases fs with
 |normal=>
  obtain⟨rfl,hd,_,M',β',hs⟩:=g1;show Leaves P fn dX.tmps _ dX.defers .returning w'
  rw [hd];exact IB cu ey (IF hs) hlen (nt hs) (x:=none) rfl ba hb i7 g2
 |ret=>
  obtain⟨rfl,hd,_,M',β',hs⟩:=g1;show Leaves P fn dX.tmps _ dX.defers .returning w'
  rw [hd];exact IB cu ey (IF hs) hlen (nt hs) (x:=none) rfl ba hb i7 g2
 |exit i=>exact g2.elim
 |bd x=>
  obtain⟨v,rfl,hd,M',β',f9,hs⟩:=g1;show Leaves P fn dX.tmps _ dX.defers (.panicking _) w'
  rw [hd];exact IB cu ey (IF hs) hlen (nt hs) (x:=some x) ⟨v,rfl,f9⟩ ba hb i7 g2
def ph.abM {f : FuncId} {fn : Func} {c : Code} {args : List D} {ed : List (Nat × TypeId)} {H : List (List a1)} {R : Out → List (List a1) → Prop} (ba : P.funcs[f]? = some fn) (hb : fn.body = some c) (i7 : decide (fn.name = "runtime.NumGoroutine") = false)
 (eJ:Nat.ble args.length fn.ntmps=true) (h:ot P tt fn H.length c R {env:=gU args ed,H:=cK 0 H,aW:=H.length}):ph P f args ed H R:=by
 refine⟨⟨fn,ba,by rw [hb];rfl,by simpa using i7⟩,?_⟩
 intro cv w vs M β hlen Ih Ii
 suffices key:∀K:Ctx,K.ds=[]→bH P K M β {env:=gU args ed,H:=cK 0 H,aW:=H.length} ⟨vs⟩ w→(∀r b,β r=some b→K.kr r=some b)→
  Calls P f ⟨vs⟩ w λe w'=>∃o bM v M' β',R o bM∧e=q7 o v∧bH P K M' β' {env:=hJ o,H:=cK 0 bM,aW:=H.length} #[v] w' from
  (key {cv with ds:=[]} rfl (Ih.sS []) Ii).mono λe w' ⟨o,bM,v,M',β',Z,ae,ar⟩=>⟨o,bM,v,M',β',Z,ae,ar.sS cv.ds⟩
 intro K g_ cG gE;have ey:∀r b,K.kr r=some b→r<H.length:=λr b hb=>cG.lt r b (cG.h4 r b hb)
 simp only [Nat.ble_eq]at eJ;exact calls_of_wp_defers ba hb (h K g_ ey {tmps:=(⟨vs⟩:Array Value)++Array.replicate (fn.ntmps-(⟨vs⟩:Array Value).size) undef,defers:=[]} w ⟨rfl,g_.symm,by simp;omega,M,β,Ig hlen cG⟩)
def ro.Ry{fd:FuncId}{fn:Func}{i0:Nat}{opsA:Array Oper}{dD hB:Oper}{rest:Code}{r t2:Nat}{c:Call}(cu:fb P tt=true)(ba:P.funcs[fd]? = some fn)(hb:fn.body=some (.seq (.region i0 opsA false) rest))(l_:opsA = #[dD,hB])
 (Z:dD.op = .call c) (ae:dD.dst=some r) (ar:dD.guard=none) (aK:c.callee = .builtin .recover) (bc:c.args = #[]) (b2:hB.op = .assign (.tmp r)) (cU:hB.dst=some t2) (dQ:hB.guard=none)
 {args:List D} {H:List (List a1)} {x:Option V} {R:List (List a1)→Prop} (ak:Nat.blt r fn.ntmps=true) (ye:Nat.blt t2 fn.ntmps=true) (eJ:Nat.ble args.length fn.ntmps=true)
 (h:a' P fn.ntmps H.length rest (rh tt H.length fn.results.toList λo bM=>o = .ret (.cx []) none∧R bM) {env:=(t2,{d:=.v (x.getD .hI)})::del (gU args []) r,H:=cK 0 H,aW:=H.length}):ro P fd args H x R:=by
 intro K w vs M β mode hlen cG gE hm;have ey:∀r b,K.kr r=some b→r<H.length:=λr b hb=>cG.lt r b (cG.h4 r b hb)
 simp only [Nat.ble_eq]at eJ;simp only [Nat.blt_eq]at ak ye;refine callsD_of_wpS ba hb λrp cs hu=>?_
 apply wpS_seq;apply wpS_region;subst l_;have vh:∀jE,Region.wanted dD (yielded #[dD,hB] jE)=true:=λjE=>by simp [Region.wanted,ar]
 have yu:∀jE,Region.wanted hB (yielded #[dD,hB] jE)=true:=λjE=>by simp [Region.wanted,dQ]
 have e1:∀a:Act,(execOp a.eval dD).run P w = .ok .recover w:=λa=>by
  simp [execOp,Z,resolve,aK,bc,invoke,builtin]
 have dH:=Ig (n:=fn.ntmps-(⟨vs⟩:Array Value).size) hlen cG
 -- HN 'recover' aaO
 have key:∃(v:Value) (md:FrameMode),cY M v (x.getD .hI)∧settle md = .returning∧(recoverD (rp::cs)=some (v,{rp with mode:=md}::cs)∨(recoverD (rp::cs)=none∧v = .nilIface∧({rp with mode:=md}:Frame)=rp)):=by
  cases x with
  |none=>
   have jk:mode = .returning:=hm;subst jk;exact⟨.nilIface,.returning,.hI,rfl,.inr ⟨by simp [recoverD,hu],rfl,by rw [←hu]⟩⟩
  |some y=>
   obtain⟨v,jk,ay⟩:=hm;subst jk;exact⟨v,.panicking [{v,recovered:=true}],ay,by simp [settle],.inl (by simp [recoverD,hu])⟩
 obtain⟨v,md,ay,uX,yv⟩:=key;show wpOpsS P #[dD,hB] _ (List.range 2) _ (rp::cs) w
 simp only [List.range,List.range.loop,wpOpsS,show(#[dD,hB]:Array Oper)[0]? = some dD from rfl,show(#[dD,hB]:Array Oper)[1]? = some hB from rfl,vh,yu,if_true,e1]
 have e2:∀jE:Array Value,r<jE.size→(execOp (Act.eval ⟨jE.setIfInBounds r v,[]⟩) hB).run P w = .ok (.value v) w:=λjE bS=>by
  simp [execOp,b2,Act.eval,bS]
 have ej:((⟨vs⟩:Array Value)++Array.replicate (fn.ntmps-(⟨vs⟩:Array Value).size) undef).size=fn.ntmps:=by simp;omega
 generalize akQ:(⟨vs⟩:Array Value)++Array.replicate (fn.ntmps-(⟨vs⟩:Array Value).size) undef=jE at dH ej
 have ma:∀cs',cs'={rp with mode:=md}::cs→rest.wpS P (bodyPostS P fn rp cs λe md w'=>∃v bM M' β',e = .returned v∧settle md = .returning∧R bM∧bH P K M' β' {env:=hJ (.ret (.cx []) none),H:=cK 0 bM,aW:=H.length} #[v] w')
  ⟨(jE.setIfInBounds r v).setIfInBounds t2 v,[]⟩ cs' w:=by
  intro cs' ei
  have yw:bH P {K with ds:=[]} M β {env:=(t2,{d:=.v (x.getD .hI)})::del (gU args []) r,H:=cK 0 H,aW:=H.length} ((jE.setIfInBounds r v).setIfInBounds t2 v) w:=
   ((dH.drop (t:=r) (v:=v)).put (t:=t2) (v:=v) (e:={d:=.v (x.getD .hI)}) (by rw [Array.size_setIfInBounds,ej];exact ye) (.v _ _ ay) (λT aS=>by cases aS)).sS []
  refine wpS_of_wp (wp_mono (h {K with ds:=[]} ey _ w ⟨rfl,rfl,by simpa using ej,M,β,yw⟩) ?_)
  rintro e dX w' ⟨fs,bW,g1,g2⟩
  cases fs with
  |normal=>
   obtain⟨rfl,hd,_,M',β',hs⟩:=g1;obtain⟨o,bM,g3,rfl,g4⟩:=g2;obtain⟨v2,g5,l9,M2,s_,g6,g7⟩:=yi cu (K:={K with ds:=[]}) ey hs g3;cases g6;exact⟨hd,md,ei,v2,g5,v2,bM,M2,s_,rfl,uX,g4,g7.sS K.ds⟩
  |ret=>
   obtain⟨rfl,hd,_,M',β',hs⟩:=g1;obtain⟨o,bM,g3,rfl,g4⟩:=g2;obtain⟨v2,g5,l9,M2,s_,g6,g7⟩:=yi cu (K:={K with ds:=[]}) ey hs g3;cases g6;exact⟨hd,md,ei,v2,g5,v2,bM,M2,s_,rfl,uX,g4,g7.sS K.ds⟩
  |exit i=>exact g2.elim
  |bd y=>
   obtain⟨bM,_,g4,_⟩:=g2;cases g4
 have e3:(execOp ((({tmps:=jE,defers:=[]}:Act).put dD.dst v).eval) hB).run P w = .ok (.value v) w:=by
  rw [ae];exact e2 jE (by omega)
 rcases yv with yv|⟨yv,rfl,hc0⟩
 ·simp only [yv,e3];rw [Oper.upon_value,ae,cU];exact ma _ rfl
 ·simp only [yv,e3];rw [Oper.upon_value,ae,cU];exact ma _ (by rw [hc0])
end
def ov(H:List (Nat×List a1)):Nat→List (Nat×List a1)
 | 0=>[]
 |n+1=>match look H n with
  |some cs=>(n,cs)::ov H n
  |none=>ov H n
def IG{H:List (Nat×List a1)}:∀{n q:Nat} {cs:List a1},look (ov H n) q=some cs→q<n∧look H q=some cs
 | 0,q,cs,h=>by simp [ov,look]at h
 |n+1,q,cs,h=>by
  unfold ov at h;split at h
  ·rename_i c hc;rw [dP]at h;split at h
   ·rename_i aB;subst aB;cases h;exact⟨by omega,hc⟩
   ·obtain⟨Z,ae⟩:=IG h;exact⟨by omega,ae⟩
  ·obtain⟨Z,ae⟩:=IG h;exact⟨by omega,ae⟩
def Rz(mk:Nat)(ops:List Oper)(o:Oper)(x:V)(hs:List (Nat×List a1))(aZ:List Prop)(jl:List Nat)(rs:List e')(rj:List (Nat×List a1)):ek:=
 {dst:=o.dst,p:=[],f:={e:=none,rs:=[],hs:=[(mk,[])],aZ},jl,mb:=ol ops o,oi:=pp o,rs,gl:=1,sU:=x,oj:=hs,rj}
def RA(ops:List Oper)(o:Oper):ek:=
 {dst:=o.dst,p:=[],f:={e:=none,rs:=[]},jl:=[],mb:=ol ops o,oi:=pp o,rs:=[],gl:=2}
def qq(b4:f6)(tt:dw)(ops:List Oper)(fU mk:Nat):Nat→List Oper→List (List e')→c_→Option (List ek×c_×List Prop×List (V×List (Nat×List a1)))
 |_,[],[],g=>some ([],g,[],[])
 |i,o::l,rs::i',g=>bif Nat.beq i fU then match n7 ops g o with
  |some []=>match step1 b4 tt ops {g with rs:=rs} [] o with
   |some (.bd x hs aZ)=>match qq b4 tt ops fU mk (i+1) l i' (ep (Rz mk ops o x hs aZ (h_ tt g [] o++List.range mk) rs g.H) g) with
    |some (cz,eR,rf,xs)=>some (Rz mk ops o x hs aZ (h_ tt g [] o++List.range mk) rs g.H::cz,eR,rf++aZ,(x,hs++ov g.H mk)::xs)
    |none=>none
   |_=>none
  |_=>none
  else bif waits ops fU 3 i then match qq b4 tt ops fU mk (i+1) l i' (ep (RA ops o) g) with
   |some (cz,eR,rf,xs)=>some (RA ops o::cz,eR,rf,xs)
   |none=>none
  else match findD b4 tt ops g o rs with
   |some E=>bif E.f.hs.all (λy=>!Nat.beq y.1 mk)then match qq b4 tt ops fU mk (i+1) l i' (ep E g) with
    |some (cz,eR,rf,xs)=>some (E::cz,eR,rf++E.f.aZ.map (under g E.p),xs)
    |none=>none
    else none
   |none=>none
 |_,_,_,_=>none
def yx(b4:f6)(tt:dw)(N:Nat)(ops:List Oper)(fU mk:Nat)(i':List (List e'))(st:aI):Option (V×List (Nat×List a1)×List Prop):=
 match qq b4 tt ops fU mk 0 ops i' (CA ops st) with
 |some (cz,g,aZ,[(x,hs)])=>bif Cx N ops cz&&(look g.H mk).isSome&&(look st.H mk).isNone then some (x,hs,aZ)else none
 |_=>none
def IH:Option (V×List (Nat×List a1)×List Prop)→Option (V×List Prop)
 |some (x,_,cy)=>some (x,cy)
 |none=>none
def II:Option (V×List (Nat×List a1)×List Prop)→List (Nat×List a1)
 |some (_,H,_)=>H
 |none=>[]
section
variable {P:Program} {K:Ctx} {N E:Nat} {st:aI} {tt:dw} {opsA:Array Oper} {b4:f6}
structure RB(opsA:Array Oper)(cz:List ek)(fU mk:Nat)(x:V)(hs:List (Nat×List a1)):Prop where
 dead:∀(i:Nat) E,cz[i]? = some E→E.gl=2→waits opsA.toList fU 3 i=true
 bd:∀(i:Nat) E,cz[i]? = some E→E.gl=1→E.p=[]∧E.sU=x∧E.oj++ov E.rj mk=hs∧∀q,q<mk→q∈E.jl
 go:∀(i:Nat) E,cz[i]? = some E→E.gl=0→i≠fU∧(E.f.hs.all (λy=>!Nat.beq y.1 mk))=true
 gl:∀(i:Nat) E,cz[i]? = some E→E.gl=0∨E.gl=1∨E.gl=2
def abN{listed:Array Bool}(hf:mU opsA listed){i fU:Nat}(hi:i∈Region.ready .any opsA listed){n:Nat}(hw:waits opsA.toList fU n i=true):listed.getD fU false=true:=by
 cases n with
 |zero=>simp [waits]at hw
 |succ n=>
  obtain⟨_,o,ax,s0⟩:=mem_ready.1 hi;rw [waits]at hw;have af:opsA.toList[i]? = some o:=by simpa using ax
  simp only [af]at hw;obtain⟨e,he,hb⟩:=List.any_eq_true.1 hw;simp only [Bool.and_eq_true,Bool.or_eq_true,Nat.beq_eq]at hb;have Z:=s0 e (by simpa using he) hb.1
  rcases hb.2 with rfl|ae
  ·exact Z
  ·exact Co hf ae Z
def IJ{mk:Nat}:∀{l H:List (Nat×List a1)},(l.all λy=>!Nat.beq y.1 mk)=true→look H mk=none→look (l++H) mk=none
 |[],_,_,h=>h
 |(a,b)::l,H,af,h=>by
  simp only [List.all_cons,Bool.and_eq_true,Bool.not_eq_true']at af;rw [List.cons_append,dP];have:a≠mk:=by intro e;subst e;simp at af
  rw [if_neg this];exact IJ af.2 h
def abO{E:ek}{g:c_}{mk:Nat}(h:(E.f.hs.all λy=>!Nat.beq y.1 mk)=true)(hg:look g.H mk=none):look (ep E g).H mk=none:=by
 unfold ep;cases E.dst with
 |none=>exact IJ h hg
 |some t=>
  cases E.p with
  |nil=>exact IJ h hg
  |cons x p=>dsimp only;cases E.f.e<;>exact hg
def iJ.RC(cu:fb P tt=true){cz:List ek}{fU mk:Nat}{x:V}{hs:List (Nat×List a1)}(j':RB opsA cz fU mk x hs)(eK:∀(i:Nat) o E,opsA[i]? = some o→cz[i]? = some E→hL opsA.toList o E=true)(bz:∀(i:Nat) E,cz[i]? = some E→pr N E=true)(jA:yo opsA.toList cz=true){Q:Exit→Act→World→Prop}
 (d_:∀n e dX w',re P K N (.bd x) {env:=[],H:=hs,aW:=n} e dX w'→Q e dX w'):
 ∀(n:Nat) (listed:Array Bool) (g:c_) (tmps:Array Value) (w:World) (M:Mem) (β:Nat→Option Nat),iJ (iZ P) tt opsA cz (λg=>(look g.H mk).isSome=true) n listed g→listed.size=opsA.size→mU opsA listed→rn cz listed g→listed.getD fU false=false→look g.H mk=none→fx P K N M β g tmps w→wpAny P .any opsA Q n listed ⟨tmps,K.ds⟩ w
 | 0,_,g,tmps,w,M,β,h,_,_,_,_,eZ,_=>by have:(look g.H mk).isSome=true:=h.2;rw [eZ]at this;cases this
 |n+1,listed,g,tmps,w,M,β,h,ej,hf,lF,RD,eZ,fI=>by
  refine⟨(λak=>by have:(look g.H mk).isSome=true:=h.1 ak;rw [eZ]at this;cases this),λi hi=>?_⟩
  obtain⟨o,E,ax,cw,Cw,hn⟩:=h.2 i hi;have c8:i<listed.size:=by rw [ej];exact(Array.getElem?_eq_some_iff.1 ax).1
  have mV:listed.getD i false=false:=by have:=(mem_ready.1 hi).1;simpa [Array.getD_eq_getD_getElem?,c8]using this
  have oh:fx P K N M β {g with rs:=E.rs,aZ:=[]} tmps w:=⟨fI.bo,fI.size,fI.fresh,fI.cond⟩;unfold wpOp;simp only [ax];rcases j'.gl i E cw with hk|hk|hk
  ·have i8:=Cw.resolve_left (by rw [hk];simp)
   obtain⟨CF,sQ⟩:=j'.go i E cw hk;have It:=Rs (N:=N) hk i8 cw (eK i o E ax cw) (bz i E cw) jA hf mV lF;refine Ib oh cu (opsA:=opsA) rfl It (λq aB=>?_) (λfw w' M' β' de=>?_)
   ·obtain⟨q',od,rfl⟩:=List.mem_map.1 aB;exact i8.aZ q' od
   ·exact iJ.RC cu j' eK bz jA d_ n _ (ep E g) fw w' M' β' hn (by simpa using ej) (hf.set hi) (lF.ap cw c8) (by rw [getD_set_ne false CF];exact RD) (abO sQ eZ) ⟨de.bo,de.size,de.fresh,de.cond⟩
  ·have i8:=Cw.resolve_left (by rw [hk];simp)
   obtain⟨hp,hx,abP,nx⟩:=j'.bd i E cw hk
   have dH:step1 (iZ P) tt opsA.toList {g with rs:=E.rs,aZ:=[]} [] o=some (.bd x E.oj E.f.aZ):=by
    have Z:=i8.st;rw [hk,hp,hx]at Z;refine Eq.trans ?_ Z;exact In (g1:={g with rs:=E.rs,aZ:=[]}) (g2:={g with rs:=E.rs}) (λ_ _ _ _=>⟨rfl,rfl⟩) rfl rfl (λ_=>rfl) (λ_ _=>rfl)
   have IK:n7 opsA.toList {g with rs:=E.rs,aZ:=[]} o=some []:=by rw [←hp];exact i8.Ck
   have abQ:mI (iZ P) tt N opsA.toList {g with rs:=E.rs,aZ:=[]} o=some (.bd x {env:=n6 g.env,H:=E.oj++g.H,aW:=g.aW} (E.f.aZ++[])):=by
    unfold mI;rw [IK]
    dsimp only
    rw [dH];rfl
   refine QX oh cu (opsA:=opsA) rfl abQ (λq aB=>?_) (λe dX w' qp=>?_)
   ·rw [List.append_nil]at aB;have:=i8.aZ q aB
    rw [hp]at this;exact this
   ·obtain⟨v,Z,ae,xO,xP,ar,aK⟩:=qp;have ma:=i8.fin hk
    have kV:∀q cs,look hs q=some cs→look (E.oj++g.H) q=some cs:=by
     intro q cs aB;rw [←abP,vd]at aB;rw [vd];cases af:look E.oj q with
     |some c=>rw [af]at aB;exact aB
     |none=>
      rw [af]at aB;obtain⟨bc,b2⟩:=IG aB;rw [←b2];exact ma q (nx q bc)
    refine d_ g.aW e dX w' ⟨v,Z,ae,xO,xP,ar,(aK.yc _).sub rfl (λl bf af=>?_) (λq cs aB=>⟨cs,kV q cs aB,rfl⟩)⟩
    cases l with
    |slot s=>simp [aI.at,look]at af
    |cell q i=>
     simp only [aI.at]at af ⊢;cases aB:look hs q with
     |none=>rw [aB]at af;simp at af
     |some cs=>
      rw [aB]at af;rw [kV q cs aB];exact⟨bf,af,rfl,λ_ h=>h⟩
  ·have:=abN hf hi (j'.dead i E cw hk)
   rw [RD]at this;cases this
def CG{ops:List Oper}{fU mk:Nat}{Fi:c_→Prop}:∀{l:List Oper} {i:Nat} {i':List (List e')} {g:c_} {cz:List ek} {eR:c_} {aZ:List Prop} {xs:List (V×List (Nat×List a1))},qq b4 tt ops fU mk i l i' g=some (cz,eR,aZ,xs)→(∀q,q∈aZ→q)→Fi eR→
 cz.length=l.length∧Ct b4 tt ops Fi (kB l cz) g∧
 (∀(j:Nat) E,cz[j]? = some E→(E.gl=0∧i+j≠fU∧(E.f.hs.all (λy=>!Nat.beq y.1 mk))=true)∨(E.gl=1∧E.p=[]∧(E.sU,E.oj++ov E.rj mk)∈xs∧∀q,q<mk→q∈E.jl)∨(E.gl=2∧waits ops fU 3 (i+j)=true))
 |[],i,[],g,cz,eR,aZ,xs,h,_,dF=>by
  simp only [qq,Option.some.injEq,Prod.mk.injEq]at h;obtain⟨rfl,rfl,rfl,rfl⟩:=h;exact⟨rfl,dF,by simp⟩
 |[],_,_::_,_,_,_,_,_,h,_,_=>by simp [qq]at h
 |_::_,_,[],_,_,_,_,_,h,_,_=>by simp [qq]at h
 |o::l,i,rs::i',g,cz,eR,aZ,xs,h,cj,dF=>by
  have next:∀{E:ek} {s2:List ek} {vi:List (V×List (Nat×List a1))},(∀(j:Nat) E,s2[j]? = some E→(E.gl=0∧i+1+j≠fU∧(E.f.hs.all (λy=>!Nat.beq y.1 mk))=true)∨(E.gl=1∧E.p=[]∧(E.sU,E.oj++ov E.rj mk)∈vi∧∀q,q<mk→q∈E.jl)∨(E.gl=2∧waits ops fU 3 (i+1+j)=true))→(∀z,z∈vi→z∈xs)→
   ((E.gl=0∧i≠fU∧(E.f.hs.all (λy=>!Nat.beq y.1 mk))=true)∨(E.gl=1∧E.p=[]∧(E.sU,E.oj++ov E.rj mk)∈xs∧∀q,q<mk→q∈E.jl)∨(E.gl=2∧waits ops fU 3 i=true))→
   ∀(j:Nat) cZ,(E::s2)[j]? = some cZ→(cZ.gl=0∧i+j≠fU∧(cZ.f.hs.all (λy=>!Nat.beq y.1 mk))=true)∨(cZ.gl=1∧cZ.p=[]∧(cZ.sU,cZ.oj++ov cZ.rj mk)∈xs∧∀q,q<mk→q∈cZ.jl)∨(cZ.gl=2∧waits ops fU 3 (i+j)=true):=by
   intro E s2 vi Z hx ae j cZ hj;cases j with
   |zero=>simp at hj;subst hj;exact ae
   |succ j=>
    have:=Z j cZ (by simpa using hj)
    rw [show i+1+j=i+(j+1)by omega]at this
    rcases this with ar|⟨ar,aK,bc,b2⟩|ar
    ·exact .inl ar
    ·exact .inr (.inl ⟨ar,aK,hx _ bc,b2⟩)
    ·exact .inr (.inr ar)
  simp only [qq]at h;rw [Bool.cond_eq_ite]at h;split at h
  ·rename_i CF;split at h
   case h_2=>cases h
   rename_i IK;split at h
   case h_2=>cases h
   rename_i x hs abB dH;split at h
   case h_2=>cases h
   rename_i s2 g1 RE vi Z;simp only [Option.some.injEq,Prod.mk.injEq]at h;obtain⟨rfl,rfl,rfl,rfl⟩:=h;obtain⟨ae,ar,aK⟩:=CG Z (λq aB=>cj q (List.mem_append_left _ aB)) dF
   refine⟨by simp [ae],⟨.inr ⟨IK,dH,(λq aB=>cj q (List.mem_append_right _ aB)),(λq aB=>List.mem_append_left _ aB),λ_ q _=>rfl⟩,ar⟩,next aK (λz dE=>List.mem_cons_of_mem _ dE) (.inr (.inl ⟨rfl,rfl,List.mem_cons_self ..,λq aB=>List.mem_append_right _ (List.mem_range.2 aB)⟩))⟩
  ·rename_i CF;rw [Bool.cond_eq_ite]at h;split at h
   ·rename_i hw;split at h
    case h_2=>cases h
    rename_i s2 g1 RE vi Z;simp only [Option.some.injEq,Prod.mk.injEq]at h;obtain⟨rfl,rfl,rfl,rfl⟩:=h;obtain⟨ae,ar,aK⟩:=CG Z cj dF;exact⟨by simp [ae],⟨.inl rfl,ar⟩,next aK (λz dE=>dE) (.inr (.inr ⟨rfl,hw⟩))⟩
   ·split at h
    case h_2=>cases h
    rename_i E cw;rw [Bool.cond_eq_ite]at h;split at h
    case isFalse=>cases h
    rename_i n9;split at h
    case h_2=>cases h
    rename_i s2 g1 RE vi Z;simp only [Option.some.injEq,Prod.mk.injEq]at h;obtain⟨rfl,rfl,rfl,rfl⟩:=h;obtain⟨ae,ar,aK⟩:=CG Z (λq aB=>cj q (List.mem_append_left _ aB)) dF
    have Iu:∀q,q∈E.f.aZ→under g E.p q:=λq aB=>cj _ (List.mem_append_right _ (List.mem_map.2 ⟨q,aB,rfl⟩))
    have sQ:=n9;unfold findD at cw;split at cw
    ·cases cw
    rename_i p hp;split at cw
    ·rename_i f ba;cases cw;exact⟨by simp [ae],⟨.inr ⟨hp,ba,Iu,λ_ h=>h,λh=>by cases h⟩,ar⟩,next aK (λz dE=>dE) (.inl ⟨rfl,(by simpa using CF),sQ⟩)⟩
    ·cases cw
def a'.abR{id:Nat}{Q:cm→aI→Prop}(cu:fb P tt=true)(hm:P.follows .mixedOrders=true)(fU:Nat)(i':List (Nat×List e')){x:V}{cy:List Prop}(ak:IH (yx (iZ P) tt N opsA.toList fU (st.aW+opsA.toList.length) (spread opsA.toList.length 0 i') st)=some (x,cy))(cj:j_ cy)
 (d_:∀n,Q (.bd x) {env:=[],H:=II (yx (iZ P) tt N opsA.toList fU (st.aW+opsA.toList.length) (spread opsA.toList.length 0 i') st),aW:=n}):a' P N E (.region id opsA true) Q st:=by
 rintro K ey a w ⟨_,hd,ej,M,β,cG⟩
 obtain⟨tmps,ds⟩:=a;simp only at hd ej
 subst hd;refine wp_region_any hm ?_;cases kW:yx (iZ P) tt N opsA.toList fU (st.aW+opsA.toList.length) (spread opsA.toList.length 0 i') st with
 |none=>rw [kW]at ak;cases ak
 |some res=>
 obtain⟨fj,pu,akR⟩:=res;rw [kW]at ak d_;simp only [IH,Option.some.injEq,Prod.mk.injEq]at ak;obtain⟨rfl,rfl⟩:=ak;simp only [II]at d_;unfold yx at kW;split at kW
 case h_2=>cases kW
 rename_i cz g rf fH fI eS;rw [Bool.cond_eq_ite]at kW;split at kW
 case isFalse=>cases kW
 rename_i hc;simp only [Option.some.injEq,Prod.mk.injEq]at kW;obtain⟨rfl,rfl,rfl⟩:=kW;simp only [Bool.and_eq_true,Option.isNone_iff_eq_none]at hc;obtain⟨⟨hc,Cl⟩,RF⟩:=hc;generalize akS:st.aW+opsA.toList.length=mk at eS Cl RF
 obtain⟨hlen,Iy,CH⟩:=CG (Fi:=λg=>(look g.H mk).isSome=true) eS cj.mem Cl
 simp only [Cx,Bool.and_eq_true]at hc;obtain⟨⟨⟨c1,c2⟩,c3⟩,c4⟩:=hc
 have eK:∀(i:Nat) o E,opsA[i]? = some o→cz[i]? = some E→hL opsA.toList o E=true:=by
  intro i o E ax cw;obtain⟨jZ,z2⟩:=s3 hlen i;have jS:opsA.toList[i]? = some o:=by simpa using ax
  rw [jS]at jZ;rw [cw]at z2;cases dE:(kB opsA.toList cz)[i]? with
  |none=>rw [dE]at jZ;simp at jZ
  |some x=>
   rw [dE]at jZ z2;simp at jZ z2
   subst jZ;subst z2;exact List.all_eq_true.1 c1 x (List.mem_of_getElem? dE)
 have bz:∀(i:Nat) E,cz[i]? = some E→pr N E=true:=λi E cw=>List.all_eq_true.1 c2 E (List.mem_of_getElem? cw)
 have yq:mU opsA (Array.replicate opsA.size false):=λj o ax hj=>by have c8:j<opsA.size:=(Array.getElem?_eq_some_iff.1 ax).1;simp [Array.getD_eq_getD_getElem?,c8]at hj
 have yr:=iJ.text eK (λg1 g2 f_ Z=>by rw [←f_.box mk];exact Z) (kB opsA.toList cz) 0 (Array.replicate opsA.size false) _ (λj=>by have:=(s3 hlen j).1;simpa using this) (λj=>by have:=(s3 hlen j).2;simpa using this)
  ⟨by simp,λj hj=>by simp [hj]⟩ yq c4 Iy
 have sy:(kB opsA.toList cz).length=opsA.size:=by rw [Iv hlen];simp
 rw [sy]at yr
 have j':RB opsA cz fU mk fH fI:=by
  constructor
  ·intro i E cw hk;rcases CH i E cw with⟨Z,_⟩|⟨Z,_⟩|⟨_,Z⟩
   ·omega
   ·omega
   ·simpa using Z
  ·intro i E cw hk;rcases CH i E cw with⟨Z,_⟩|⟨_,Z,ae,ar⟩|⟨Z,_⟩
   ·omega
   ·simp only [List.mem_singleton,Prod.mk.injEq]at ae;exact⟨Z,ae.1,ae.2,ar⟩
   ·omega
  ·intro i E cw hk;rcases CH i E cw with⟨_,Z,ae⟩|⟨Z,_⟩|⟨Z,_⟩
   ·exact⟨by simpa using Z,ae⟩
   ·omega
   ·omega
  ·intro i E cw;rcases CH i E cw with⟨Z,_⟩|⟨Z,_⟩|⟨Z,_⟩
   ·exact .inl Z
   ·exact .inr (.inl Z)
   ·exact .inr (.inr Z)
 refine iJ.RC (K:=K) (mk:=mk) cu j' eK bz c3 (λn e dX w' de=>⟨_,_,de,d_ n⟩) _ _ _ tmps _ M β yr (by simp) yq (λx hx=>by cases hx) ?_ RF ⟨(cG.drew _).up _,ej,(λs id h _ b hb=>by have Z:=cG.lt _ _ hb;have ae:=(CC _ _ _ (qb h)).1;simp only at ae;omega),λ_ _ _ h=>by simp [CA,look]at h⟩
 rw [Array.getD_eq_getD_getElem?];by_cases RG:fU<opsA.size
 ·simp [RG]
 ·simp [RG]
end
section
variable {P:Program} {tt:dw} {fn:Func} {E:Nat} {st:aI}
def IL{y:Code}{R:Out→List (List a1)→Prop}(h:ot P tt fn E y R st):ID P tt fn E y R .normal st:=h
def abS{y:Code}{out:Out}{yy:List (List a1)}(h:(Ab.leave tt E fn.results.toList st).map (λx=>(x.1,mR x.2))=some (out,yy)):ID P tt fn E y (λo bM=>o=out∧bM=yy) .ret st:=by
 rw [Option.map_eq_some_iff]at h;obtain⟨⟨o,bM⟩,Z,ae⟩:=h;cases ae;exact⟨o,bM,Z,rfl,rfl⟩
def RH(tt:dw)(E:Nat)(rs:List ResultVar)(ds:List D)(ρ:List Nat)(cF:List (List a1))(st:aI):Option (List (List a1)×List D×Out×List (List a1)):=
 bif !l4 ρ then none else match boxes st.H ρ,kp (idx ρ) ds,jg (λj=>ρ[j]?) cF with
  |some bs,some iU,some h3=>bif Nat.beq cF.length ρ.length then match jg (idx ρ) bs,Ab.leave tt E rs {env:=st.env,H:=kq ρ h3++st.H,aW:=st.aW} with
   |some H1,some (o,bM)=>some (H1,iU,o,mR bM)
   |_,_=>none
   else none
  |_,_,_=>none
def ps.of{rs:List ResultVar}{fd:FuncId}{ds iU:List D}{x:Option V}(ρ:List Nat){H1 cF yy:List (List a1)}{o:Out}(d:ro P fd iU H1 x λbM=>bM=cF)(hc:RH tt E rs ds ρ cF st=some (H1,iU,o,yy)):
 ps P tt E rs fd ds (λo' bM=>o'=o∧bM=yy) x st:=by
 unfold RH at hc;rw [Bool.cond_eq_ite]at hc;split at hc
 ·cases hc
 rename_i hn;split at hc
 case h_2=>cases hc
 rename_i bs a h3 jX ha sF;rw [Bool.cond_eq_ite]at hc;split at hc
 case isFalse=>cases hc
 rename_i af;split at hc
 case h_2=>cases hc
 rename_i abT o' bM ld jY;simp only [Option.some.injEq,Prod.mk.injEq]at hc;obtain⟨rfl,rfl,rfl,rfl⟩:=hc;refine⟨ρ,bs,abT,a,_,(by simpa using hn),jX,ld,ha,d,λRx ar=>?_⟩
 subst ar;exact⟨h3,o',bM,(by simpa using af),sF,jY,rfl,rfl⟩
def abU{rs:List ResultVar}{fd:FuncId}{ds:List D}{R:Out→List (List a1)→Prop}(h:ps P tt E rs fd ds R none st):IE P tt E rs fd ds R .ret st:=h
def RI{rs:List ResultVar}{fd:FuncId}{ds:List D}{R:Out→List (List a1)→Prop}{x:V}(h:ps P tt E rs fd ds R (some x) st):IE P tt E rs fd ds R (.bd x) st:=h
end
section
variable {P:Program}
def abV{w:World}{b off:Nat}{vs:List Value}{T:TypeId}{nn:Nat×Nat}(h:w.heap[b]? = some (.cells ⟨vs⟩ T nn))(u:Value):
 (w.setCell ⟨b,off,none⟩ u).heap[b]? = some (.cells ⟨vs.set off u⟩ T nn):=by
 have c8:=lt_of_heap h;have de:w.heap[b] = .cells ⟨vs⟩ T nn:=by simpa [Array.getElem?_eq_getElem c8]using h
 show(w.heap.modify b _)[b]? = _
 rw [Array.getElem?_eq_getElem (by simpa using c8),Array.getElem_modify_self,de]
 simp
def abW{w:World}{b off:Nat}{u:Value}(k:Nat)(h:k≠b):(w.setCell ⟨b,off,none⟩ u).heap[k]? = w.heap[k]? := Go.RowKit.Below.heap_setCell w ⟨b,off,none⟩ u k h
def RJ {f : FuncId} {fd : Func} {off : Nat} {u : TypeId} (lI : P.funcs[f]? = some fd) (IM : fd.body.isSome = true) (hn : decide (fd.name = "runtime.NumGoroutine") = false)
 (abX:∀(b:Nat) (w:World),w.cell? ⟨b,off,none⟩=some (.pointer (some ⟨b,off,none⟩))→Calls P f #[.pointer (some ⟨b,off,none⟩)] w λe w'=>e = .returned (.tuple #[])∧w'=w)
 (abY:∀(b:Nat) (w:World) (T:TypeId) (k:Nat),w.cell? ⟨b,off,none⟩=some (.pointer none)→w.shape? b=some (T,k)→off<k→liesAt P P.depth T (k / P.cellsOf T) off u 1=true→w.frozen? ⟨b,off,none⟩=false→
  Calls P f #[.pointer (some ⟨b,off,none⟩)] w λe w'=>e = .returned (.tuple #[])∧w'=w.setCell ⟨b,off,none⟩ (.pointer (some ⟨b,off,none⟩)))
 {cs:List a1} (ei:cs[off]? = some ⟨.co 0 off u,none⟩):gk P f [.ptr 0 off] [] [cs] (.ret (.cx []) none) [cs]:=by
 refine⟨⟨fd,lI,IM,by simpa using hn⟩,λK w vs M β hlen hs gE=>?_⟩
 obtain⟨v,rfl⟩:∃v,vs=[v]:=by
  match vs,hlen with
  |[v],_=>exact⟨v,rfl⟩
 have qi:=hs.e_ (.slot 0) ⟨.ptr 0 off,none⟩ (by simp [aI.at,gU,qk,cK,look])
 have sK:cp (⟨[v]⟩:Array Value) w β (.slot 0)=v:=by simp [cp]
 rw [sK]at qi;obtain⟨b,hb,rfl⟩:∃b,β 0=some b∧v = .pointer (some ⟨b,off,none⟩):=by cases qi with|ptr r o b h=>exact⟨b,h,rfl⟩
 have hl0:look (cK 0 [cs]) 0=some cs:=by simp [cK,look]
 obtain⟨bC,ws,T,bQ,bx,RK,abZ,ab0,il,hlies⟩:=hs.box 0 cs hl0;rw [hb]at bQ;cases bQ;have rb:off<cs.length:=(List.getElem?_eq_some_iff.1 ei).1;have yz:ws[off]? = some ws[off]:=List.getElem?_eq_getElem (by omega)
 have hy:w.cell? ⟨b,off,none⟩=some ws[off]:=by rw [cell_of_heap bx,yz]
 have f9:=hs.e_ (.cell 0 off) ⟨.co 0 off u,none⟩ (by simp [aI.at,hl0,ei])
 have b':cp (⟨[.pointer (some ⟨b,off,none⟩)]⟩:Array Value) w β (.cell 0 off)=ws[off]:=by simp [cp,hb,hy]
 rw [b']at f9
 have fin:∀w',bH P K M β {env:=[],H:=cK 0 [cs],aW:=[cs].length} #[.tuple #[]] w'→bH P K M β {env:=hJ (.ret (.cx []) none),H:=cK 0 [cs],aW:=[cs].length} #[.tuple #[]] w':=λw' h=>by
  have:=h.put (t:=0) (v:=.tuple #[]) (e:=⟨.cx [],none⟩) (by simp) (.cx [] [] rfl λi v c ay=>by simp at ay) (λT aS=>by cases aS)
  exact this
 generalize hx:ws[off]=x at hy f9 yz
 cases f9 with
 |kS r o md=>
  have hsh:w.shape? b=some (T,ws.length):=by simp [World.shape?,bx]
  have hfz:w.frozen? ⟨b,off,none⟩=false:=by simp [World.frozen?,bx]
  have lE:=hlies _ (List.mem_of_getElem? ei) 0 off u rfl;refine(abY b w T ws.length hy hsh (by omega) lE hfz).mono ?_
  rintro e w' ⟨rfl,rfl⟩
  refine⟨_,_,.tuple #[],M,β,⟨rfl,rfl⟩,rfl,fin _ ?_⟩
  have Z:=(hs.yc #[.tuple #[]]).G5 (r:=0) (b:=b) (cs:=cs) (w':=w.setCell ⟨b,off,none⟩ (.pointer (some ⟨b,off,none⟩))) hl0 hb bx (vs':=ws.set off (.pointer (some ⟨b,off,none⟩))) (cs':=cs) (by simpa using RK)
   (λy cl=>by
    rcases List.mem_or_eq_of_mem_set cl with h|rfl
    ·exact il y h
    ·rfl) (λh=>by rw [List.length_set];exact h) rfl (abV bx _) (λk hk=>abW k hk) cs.length (λi y e cl he=>by
    by_cases hi:off=i
    ·subst hi;rw [List.getElem?_set_self (by omega)]at cl
     cases cl;rw [ei]at he;cases he;exact⟨.co 0 off b u hb,λT aS=>by cases aS⟩
    ·rw [List.getElem?_set_ne hi]at cl;have uU:=(List.getElem?_eq_some_iff.1 he).1;refine⟨?_,λT aS=>.inl ⟨by omega,⟨e,he,aS⟩,cl⟩⟩
     have:=hs.e_ (.cell 0 i) e (by simp [aI.at,hl0,he])
     simpa [cp,hb,cell_of_heap bx,cl]using this)
  refine Z.sub rfl (λl e af=>⟨e,?_,rfl,λ_ h=>h⟩) (λr c ak=>⟨c,?_,rfl⟩)
  ·cases l with
   |slot s=>exact af
   |cell r i=>
    simp only [aI.at,dP]at af ⊢;by_cases ak:r=0
    ·subst ak;rw [hl0]at af;simpa using af
    ·simp [cK,dP,Ne.symm ak,look]at af
  ·simp only [dP]at ak ⊢;by_cases k7:r=0
   ·subst k7;rw [hl0]at ak;simpa using ak
   ·simp [cK,dP,Ne.symm k7,look]at ak
 |co r o hz md fR=>
  rw [hb]at fR;cases fR;refine(abX b w hy).mono ?_
  rintro e w' ⟨rfl,rfl⟩
  exact⟨_,_,.tuple #[],M,β,⟨rfl,rfl⟩,rfl,fin _ (hs.yc _)⟩
end
section
variable {P:Program}
def RL {f : FuncId} {fd : Func} {T5 : TypeId} (lI : P.funcs[f]? = some fd) (IM : fd.body.isSome = true) (hn : decide (fd.name = "runtime.NumGoroutine") = false) (ab1 : P.cellsOf T5 = 1)
 (n9:∀(b:Nat) (w:World),w.cell? ⟨b,1,none⟩=some (.slice none 0 0)→Calls P f #[.pointer (some ⟨b,0,none⟩)] w λe w'=>e = .returned (.string ⟨#[]⟩)∧w'=w.drew)
 (su:∀(b g cap:Nat) (w:World),cap≠0→w.cell? ⟨b,1,none⟩=some (.slice (some ⟨g,0,none⟩) 0 cap)→Calls P f #[.pointer (some ⟨b,0,none⟩)] w λe w'=>e = .returned (.string ⟨#[]⟩)∧w'=w.drew)
 (ab2:∀(b g:Nat) (w:World) (vs:List Value),w.cell? ⟨b,1,none⟩=some (.slice (some ⟨g,0,none⟩) 0 0)→b<w.heap.size→w.heap[g]? = some (.cells ⟨vs⟩ T5 (0,0))→
  Calls P f #[.pointer (some ⟨b,0,none⟩)] w λe w'=>e = .returned (.string ⟨#[]⟩)∧w'=(w.drew.alloc (.view ⟨g,0,none⟩ T5)))
 (sE:∀(b g cap:Nat) (w:World) (vs:List Value) (l:al5),l≠[]→w.cell? ⟨b,1,none⟩=some (.slice (some ⟨g,0,none⟩) l.length cap)→w.heap[g]? = some (.cells ⟨vs⟩ T5 (0,0))→
  l.length≤cap→cap≤vs.length→l.length≤9223372036854775807→(∀(j:Nat) (x:UInt8),l[j]? = some x→vs[j]? = some (Value.int .u8 x.toNat))→
  Calls P f #[.pointer (some ⟨b,0,none⟩)] w λe w'=>e = .returned (.string ⟨l.toArray⟩)∧w'=w.drew.freeze ⟨g,0,none⟩ l.length)
 {d0:a1} {cs:List a1} {l:al5} {n:Nat} {get:Nat→V} (h7:n=l.length∧∀i,i<l.length→get i = .int .u8 ((l.getD i 0).toNat:Int)) (h63:l.length≤9223372036854775807):
 gk P f [.ptr 0 0] [] [d0::⟨.v (.bD 1 n get),some T5⟩::cs] (.ret (.v (.str l)) none) [d0::⟨.v (.bD 1 n get),none⟩::cs]:=by
 obtain⟨rfl,h7⟩:=h7;refine⟨⟨fd,lI,IM,by simpa using hn⟩,λK w vs M β hlen hs gE=>?_⟩
 obtain⟨v,rfl⟩:∃v,vs=[v]:=by
  match vs,hlen with
  |[v],_=>exact⟨v,rfl⟩
 have qi:=hs.e_ (.slot 0) ⟨.ptr 0 0,none⟩ (by simp [aI.at,gU,qk,cK,look])
 have sK:cp (⟨[v]⟩:Array Value) w β (.slot 0)=v:=by simp [cp]
 rw [sK]at qi;obtain⟨b,hb,rfl⟩:∃b,β 0=some b∧v = .pointer (some ⟨b,0,none⟩):=by cases qi with|ptr r o b h=>exact⟨b,h,rfl⟩
 generalize la:d0::(⟨.v (.bD 1 l.length get),some T5⟩:a1)::cs=me at hs
 have jW:me[1]? = some ⟨.v (.bD 1 l.length get),some T5⟩:=by rw [←la];rfl
 have hl0:look (cK 0 [me]) 0=some me:=by simp [cK,look]
 obtain⟨bC,ws,T,bQ,bx,RK,abZ,ab0,il⟩:=hs.box 0 me hl0;rw [hb]at bQ;cases bQ;have rb:1<me.length:=(List.getElem?_eq_some_iff.1 jW).1;have yz:ws[1]? = some ws[1]:=List.getElem?_eq_getElem (by omega)
 have hy:w.cell? ⟨b,1,none⟩=some ws[1]:=by rw [cell_of_heap bx,yz]
 have RM:({env:=gU [.ptr 0 0] [],H:=cK 0 [me],aW:=[me].length}:aI).at (.cell 0 1)=some ⟨.v (.bD 1 l.length get),some T5⟩:=by simp [aI.at,hl0,jW]
 have f9:=hs.e_ _ _ RM;have fP:=hs.own _ _ T5 RM rfl;have b':cp (⟨[.pointer (some ⟨b,0,none⟩)]⟩:Array Value) w β (.cell 0 1)=ws[1]:=by simp [cp,hb,hy]
 rw [b']at f9 fP
 -- lb state behind it
 have sD:∀(j:Nat) bf,(d0::(⟨.v (.bD 1 l.length get),none⟩:a1)::cs)[j]? = some bf→∃b5,me[j]? = some b5∧b5.d=bf.d∧(∀T,bf.own=some T→b5.own=some T∧j≠1):=by
  intro j bf hj;rw [←la]
  match j with
  | 0=>simp only [List.getElem?_cons_zero,Option.some.injEq]at hj ⊢;subst hj;exact⟨_,rfl,rfl,λT aS=>⟨aS,by omega⟩⟩
  | 1=>simp only [List.getElem?_cons_succ,List.getElem?_cons_zero,Option.some.injEq]at hj ⊢;subst hj;exact⟨_,rfl,rfl,λT aS=>by cases aS⟩
  |j+2=>simp only [List.getElem?_cons_succ]at hj ⊢;exact⟨bf,hj,rfl,λT aS=>⟨aS,by omega⟩⟩
 obtain⟨oh,nw⟩:=hs.PB (r:=0) (i:=1) (cs':=d0::⟨.v (.bD 1 l.length get),none⟩::cs) hl0 jW rfl (by rw [←la];rfl) sD (.slot 0)
 rw [b']at nw
 have fin:∀w' M',bH P K M' β {env:=gU [.ptr 0 0] [],H:=(0,d0::⟨.v (.bD 1 l.length get),none⟩::cs)::cK 0 [me],aW:=[me].length} ⟨[.pointer (some ⟨b,0,none⟩)]⟩ w'→
  bH P K M' β {env:=hJ (.ret (.v (.str l)) none),H:=cK 0 [d0::⟨.v (.bD 1 l.length get),none⟩::cs],aW:=[me].length} #[.string ⟨⟨l⟩⟩] w':=λw' M' h=>by
  have Z:=(h.yc #[.string ⟨⟨l⟩⟩]).put (t:=0) (v:=.string ⟨⟨l⟩⟩) (e:=⟨.v (.str l),none⟩) (by simp) (.v _ _ (.str l)) (λT aS=>by cases aS)
  refine Z.sub rfl (λq e aB=>⟨e,?_,rfl,λ_ h=>h⟩) (λr c ak=>⟨c,?_,rfl⟩)
  ·cases q with
   |slot s=>exact aB
   |cell r i=>
    simp only [aI.at,dP]at aB ⊢;by_cases ak:r=0
    ·subst ak;simpa [cK,look]using aB
    ·simp [cK,dP,Ne.symm ak,look]at aB
  ·simp only [dP]at ak ⊢;by_cases k7:r=0
   ·subst k7;simpa [cK,look]using ak
   ·simp [cK,dP,Ne.symm k7,look]at ak
 have ab3:b<w.heap.size:=lt_of_heap bx;have CI:bH P K M β {env:=gU [.ptr 0 0] [],H:=(0,d0::⟨.v (.bD 1 l.length get),none⟩::cs)::cK 0 [me],aW:=[me].length} ⟨[.pointer (some ⟨b,0,none⟩)]⟩ w.drew:=oh.drew _;have RN:[me].length=1:=rfl;generalize hx:ws[1]=x at hy f9 fP nw yz
 rcases fP with h0|⟨g,n,cap,us,T',Z,ae,ar,aK,bc,b2,cU⟩
 ·subst h0;obtain⟨_,af⟩|⟨_,_,_,_,h,_⟩:=q0 f9
  ·obtain rfl:=List.eq_nil_of_length_eq_zero af;refine(n9 b w hy).mono ?_
   rintro e w' ⟨rfl,rfl⟩
   exact⟨_,_,_,M,β,⟨rfl,rfl⟩,rfl,fin _ M CI⟩
  ·cases h
 ·subst cU
  have ab4:∃(b off cap:Nat) (val:Nat→Nat→Value),x = .slice (some ⟨b,off,none⟩) l.length cap∧l.length≤cap∧(∀i,i<l.length→(get i).cells.length=1)∧(∀i j,i<l.length→j<1→M b (off+i*1+j)=some (val i j))∧
   (∀i j,i<l.length→j<1→(val i j).oneCell'=true)∧(∀(i j:Nat) c,i<l.length→(get i).cells[j]? = some c→cY M (val i j) c):=by
   rcases q0 f9 with⟨h|⟨a,h⟩,dE⟩|hx
   ·rw [Z]at h;cases h
   ·rw [Z]at h;simp only [Value.slice.injEq,Option.some.injEq]at h;obtain⟨rfl,rfl,rfl⟩:=h;exact⟨g,0,0,λ_ _=>undef,Z.trans (by rw [dE]),by omega,λi hi=>by omega,λi j hi=>by omega,λi j hi=>by omega,λi j c hi=>by omega⟩
   ·exact hx
  obtain⟨g2,off,akT,val,ay,hc,hk,cM,akU,ik⟩:=ab4
  focus
  ·rw [Z]at ay;simp only [Value.slice.injEq,Option.some.injEq,Addr.mk.injEq,and_true]at ay;obtain⟨⟨rfl,rfl⟩,rfl,rfl⟩:=ay;rw [ab1,Nat.mul_one]at aK;subst Z;by_cases af:l=[]
   ·subst af;by_cases hcap:cap=0
    ·subst hcap;refine(ab2 b g w us hy ab3 ar).mono ?_
     rintro e w' ⟨rfl,rfl⟩
     refine⟨_,_,_,M,β,⟨rfl,rfl⟩,rfl,fin _ M (CI.grow (λk hk=>?_))⟩
     exact Go.Lib.alloc_old _ _ k hk
    ·refine(su b g cap w hcap hy).mono ?_
     rintro e w' ⟨rfl,rfl⟩
     exact⟨_,_,_,M,β,⟨rfl,rfl⟩,rfl,fin _ M CI⟩
   ·have xR:∀(j:Nat) (x:UInt8),l[j]? = some x→us[j]? = some (Value.int .u8 x.toNat):=by
     intro j x hx;have hj:j<l.length:=(List.getElem?_eq_some_iff.1 hx).1;have e1:=hs.mem _ _ _ (cM j 0 hj (by omega))
     have e2:=h7 j hj;have e3:=ik j 0 (.int .u8 ((l.getD j 0).toNat:Int)) hj (by rw [e2];rfl)
     rw [cell_of_heap ar,show 0+j*1+0=j by omega]at e1
     rw [e1];generalize val j 0=y at e3 ⊢
     cases e3;simp [List.getD,hx]
    refine(sE b g cap w us l af hy ar hc aK h63 xR).mono ?_
    rintro e w' ⟨rfl,rfl⟩
    refine⟨_,_,.string ⟨⟨l⟩⟩,M,β,⟨rfl,rfl⟩,rfl,fin _ M ?_⟩
    have hfz:(w.drew.freeze ⟨g,0,none⟩ l.length).os=w.drew.os∧(w.drew.freeze ⟨g,0,none⟩ l.length).output=w.drew.output∧(∀k,k≠g→(w.drew.freeze ⟨g,0,none⟩ l.length).heap[k]? = w.drew.heap[k]?)∧∃nn,(w.drew.freeze ⟨g,0,none⟩ l.length).heap[g]? = some (.cells ⟨us⟩ T' nn):=by
     have hg':w.drew.heap[g]? = some (.cells ⟨us⟩ T' (0,0)):=ar;have c8:=lt_of_heap hg';have de:w.drew.heap[g] = .cells ⟨us⟩ T' (0,0):=by simpa [Array.getElem?_eq_getElem c8]using hg'
     unfold World.freeze;split
     ·exact⟨rfl,rfl,λ_ _=>rfl,_,hg'⟩
     ·refine⟨rfl,rfl,λk hk=>?_,?_⟩
      ·simp only [Array.getElem?_modify];rw [if_neg (by simpa using(Ne.symm hk))]
      ·simp only [Array.getElem?_modify];rw [if_pos trivial,hg'];exact⟨_,rfl⟩
    obtain⟨f1,f2,f3,nn,f4⟩:=hfz;refine CI.free g b2 (λr c ak lf=>nw.unbox g r c rfl ak lf) (λq e gF aB q6 ab5=>?_) (λk hk _=>f3 k hk) (Mem.le_refl _) (λ_ _ _=>rfl) (λo v ay=>?_) (by rw [f1,f2])
    ·refine nw.apart q e gF g aB q6 ?_ rfl ab5
     rintro rfl
     simp only [aI.at,gU,qk,cK,look]at aB;simp at aB;subst aB;cases q6
    ·have:=hs.mem _ _ _ ay
     rw [cell_of_heap ar]at this;rw [cell_of_heap f4,this]
end
def rq(w:World):Mem:=λb o=>w.cell? ⟨b,o,none⟩
def fK(w:World)(vs:List Value)(cs:List V):Prop:=
 vs.length=cs.length∧(∀v,v∈vs→v.oneCell'=true)∧∀(i:Nat) v c,vs[i]? = some v→cs[i]? = some c→cY (rq w) v c
def fK.nil{w:World}:fK w [] []:=⟨rfl,(λv h=>by cases h),λi v c h=>by simp at h⟩
def fK.one{w:World}{v:Value}{c:V}(Z:v.oneCell'=true)(h:cY (rq w) v c):fK w [v] [c]:=
 ⟨rfl,(λu hu=>by obtain rfl:=List.mem_singleton.1 hu;exact Z),λi u d hu hd=>by
  match i with
  | 0=>cases hu;cases hd;exact h
  |i+1=>simp at hu⟩
def fK.app{w:World}{vs us:List Value}{cs ds:List V}(h:fK w vs cs)(de:fK w us ds):fK w (vs++us) (cs++ds):=by
 refine⟨by simp [h.1,de.1],λv ay=>?_,λi v c ay hc=>?_⟩
 ·rcases List.mem_append.1 ay with ay|ay
  ·exact h.2.1 v ay
  ·exact de.2.1 v ay
 ·by_cases hi:i<vs.length
  ·rw [List.getElem?_append_left hi]at ay;rw [List.getElem?_append_left (by rw [←h.1];exact hi)]at hc
   exact h.2.2 i v c ay hc
  ·rw [List.getElem?_append_right (by omega)]at ay
   rw [List.getElem?_append_right (by rw [←h.1];omega),←h.1]at hc
   exact de.2.2 _ v c ay hc
def fK.CJ{w:World}{vs:List Value}{cs ds:List V}(h:fK w vs cs)(ay:jD cs ds):fK w vs ds:=by
 refine⟨h.1.trans ay.len,h.2.1,λi v c hi hc=>?_⟩
 obtain⟨x,hx,q4⟩:=ay.at i hc;exact q4 _ _ (h.2.2 i v x hi hx)
def fK.agg{w:World}{vs:List Value}{cs:List V}(h:fK w vs cs):cY (rq w) (.agg ⟨vs⟩) (.agg cs):=.agg vs cs h.1 h.2.1 h.2.2
def RO{α:Type}[Inhabited α]:∀(n:Nat) (Q:Nat→α→Prop),(∀i,i<n→∃a,Q i a)→∃l:List α,l.length=n∧∀i,i<n→Q i (l.getD i default)
 | 0,Q,h=>⟨[],rfl,λi hi=>by omega⟩
 |n+1,Q,h=>by
  obtain⟨l,Z,ae⟩:=RO n Q λi hi=>h i (by omega)
  obtain⟨a,ha⟩:=h n (by omega)
  refine⟨l++[a],by simp [Z],λi hi=>?_⟩
  by_cases hin:i<n
  ·have:=ae i hin
   simpa [List.getD,List.getElem?_append_left (show i<l.length by omega)]using this
  ·obtain rfl:i=n:=by omega
   simpa [List.getD,←Z]using ha
section
variable {H:Type} {enc:TypeId×Value→H} {P:Program} {w:World}
def ia{fuel:Nat}{t:TypeId}{k:IntKind}{cs:List Value}{x:DataW H×List MemPlace}(bS:P.underlying t=some (.int k))(h:DataW.trod enc P w 0 (λ_=>true) true fuel t cs=some x):
 ∃n:Int,(k.min≤n∧n≤k.max)∧fK w cs [.int k n]:=by
 obtain⟨n,rfl,_,hw⟩:=DataW.trod_int bS h;refine⟨n,by simpa [Lit.wf]using hw,.one rfl (.int _ _)⟩
def RP{fuel:Nat}{t:TypeId}{cs:List Value}{x:DataW H×List MemPlace}(bS:P.underlying t=some .bool)(h:DataW.trod enc P w 0 (λ_=>true) true fuel t cs=some x):
 ∃b:Bool,fK w cs [.bool b]:=by
 obtain⟨b,rfl,_⟩:=DataW.trod_bool bS h;exact⟨b,.one rfl (.bool _)⟩
def nC{fuel:Nat}{t:TypeId}{cs:List Value}{x:DataW H×List MemPlace}(bS:P.underlying t=some .string)(h:DataW.trod enc P w 0 (λ_=>true) true fuel t cs=some x):
 ∃s:al5,s.length≤9223372036854775807∧fK w cs [.str s]:=by
 obtain⟨s,rfl,_,hw⟩:=DataW.trod_string bS h;exact⟨s.data.toList,by simpa [maxLen]using hw,.one rfl (.str s.data.toList)⟩
def kY{α:Type}[Inhabited α]{fuel:Nat}{t e:TypeId}{k:Nat}{cs:List Value}{x:DataW H×List MemPlace}{encA:α→V}{ok:α→Prop}(bS:P.underlying t=some (.slice e))(hk:P.cellsOf e=k)(ir:0<k)
 (h:DataW.trod enc P w 0 (λ_=>true) true fuel t cs=some x)
 (ak:∀n cs' fH,n<fuel→DataW.trod enc P w 0 (λ_=>true) true n e cs'=some fH→∃a:α,ok a∧fK w cs' (encA a).cells):
 ∃l:List α,l.length≤9223372036854775807∧(∀i,i<l.length→ok (l.getD i default))∧fK w cs [ai k encA l]:=by
 rcases DataW.trod_slice bS h with⟨rfl,_⟩|⟨a,len,cap,elems,rest,n,rfl,rfl,_,_,yA,ab6,kz,he,ab7,_⟩
 ·exact⟨[],by simp,(λi hi=>by simp at hi),.one rfl (.k5 _ _)⟩
 ·have oc:∀i,i<len→∃b:α,ok b∧∃cs',w.cells? 0 (a.add (i*k)) k=some cs'∧fK w cs' (encA b).cells:=by
   intro i hi;have Z:=he i hi;rw [List.getElem?_eq_getElem (by omega),Option.bind_eq_some_iff,hk]at Z
   obtain⟨cs',ae,ar⟩:=Z;obtain⟨b,aK,bc⟩:=ak n cs' _ (by omega) ar
   exact⟨b,aK,cs',ae,bc⟩
  obtain⟨l,af,d_⟩:=RO len _ oc;subst af;refine⟨l,by unfold maxLen at ab6;omega,λi hi=>(d_ i hi).1,?_⟩
  by_cases hc0:cap=0
  ·obtain rfl:l=[]:=List.eq_nil_of_length_eq_zero (by omega)
   subst hc0;exact .one rfl (.n2 _ _ _)
  ·have RQ:a.spot=none:=by
    have h0:∃cs',w.cells? 0 (a.add (0*k)) k=some cs':=by
     by_cases hl0:l.length=0
     ·obtain⟨Z,ae⟩:=ab7 rfl;have ar:=ae 0 (by omega)
      rw [List.getElem?_eq_getElem (by omega),Option.bind_eq_some_iff,hk,hl0]at ar
      obtain⟨cs',aK,_⟩:=ar;exact⟨cs',aK⟩
     ·obtain⟨_,cs',aK,_⟩:=d_ 0 (by omega)
      exact⟨cs',aK⟩
    obtain⟨cs',aK⟩:=h0;obtain⟨_,bc,b2⟩:=World.cells?_some aK;have cU:=b2 0 ir;rw [List.getElem?_eq_getElem (by omega),Nat.zero_mul]at cU
    have:(a.add 0).add 0=a:=by simp [Addr.add]
    rw [this]at cU;exact World.cell?_spot cU
   obtain⟨b,off,sp⟩:=a;simp only at RQ
   subst RQ
   have b':∀i j,i<l.length→j<k→∃cs':List Value,cs'.length=k∧fK w cs' (encA (l.getD i default)).cells∧w.cell? ⟨b,off+i*k+j,none⟩=cs'[j]? := by
    intro i j hi hj;obtain⟨_,cs',Z,ae⟩:=d_ i hi;obtain⟨_,bc,b2⟩:=World.cells?_some Z;refine⟨cs',bc,ae,?_⟩
    rw [←b2 j hj,addr_add,addr_add]
   have RR:∀i,i<l.length→(encA (l.getD i default)).cells.length=k:=by
    intro i hi;obtain⟨cs',Z,ae,_⟩:=b' i 0 hi ir;rw [←ae.1,Z]
   refine .one rfl (.bD b off k l.length cap _ (λi j=>(w.cell? ⟨b,off+i*k+j,none⟩).getD undef) yA RR (λi j hi hj=>?_) (λi j hi hj=>?_) (λi j c hi hc=>?_))
   ·obtain⟨cs',Z,ae,ar⟩:=b' i j hi hj;unfold rq;rw [ar,List.getElem?_eq_getElem (by omega)];rfl
   ·obtain⟨cs',Z,ae,ar⟩:=b' i j hi hj;rw [ar,List.getElem?_eq_getElem (by omega)]
    exact ae.2.1 _ (List.getElem_mem _)
   ·have hj:j<k:=by rw [←RR i hi];exact(List.getElem?_eq_some_iff.1 hc).1
    obtain⟨cs',Z,ae,ar⟩:=b' i j hi hj;rw [ar,List.getElem?_eq_getElem (by omega)]
    exact ae.2.2 j _ c (List.getElem?_eq_getElem (by omega)) hc
end
section
variable {P:Program} {K:Ctx} {N E:Nat} {M:Mem} {β:Nat→Option Nat} {st bW:aI} {tmps:Array Value} {w:World}
mutual
def pw(r:Nat)(x:V):D→D
 |.v y=>.v y
 |.ptr q off=>bif Nat.beq q r&&Nat.beq off 0 then .eI x else .ptr q off
 |.co q off u=>.co q off u
 |.eI y=>.eI y
 |.full k n g=>.full k n g
 |.fn f cs=>.fn f (px r x cs)
 |.agg cs=>.agg (px r x cs)
 |.cx cs=>.cx (px r x cs)
def px(r:Nat)(x:V):List D→List D
 |[]=>[]
 |d::l=>pw r x d::px r x l
end
def CK(r:Nat)(x:V):∀(l:List D) (i:Nat),(px r x l)[i]? = (l[i]?).map (pw r x)
 |[],i=>by simp [px]
 |d::l,0=>by simp [px]
 |d::l,i+1=>by simp only [px,List.getElem?_cons_succ];exact CK r x l i
def CL(r:Nat)(x:V):∀l:List D,(px r x l).length=l.length
 |[]=>rfl
 |d::l=>by simp only [px,List.length_cons,CL r x l]
def ct.nn{M':Mem}(cM:M.le M'){r b:Nat}{x:V}{u:Value}(hb:β r=some b)(hx:x.isAgg=false)(hu:M' b 0=some u)(Z:u.oneCell'=true)(ak:cY M' u x){v:Value}{d:D}(h:ct M β v d):ct M' β v (pw r x d):=by
 induction h with
 |v u x h=>exact .v u x (h.mono cM)
 |ptr q off bC h=>
  simp only [pw];cases hc:Nat.beq q r&&Nat.beq off 0 with
  |false=>exact .ptr q off bC h
  |true=>
   simp only [Bool.and_eq_true,Nat.beq_eq]at hc;obtain⟨rfl,rfl⟩:=hc;rw [hb]at h;cases h;have u9:=uS hx;refine .eI b 0 x (λ_=>u) (λj hj=>?_) (λj hj=>Z) (λj c hc=>?_)
   ·rw [u9]at hj;simp at hj
    subst hj;exact hu
   ·rw [u9]at hc;cases j with
    |zero=>simp at hc;subst hc;exact ak
    |succ j=>simp at hc
 |kS q off t=>exact .kS q off t
 |co q off bC t h=>exact .co q off bC t h
 |eI b off x val hm Z h=>exact .eI b off x val (λj hj=>cM _ _ _ (hm j hj)) Z (λj c hc=>(h j c hc).mono cM)
 |full base k n get h=>exact .full base k n get (h.mono cM)
 |fn f vs cs hn _ a7=>
  simp only [pw];refine .fn f vs _ (by rw [CL];exact hn) λi v c ay hc=>?_
  rw [CK]at hc;simp only [Option.map_eq_some_iff]at hc;obtain⟨c0,h0,rfl⟩:=hc;exact a7 i v c0 ay h0
 |agg vs cs hn Z _ a7=>
  simp only [pw];refine .agg vs _ (by rw [CL];exact hn) Z λi v c ay hc=>?_
  rw [CK]at hc;simp only [Option.map_eq_some_iff]at hc;obtain⟨c0,h0,rfl⟩:=hc;exact a7 i v c0 ay h0
 |cx vs cs hn _ a7=>
  simp only [pw];refine .cx vs _ (by rw [CL];exact hn) λi v c ay hc=>?_
  rw [CK]at hc;simp only [Option.map_eq_some_iff]at hc;obtain⟨c0,h0,rfl⟩:=hc;exact a7 i v c0 ay h0
def vj(r:Nat)(x:V)(e:a1):a1:={d:=pw r x e.d,own:=e.own}
def CM(r:Nat)(x:V):List (Nat×a1)→List (Nat×a1)
 |[]=>[]
 |(t,e)::l=>(t,vj r x e)::CM r x l
def CN(r:Nat)(x:V):List (Nat×List a1)→List (Nat×List a1)
 |[]=>[]
 |(t,cs)::l=>(t,cs.map (vj r x))::CN r x l
def RS(r:Nat)(x:V):∀(l:List (Nat×a1)) (s:Nat),look (CM r x l) s=(look l s).map (vj r x)
 |[],s=>rfl
 |(t,e)::l,s=>by
  simp only [CM,dP];by_cases h:t=s
  ·simp [h]
  ·simp only [h,if_false];exact RS r x l s
def IN(r:Nat)(x:V):∀(l:List (Nat×List a1)) (s:Nat),look (CN r x l) s=(look l s).map λcs=>cs.map (vj r x)
 |[],s=>rfl
 |(t,cs)::l,s=>by
  simp only [CN,dP];by_cases h:t=s
  ·simp [h]
  ·simp only [h,if_false];exact IN r x l s
def rr(r:Nat)(x:V)(st:aI):aI:={env:=CM r x st.env,H:=CN r x (del st.H r),aW:=st.aW}
def yB{r:Nat}{x:V}{l:Loc}{bf:a1}(h:(rr r x st).at l=some bf):∃e,aI.at {env:=st.env,H:=del st.H r,aW:=st.aW} l=some e∧bf=vj r x e:=by
 cases l with
 |slot s=>
  simp only [aI.at,rr,RS,Option.map_eq_some_iff]at h ⊢;obtain⟨e,Z,ae⟩:=h;exact⟨e,Z,ae.symm⟩
 |cell q i=>
  simp only [aI.at,rr,IN,Option.bind_eq_some_iff,Option.map_eq_some_iff]at h ⊢;obtain⟨cs,⟨kA,Z,rfl⟩,ae⟩:=h;rw [List.getElem?_map,Option.map_eq_some_iff]at ae;obtain⟨e,ar,aK⟩:=ae;exact⟨e,⟨kA,Z,ar⟩,aK.symm⟩
def ab8{r:Nat}{x:V}{d:D}{q off:Nat}{u:TypeId}(h:pw r x d = .co q off u):d = .co q off u:=by
 cases d<;>simp only [pw]at h
 case ptr q' o'=>cases hc:Nat.beq q' r&&Nat.beq o' 0<;>rw [hc]at h<;>cases h
 all_goals first|exact h|cases h
def bH.freeze(h:bH P K M β st tmps w){r:Nat}{x:V}{own:Option TypeId}(ak:look st.H r=some [⟨.v x,own⟩])(hx:x.isAgg=false):∃M',bH P K M' β (rr r x st) tmps w:=by
 obtain⟨b,vs,T,hb,bx,hlen,RT,dF,il,hlies⟩:=h.box r _ ak
 obtain⟨u,rfl⟩:∃u,vs=[u]:=by
  match vs,hlen with
  |[u],_=>exact⟨u,rfl⟩
 have CO:∀q cs,look (del st.H r) q=some cs→q≠r∧look st.H q=some cs:=by
  intro q cs aB;rw [pc]at aB;split at aB
  ·cases aB
  ·rename_i ea;exact⟨λe=>ea e.symm,aB⟩
 have Z:bH P K M β {env:=st.env,H:=del st.H r,aW:=st.aW} tmps w:=h.sub rfl (λl e af=>by
  cases l with
  |slot s=>exact⟨e,af,rfl,λ_ h=>h⟩
  |cell q i=>
   simp only [aI.at,Option.bind_eq_some_iff]at af ⊢;obtain⟨cs,ae,ar⟩:=af;exact⟨e,⟨cs,(CO _ _ ae).2,ar⟩,rfl,λ_ h=>h⟩) (λq cs aB=>⟨cs,(CO _ _ aB).2,rfl⟩)
 have hle:M.le (im M b 0 [u]):=Hp λo _=>RT o
 have hy:im M b 0 [u] b 0=some u:=by simp [im]
 have ae:bH P K (im M b 0 [u]) β {env:=st.env,H:=del st.H r,aW:=st.aW} tmps w:=by
  refine Z.free b dF (λq cs aB ab9=>?_) (λl e T' af aS l7=>?_) (λ_ _ _=>rfl) hle (λbC o ea=>by simp [im,ea]) (λo v ay=>?_)
  ·obtain⟨ar,aK⟩:=CO _ _ aB;exact ar (h.inj q r b _ _ aK ak ab9 hb)
  ·have hl0:∃b5,st.at l=some b5∧b5.own=some T':=by
    cases l with
    |slot s=>exact⟨e,af,aS⟩
    |cell q i=>
     simp only [aI.at,Option.bind_eq_some_iff]at af ⊢;obtain⟨cs,ar,aK⟩:=af;exact⟨e,⟨cs,(CO _ _ ar).2,aK⟩,aS⟩
   obtain⟨b5,ar,aK⟩:=hl0;exact h.unbox l b5 T' b r _ ar aK l7 ak hb
  ·rw [cell_of_heap bx];unfold im at ay;split at ay
   ·rename_i hc;simpa using ay
   ·rw [RT o]at ay;cases ay
 have f9:cY (im M b 0 [u]) u x:=by
  have ar:=h.e_ (.cell r 0) ⟨.v x,own⟩ (by rw [aI.G2 ak];rfl)
  have aK:cp tmps w β (.cell r 0)=u:=by simp only [cp,hb,cell_of_heap bx];simp
  rw [aK]at ar;cases ar with
  |v _ _ bc=>exact bc.mono hle
 refine⟨im M b 0 [u],?_⟩
 have sf:∀q cs',look (rr r x st).H q=some cs'→∃cs,look (del st.H r) q=some cs∧cs'=cs.map (vj r x):=by
  intro q cs' aB;simp only [rr,IN,Option.map_eq_some_iff]at aB;obtain⟨cs,ar,aK⟩:=aB;exact⟨cs,ar,aK.symm⟩
 constructor
 ·intro l bf af;obtain⟨e,ar,rfl⟩:=yB af;exact(ae.e_ l e ar).nn (Mem.le_refl _) hb hx hy (il u (by simp)) f9
 ·intro l bf T' af aS;obtain⟨e,ar,rfl⟩:=yB af;exact ae.own l e T' ar aS
 ·intro l cD e bf T' ab' bC af aS dr d9;obtain⟨e1,ar,rfl⟩:=yB af;obtain⟨e2,aK,rfl⟩:=yB dr;exact ae.uniq l cD e1 e2 T' ab' bC ar aS aK d9
 ·intro l e T' bC q cs af aS l7 aB;obtain⟨e1,ar,rfl⟩:=yB af;obtain⟨kA,aK,_⟩:=sf q cs aB;exact ae.unbox l e1 T' bC q kA ar aS l7 aK
 ·intro q cs aB;obtain⟨kA,aK,rfl⟩:=sf q cs aB;obtain⟨bC,vs',T',g1,g2,g3,g4,g5,g6,g7⟩:=ae.box q kA aK;refine⟨bC,vs',T',g1,g2,by simpa using g3,g4,g5,g6,λe he q' off t hd=>?_⟩
  obtain⟨b5,G6,rfl⟩:=List.mem_map.1 he;exact g7 b5 G6 q' off t (ab8 hd)
 ·intro q q' bC cs cs' aB od dc fR;obtain⟨c1,ar,_⟩:=sf q cs aB;obtain⟨c2,aK,_⟩:=sf q' cs' od;exact ae.inj q q' bC c1 c2 ar aK dc fR
 ·exact ae.lt
 ·exact ae.mem
 ·exact ae.m0
 ·exact ae.frame
 ·exact ae.h4
 ·exact ae.iF
 ·exact ae.gZ
def yC(H:List (Nat×List a1))(r:Nat):Option V:=
 match look H r with
 |some [⟨.v x,_⟩]=>bif x.isAgg then none else some x
 |_=>none
def a'.freeze{c:Code}{Q:cm→aI→Prop}(r:Nat)(x:V)(ak:yC st.H r=some x)(h:a' P N E c Q (rr r x st)):a' P N E c Q st:=by
 rintro K ey a w ⟨he,hd,ej,M,β,cG⟩
 unfold yC at ak;split at ak
 ·rename_i y own af;rw [Bool.cond_eq_ite]at ak;split at ak
  ·cases ak
  ·rename_i hx;cases ak;obtain⟨M',hs⟩:=cG.freeze af (by simpa using hx)
   exact h K ey a w ⟨he,hd,ej,M',β,hs⟩
 ·cases ak
def yD(r:Nat)(st:aI):aI:=match yC st.H r with
 |some x=>rr r x st
 |none=>st
def IP(r:Nat)(Q:cm→aI→Prop):cm→aI→Prop
 |.normal,st=>Q .normal (yD r st)
 |.ret,st=>Q .ret (yD r st)
 |e,st=>Q e st
def RU{K:Ctx}{M:Mem}{β:Nat→Option Nat}{tmps:Array Value}{w:World}(r:Nat)(h:bH P K M β st tmps w):∃M',bH P K M' β (yD r st) tmps w:=by
 unfold yD;cases hx:yC st.H r with
 |none=>exact⟨M,h⟩
 |some x=>
  unfold yC at hx;split at hx
  ·rename_i y own af;rw [Bool.cond_eq_ite]at hx;split at hx
   ·cases hx
   ·rename_i ab_;cases hx;exact h.freeze af (by simpa using ab_)
  ·cases hx
def a'.nn{x:Code}{Q:cm→aI→Prop}(r:Nat)(h:a' P N E x (IP r Q) st):a' P N E x Q st:=by
 intro K ey a w hs;refine wp_mono (h K ey a w hs) ?_
 rintro e dX w' ⟨fs,bW,Z,ae⟩
 cases fs with
 |normal=>
  obtain⟨g1,g2,g3,M,β,g4⟩:=Z;obtain⟨M',g5⟩:=RU r g4;exact⟨.normal,_,⟨g1,g2,g3,M',β,g5⟩,ae⟩
 |ret=>
  obtain⟨g1,g2,g3,M,β,g4⟩:=Z;obtain⟨M',g5⟩:=RU r g4;exact⟨.ret,_,⟨g1,g2,g3,M',β,g5⟩,ae⟩
 |exit i=>exact⟨.exit i,bW,Z,ae⟩
 |bd x=>exact⟨.bd x,bW,Z,ae⟩
def yE(s e:a1):a1:=match s.own with|none=>{d:=e.d} |some _=>e
def vk:List (Nat×a1)→List (Nat×a1)→List (Nat×a1)
 |(_,s)::l,(t,e)::m=>(t,yE s e)::vk l m
 |_,m=>m
def mW:List a1→List a1→List a1
 |s::l,e::m=>yE s e::mW l m
 |_,m=>m
def vl:List (Nat×List a1)→List (Nat×List a1)→List (Nat×List a1)
 |(_,s)::l,(t,cs)::m=>(t,mW s cs)::vl l m
 |_,m=>m
def fit(s st:aI):aI:={env:=vk s.env st.env,H:=vl s.H st.H,aW:=st.aW}
def CP(s e:a1):(yE s e).d=e.d∧∀T,(yE s e).own=some T→e.own=some T:=by
 unfold yE;split
 ·exact⟨rfl,λT h=>by cases h⟩
 ·exact⟨rfl,λT h=>h⟩
def RV:∀(l m:List (Nat×a1)) (t:Nat) (bf:a1),look (vk l m) t=some bf→∃e,look m t=some e∧e.d=bf.d∧∀T,bf.own=some T→e.own=some T
 |[],m,t,bf,h=>⟨bf,by simpa [vk]using h,rfl,λ_ h=>h⟩
 |(a,s)::l,[],t,bf,h=>by simp [vk,look]at h
 |(a,s)::l,(q,e)::m,t,bf,h=>by
  simp only [vk,dP]at h ⊢;split at h
  ·rename_i aB;rw [if_pos aB];cases h;exact⟨e,rfl,(CP s e).1.symm,(CP s e).2⟩
  ·rename_i aB;rw [if_neg aB];exact RV l m t bf h
def RW:∀(l m:List a1) (i:Nat) (bf:a1),(mW l m)[i]? = some bf→∃e,m[i]? = some e∧e.d=bf.d∧∀T,bf.own=some T→e.own=some T
 |[],m,i,bf,h=>⟨bf,by simpa [mW]using h,rfl,λ_ h=>h⟩
 |s::l,[],i,bf,h=>by simp [mW]at h
 |s::l,e::m,0,bf,h=>by
  simp only [mW,List.getElem?_cons_zero,Option.some.injEq]at h;subst h;exact⟨e,rfl,(CP s e).1.symm,(CP s e).2⟩
 |s::l,e::m,i+1,bf,h=>by
  simp only [mW,List.getElem?_cons_succ]at h ⊢;exact RW l m i bf h
def RX:∀l m:List a1,(mW l m).length=m.length
 |[],m=>by simp [mW]
 |s::l,[]=>by simp [mW]
 |s::l,e::m=>by simp only [mW,List.length_cons,RX l m]
def IQ:∀(l m:List (Nat×List a1)) (t:Nat) (cs':List a1),look (vl l m) t=some cs'→∃cs s,look m t=some cs∧cs'=mW s cs
 |[],m,t,cs',h=>⟨cs',[],by simpa [vl]using h,by simp [mW]⟩
 |(a,s)::l,[],t,cs',h=>by simp [vl,look]at h
 |(a,s)::l,(q,cs)::m,t,cs',h=>by
  simp only [vl,dP]at h ⊢;split at h
  ·rename_i aB;rw [if_pos aB];cases h;exact⟨cs,s,rfl,rfl⟩
  ·rename_i aB;rw [if_neg aB];exact IQ l m t cs' h
def bH.fit(h:bH P K M β st tmps w)(s:aI):bH P K M β (fit s st) tmps w:=
 h.sub rfl (λl bf af=>by
  cases l with
  |slot t=>exact RV _ _ _ _ af
  |cell q i=>
   simp only [aI.at,Ab.fit,Option.bind_eq_some_iff]at af;obtain⟨cs',Z,ae⟩:=af;obtain⟨cs,z,ar,rfl⟩:=IQ _ _ _ _ Z;obtain⟨e,aK,bc⟩:=RW _ _ _ _ ae;exact⟨e,by simp only [aI.at,ar,Option.bind_some];exact aK,bc⟩) (λq cs' aB=>by
   obtain⟨cs,z,ar,rfl⟩:=IQ _ _ _ _ aB;exact⟨cs,ar,(RX _ _).symm⟩)
def a'.fit{c:Code}{Q:cm→aI→Prop}(s:aI)(h:a' P N E c Q (Ab.fit s st)):a' P N E c Q st:=by
 rintro K ey a w ⟨he,hd,ej,M,β,cG⟩
 exact h K ey a w ⟨he,hd,ej,M,β,cG.fit s⟩
def a'.py{c:Code}{Q:cm→aI→Prop}(s:aI)(live uO:List Nat)(n:Nat)(ak:(se live uO n st.env st.H st.aW).map (Ab.fit s)=some bW)(cw:Nat.ble E n=true)(h:a' P N E c Q bW):a' P N E c Q st:=by
 simp only [Option.map_eq_some_iff]at ak;obtain⟨akV,Z,rfl⟩:=ak;exact a'.drop live uO n Z cw (h.fit s)
def forget(mX:List Nat):List (Nat×a1)→List (Nat×a1)
 |[]=>[]
 |(t,e)::l=>(t,bif mX.any (Nat.beq t)then {d:=e.d}else e)::forget mX l
def RY(mX:List Nat):∀(m:List (Nat×a1)) (t:Nat) (bf:a1),look (forget mX m) t=some bf→∃e,look m t=some e∧e.d=bf.d∧∀T,bf.own=some T→e.own=some T
 |[],t,bf,h=>by simp [forget,look]at h
 |(q,e)::m,t,bf,h=>by
  simp only [forget,dP]at h ⊢;split at h
  ·rename_i aB;rw [if_pos aB];cases h;refine⟨e,rfl,?_⟩
   cases mX.any (Nat.beq q)
   ·exact⟨rfl,λ_ h=>h⟩
   ·exact⟨rfl,λT h=>by cases h⟩
  ·rename_i aB;rw [if_neg aB];exact RY mX m t bf h
def a'.forget{c:Code}{Q:cm→aI→Prop}(mX:List Nat)(h:a' P N E c Q {env:=Ab.forget mX st.env,H:=st.H,aW:=st.aW}):a' P N E c Q st:=by
 rintro K ey a w ⟨he,hd,ej,M,β,cG⟩
 refine h K ey a w ⟨he,hd,ej,M,β,cG.sub rfl (λl bf af=>?_) (λq cs aB=>⟨cs,aB,rfl⟩)⟩
 cases l with
 |slot t=>exact RY _ _ _ _ af
 |cell q i=>exact⟨bf,af,rfl,λ_ h=>h⟩
end
end Go.Ab

/- The abstract machine: a step of code over plain data, proved against the model. -/
import Derived.Orders
import Derived.Scope
import Derived.Recover
import Derived.Lib.Builder
import Derived.Lib.UnsafeStr
import Derived.ChangeSame
import Derived.OpenShut
import Derived.ReadAgain
import Derived.Test.YtcjbfnojhpfchaaGreatDoorMachB
set_option linter.all false
namespace Go.Ab
section
variable {P:Program} {N E:Nat} {st b9:aM}
def a_.drop{c:Code}{Q:cr→aM→Prop}(live yp:List Nat)(n:Nat)(ai:vB live yp n st.env st.H st.aW=some b9)(b1:Nat.ble E n=true)(h:a_ P N E c Q b9):a_ P N E c Q st:=by
 rintro K eG a w ⟨he,hd,ev,M,β,cP⟩
 obtain⟨CX,hs⟩:=cP.vB ai (λr b hb=>Nat.lt_of_lt_of_le (eG r b hb) (by simpa using b1))
 exact h K eG a w ⟨he,hd,ev,M,CX,hs⟩
end
def all_nil:k3 []:=trivial
def all_cons{p:Prop}{l:List Prop}(h:p)(aa:k3 l):k3 (p::l):=⟨h,aa⟩
inductive aE(α β:Type) where
 |ret (a:α) (b:β)
 |bf (x:V) (b:β)
def aE.on{α β dG:Type}(x:aE α β)(f:α→β→dG)(g:V→β→dG):dG:=
 match x with
 |.ret a b=>f a b
 |.bf x b=>g x b
def f'{b:Bool}(h:b=false):(!b)=true:=by subst h;rfl
def yN{a b:Bool}(h:a=true)(ab:b=true):(a&&b)=true:=by subst h;subst ab;rfl
inductive kE:List V→List V→Prop where
 |nil:kE [] []
 |cons {x y:V} {xs ys:List V} (h:hD x y) (aa:kE xs ys):kE (x::xs) (y::ys)
def kE.len:∀{xs ys:List V},kE xs ys→xs.length=ys.length
 |_,_,.nil=>rfl
 |_,_,.cons _ aa=>by simp [aa.len]
def kE.at:∀{xs ys:List V},kE xs ys→∀(i:Nat) {y:V},ys[i]? = some y→∃x,xs[i]? = some x∧hD x y
 |_,_,.nil,i,y,h=>by simp at h
 |_,_,.cons h aa,i,y,cg=>by
  cases i with
  |zero=>simp at cg;subst cg;exact⟨_,rfl,h⟩
  |succ i=>simp at cg;simpa using aa.at i cg
def Xa{xs ys:List V}(h:kE xs ys):hD (.agg xs) (.agg ys):=by
 intro M v av;cases av with
 |agg vs cs hn Z ai=>
  refine .agg vs ys (hn.trans h.len) Z (λi v c av hc=>?_)
  obtain⟨x,hx,hi⟩:=h.at i hc;exact hi M v (ai i v x av hx)
def agQ{k n:Nat}{g e4:Nat→V}(h:∀i,i<n→kE (g i).cells (e4 i).cells):hD (.bI k n g) (.bI k n e4):=by
 intro M v av;cases av with
 |mh=>exact .mh _ _
 |pS=>exact .pS _ _ _
 |bI b off k n cap g val hc hk cV Z ai=>
  refine .bI b off k n cap e4 val hc (λi hi=>by rw [←(h i hi).len];exact hk i hi) cV Z (λi j c hi l2=>?_)
  obtain⟨x,hx,agR⟩:=(h i hi).at j l2;exact agR M _ (ai i j x hi hx)
inductive l7{α:Type}(e:α→V):List V→List α→Prop where
 |nil:l7 e [] []
 |cons {x:V} {y:α} {xs:List V} {ys:List α} (h:kE x.cells (e y).cells) (aa:l7 e xs ys):l7 e (x::xs) (y::ys)
def l7.len{α:Type}{e:α→V}:∀{xs:List V} {ys:List α},l7 e xs ys→xs.length=ys.length
 |_,_,.nil=>rfl
 |_,_,.cons _ aa=>by simp [aa.len]
def l7.at{α:Type}[Inhabited α]{e:α→V}:∀{xs:List V} {ys:List α},l7 e xs ys→∀(i:Nat),i<ys.length→kE (xs.getD i .eC).cells (e (ys.getD i default)).cells
 |_,_,.nil,i,h=>by simp at h
 |_,_,.cons h aa,i,cg=>by
  cases i with
  |zero=>simpa using h
  |succ i=>simpa using aa.at i (by simpa using cg)
def Hg{α:Type}[Inhabited α]{k:Nat}{e:α→V}{xs:List V}{l:List α}(h:l7 e xs l)(n:Nat)(hn:n=l.length):hD (.bI k n λi=>xs.getD i .eC) (ag k e l):=by
 subst hn;exact agQ λi hi=>h.at i hi
section
variable {tt:dI} {g1 g2:dm} {p:Path} {o:Oper} {ops:List Oper} {cf:gE}
def OH{x:Operand}(h:∀t,x = .tmp t→look g1.env t=look g2.env t∧look g1.b6 t=look g2.b6 t)(p:Path)(ty:TypeId):rd g1.env g1.b6 p tt ty x=rd g2.env g2.b6 p tt ty x:=by
 cases x with
 |tmp t=>
  obtain⟨Z,ab⟩:=h t rfl;simp only [rd,Z,ab]
 |const v=>cases v with
  |slice a n c=>cases a<;>cases n<;>cases c<;>rfl
  |_=>rfl
 |global _=>rfl
 |func _=>rfl
def agS{x:Operand}(h:∀t,x = .tmp t→look g1.env t=look g2.env t):pU g1 x=pU g2 x:=by
 cases x with
 |tmp t=>simp only [pU,h t rfl]
 |_=>rfl
def CY{α β:Type}{f ui:α→Option β}:∀{l:List α},(∀x,x∈l→f x=ui x)→mapM' f l=mapM' ui l
 |[],_=>rfl
 |x::l,h=>by simp only [mapM',h x (by simp),CY (l:=l) λy cg=>h y (by simp [cg])]
def OI{f ui:TypeId→Operand→Option D}:∀{l:List Operand} {ts:List TypeId},(∀x,x∈l→∀t,f t x=ui t x)→lX f l ts=lX ui l ts
 |[],_,_=>by simp [lX]
 |x::l,[],_=>by simp [lX]
 |x::l,t::ts,h=>by simp only [lX,h x (by simp) t,OI (l:=l) (ts:=ts) λy cg=>h y (by simp [cg])]
def i7(tt:dI)(g:dm)(p:Path)(o:Oper):List Nat:=
 match o.op with
 |.alloc _ |.box _ _=>match o.dst.bind (look g.ids)with |some id=>[id] |none=>[]
 |.load _ a=>match rd g.env g.b6 p tt o.type a with |some (.ptr q _)=>[q] |_=>[]
 |.store _ a _=>match rd g.env g.b6 p tt o.type a with |some (.ptr q _)=>[q] |_=>[]
 |.call c=>match c.callee with
  |.value x=>match rd g.env g.b6 p tt o.type x,lX (rd g.env g.b6 p tt) c.args.toList c.argTypes.toList with
   |some (.fn _ ff),some ds=>o2 g.H 2 (dedup ((ds++ff).flatMap refs))
   |_,_=>[]
  |_=>[]
 |_=>[]
def Hh{x:Nat}:∀{l:List Nat},x∈l→x∈dedup l
 |y::l,h=>by
  simp only [dedup];rw [Bool.cond_eq_ite];split
  ·rename_i cg;rcases List.mem_cons.1 h with rfl|h
   ·obtain⟨z,dx,agT⟩:=List.any_eq_true.1 cg;have:x=z:=by simpa using agT
    subst this;exact dx
   ·exact Hh h
  ·rcases List.mem_cons.1 h with rfl|h
   ·simp
   ·exact List.mem_cons_of_mem _ (Hh h)
def Xb{H:List (Nat×List a7)}:∀{n:Nat} {l:List Nat} {x:Nat},x∈l→x∈o2 H n l
 | 0,_,_,h=>h
 |n+1,_,_,h=>Xb (n:=n) (Hh (List.mem_append_left _ h))
def Xc{α β:Type}{f ui:α→List β}:∀{l:List α},(∀x,x∈l→f x=ui x)→l.flatMap f=l.flatMap ui
 |[],_=>rfl
 |x::l,h=>by simp only [List.flatMap_cons,h x (by simp),Xc (l:=l) λy cg=>h y (by simp [cg])]
def OJ{H1 cL:List (Nat×List a7)}:∀{n:Nat} {l:List Nat},(∀q,q∈o2 H1 n l→look H1 q=look cL q)→o2 H1 n l=o2 cL n l
 | 0,_,_=>rfl
 |n+1,l,h=>by
  simp only [o2]at h ⊢
  have:(l.flatMap λr=>((look H1 r).getD []).flatMap λe=>refs e.d)=l.flatMap λr=>((look cL r).getD []).flatMap λe=>refs e.d:=
   Xc λr ai=>by rw [h r (Xb (Hh (List.mem_append_left _ ai)))]
  rw [←this];exact OJ h
def Xd{H1 cL:List (Nat×List a7)}:∀{l:List Nat},(∀q,q∈l→look H1 q=look cL q)→boxes H1 l=boxes cL l
 |[],_=>rfl
 |r::l,h=>by simp only [boxes,h r (by simp),Xd (l:=l) λq ao=>h q (by simp [ao])]
def Xe{xs:List Operand}{ts:List TypeId}(hs:∀t,Operand.tmp t∈xs→look g1.env t=look g2.env t∧look g1.b6 t=look g2.b6 t):∀os:List Nat,handed tt g1 xs ts os=handed tt g2 xs ts os
 |[]=>rfl
 |i::os=>by
  simp only [handed,Xe hs os];split
  ·rename_i t l hx aa;obtain⟨Z,ab⟩:=hs t (List.mem_of_getElem? hx);rw [Z,ab]
  ·rfl
  ·rfl
def agU{xs:List Operand}{ts:List TypeId}{f:FuncId}{args:List D}(hs:∀t,Operand.tmp t∈xs→look g1.env t=look g2.env t∧look g1.b6 t=look g2.b6 t)(eY:g1.rs=g2.rs)(fl:∀q,q∈o2 g1.H 2 (dedup (args.flatMap refs))→look g1.H q=look g2.H q):yi cf tt g1 p xs ts f args=yi cf tt g2 p xs ts f args:=by
 have Z:o2 g1.H 2 (dedup (args.flatMap refs))=o2 g2.H 2 (dedup (args.flatMap refs)):=OJ fl;unfold yi;simp only [←Z,←eY,←Xd fl,←λos=>Xe (tt:=tt) (ts:=ts) hs os]
def rf(o:Oper):Bool:=
 match o.op with
 |.alloc _ |.box _ _=>true
 |_=>false
def Xf(rh:g1.ids=g2.ids)(hn:g1.aW=g2.aW)(fl:∀id,o.dst.bind (look g1.ids)=some id→look g1.H id=look g2.H id):og g1 o=og g2 o:=by
 unfold og;rw [←rh,←hn];split
 ·rename_i id h;rw [fl id h]
 ·rfl
def OK(hs:∀x,x∈o.op.operands.toList→∀t,x = .tmp t→look g1.env t=look g2.env t∧look g1.b6 t=look g2.b6 t)(eY:g1.rs=g2.rs)(rh:g1.ids=g2.ids)
 (hn:rf o=true→g1.aW=g2.aW) (fl:∀q,q∈i7 tt g1 p o→look g1.H q=look g2.H q):step1 cf tt ops g1 p o=step1 cf tt ops g2 p o:=by
 have R:∀x,x∈o.op.operands.toList→∀p ty,rd g1.env g1.b6 p tt ty x=rd g2.env g2.b6 p tt ty x:=λx hx p ty=>OH (hs x hx) p ty
 have O:∀x,x∈o.op.operands.toList→pU g1 x=pU g2 x:=λx hx=>agS λt aF=>(hs x hx t aF).1
 cases aw:o.op with
 |move x=>simp only [aw,Op.operands]at R O;simp only [step1,aw,R x (by simp),O x (by simp),eY]
 |assign x=>simp only [aw,Op.operands]at R O;simp only [step1,aw,R x (by simp),O x (by simp),eY]
 |pick c a b=>
  simp only [aw,Op.operands]at R O;cases c with
  |tmp c=>simp only [step1,aw,R (.tmp c) (by simp),R a (by simp),R b (by simp),eY]
  |_=>simp only [step1,aw]
 |alloc t=>
  have hi:og g1 o=og g2 o:=Xf rh (hn (by simp [rf,aw])) λid hid=>fl id (by simp [i7,aw,hid])
  simp only [step1,aw,eY,hi]
 |box t x=>
  have hi:og g1 o=og g2 o:=Xf rh (hn (by simp [rf,aw])) λid hid=>fl id (by simp [i7,aw,hid])
  simp only [aw,Op.operands]at R O;simp only [step1,aw,R x (by simp),eY,hi]
 |build t parts=>
  simp only [aw,Op.operands]at R O
  have:mapM' (fun(i,x)=>(rd g1.env g1.b6 p tt (so tt t i) x).map λd=>(i,d)) parts.toList=mapM' (fun(i,x)=>(rd g2.env g2.b6 p tt (so tt t i) x).map λd=>(i,d)) parts.toList:=
   CY λy cg=>by
    obtain⟨i,x⟩:=y;simp only [R x (List.mem_map.2 ⟨(i,x),cg,rfl⟩)]
  simp only [step1,aw,this,eY]
 |buildSlice t len parts=>
  simp only [aw,Op.operands]at R O
  have:mapM' (fun(i,x)=>(rd g1.env g1.b6 p tt (so tt t i) x).map λd=>(i,d)) parts.toList=mapM' (fun(i,x)=>(rd g2.env g2.b6 p tt (so tt t i) x).map λd=>(i,d)) parts.toList:=
   CY λy cg=>by
    obtain⟨i,x⟩:=y;simp only [R x (List.mem_map.2 ⟨(i,x),cg,rfl⟩)]
  simp only [step1,aw,this,eY]
 |load t a=>
  simp only [aw,Op.operands]at R O;simp only [i7,aw,R a (by simp)]at fl
  simp only [step1,aw,R a (by simp),eY]
  split
  ·rename_i q off aS ha G6;simp only [ha]at fl;simp only [fl q (by simp)]
  ·rfl
  ·rfl
 |store t a x=>
  simp only [aw,Op.operands]at R O;simp only [i7,aw,R a (by simp)]at fl
  simp only [step1,aw,R a (by simp),R x (by simp),O x (by simp),eY]
  split
  ·rename_i q off d aS ha hd G6;simp only [ha]at fl;simp only [fl q (by simp)]
  ·rfl
 |nilCheck x=>simp only [aw,Op.operands]at R O;simp only [step1,aw,R x (by simp),eY]
 |binOp op t x y t2=>simp only [aw,Op.operands]at R O;simp only [step1,aw,R x (by simp),R y (by simp),eY]
 |unOp op t x=>simp only [aw,Op.operands]at R O;simp only [step1,aw,R x (by simp),eY]
 |convert s t x=>simp only [aw,Op.operands]at R O;simp only [step1,aw,R x (by simp),eY]
 |makeInterface t x=>simp only [aw,Op.operands]at R O;simp only [step1,aw,R x (by simp),eY]
 |makeFunc fn first ff=>
  simp only [aw,Op.operands]at R O;cases fn with
  |func f=>
   have:mapM' (rd g1.env g1.b6 p tt o.type) ff.toList=mapM' (rd g2.env g2.b6 p tt o.type) ff.toList:=CY λx hx=>R x (by rw [Array.toList_append];exact List.mem_append_right _ hx) _ _
   simp only [step1,aw,this,eY]
  |_=>simp only [step1,aw]
 |slice t x lo hi kc=>
  simp only [aw,Op.operands]at R O
  have ki:lo.map (rd g1.env g1.b6 p tt o.type)=lo.map (rd g2.env g2.b6 p tt o.type):=by
   cases lo with
   |none=>rfl
   |some l=>simp [R l (by simp)]
  have jC:hi.map (rd g1.env g1.b6 p tt o.type)=hi.map (rd g2.env g2.b6 p tt o.type):=by
   cases hi with
   |none=>rfl
   |some l=>simp [R l (by simp)]
  have OL:kc.map (rd g1.env g1.b6 p tt o.type)=kc.map (rd g2.env g2.b6 p tt o.type):=by
   cases kc with
   |none=>rfl
   |some m=>simp [R m (by simp)]
  simp only [step1,aw,R x (by simp),ki,jC,OL,eY]
 |fieldAddr s x f=>simp only [aw,Op.operands]at R O;simp only [step1,aw,R x (by simp),eY]
 |field s x f=>simp only [aw,Op.operands]at R O;simp only [step1,aw,R x (by simp),eY]
 |indexAddr t x i=>simp only [aw,Op.operands]at R O;simp only [step1,aw,R x (by simp),R i (by simp),eY]
 |index t x i=>simp only [aw,Op.operands]at R O;simp only [step1,aw,R x (by simp),R i (by simp),eY]
 |typeAssert x a t ok=>simp only [aw,Op.operands]at R O;simp only [step1,aw,R x (by simp),eY]
 |extract x i=>simp only [aw,Op.operands]at R O;simp only [step1,aw,R x (by simp),eY]
 |panic x=>simp only [aw,Op.operands]at R O;simp only [step1,aw,R x (by simp)]
 |call c=>
  simp only [aw,Op.operands,Call.operands]at R O hs;cases hc:c.callee with
  |value x=>
   have hx:=R x (by simp [hc])
   have ha:lX (rd g1.env g1.b6 p tt) c.args.toList c.argTypes.toList=lX (rd g2.env g2.b6 p tt) c.args.toList c.argTypes.toList:=OI λy cg t=>R y (by rw [Array.toList_append];exact List.mem_append_right _ cg) p t
   simp only [i7,aw,hc,hx,ha]at fl;simp only [step1,aw,hc,hx,ha];split
   ·rename_i f ff ds Z ab;simp only [Z,ab]at fl;exact agU (λt aF=>hs (.tmp t) (by rw [Array.toList_append];exact List.mem_append_right _ aF) t rfl) eY fl
   ·rfl
  |invoke x m=>simp only [step1,aw,hc]
  |builtin b=>
   have ha:mapM' (λy=>rd g1.env g1.b6 p tt o.type y) c.args.toList=mapM' (λy=>rd g2.env g2.b6 p tt o.type y) c.args.toList:=CY λx hx=>R x (by rw [Array.toList_append];exact List.mem_append_right _ hx) _ _
   cases b with
   |len=>simp only [step1,aw,hc,ha,eY]
   |min=>simp only [step1,aw,hc,ha,eY]
   |max=>simp only [step1,aw,hc,ha,eY]
   |append=>
    simp only [step1,aw,hc,eY];split
    ·rename_i t x e fW as4 as5 _ t2 aa _ _;have hm:∀y,y∈[Operand.tmp t,x]→y∈(match c.callee with|.value f => #[f] |.invoke r _ => #[r] |.builtin _ => #[]:Array Operand).toList++c.args.toList:=λy cg=>by rw [aa];exact List.mem_append_right _ cg
     have kj:∀y,y∈[Operand.tmp t,x]→y∈((match c.callee with|.value f => #[f] |.invoke r _ => #[r] |.builtin _ => #[]:Array Operand)++c.args).toList:=λy cg=>by rw [Array.toList_append];exact hm y cg
     simp only [R (.tmp t) (kj _ (by simp)),R x (kj _ (by simp)),(hs (.tmp t) (kj _ (by simp)) t rfl).1]
    ·rfl
   |_=>simp only [step1,aw,hc]
 |_=>simp only [step1,aw]
end
structure ew where
 dst:Option Nat
 p:Path
 f:lp
 kl:List Nat
 nA:List Nat
 p7:Bool
 rs:List fv
 kd:Nat:=0
 wj:V:=.eC
 p8:List (Nat×List a7):=[]
 uj:List (Nat×List a7):=[]
 ow:Nat:=0
def p9(ops:List Oper)(o:Oper):List Nat:=
 (o.op.operands.toList.filterMap fun|.tmp t=>some t|_=>none)++(match o.guard with
  |some (j,_)=>((ops[j]?).bind (·.dst)).toList
  |none=>[])
def eE(E:ew)(g:dm):dm:=
 match E.dst with
 |none=>{g with env:=hE E.f.hM g.env,H:=E.f.hs++g.H,aW:=g.aW+E.f.eS}
 |some t=>match E.p with
  |[]=>{g with
   env:=match E.f.e with|some e=>(t,e)::hE E.f.hM g.env|none=>del (hE E.f.hM g.env) t
   b6:=del g.b6 t,H:=E.f.hs++g.H,aW:=g.aW+E.f.eS}
  |_::_=>match E.f.e with
   |some e=>{g with env:=del g.env t,b6:=(t,E.p,e.d)::del g.b6 t}
   |none=>g
def ox(E:ew):List Nat:=E.dst.toList++E.f.hM
def pe(E:ew):List Nat:=E.f.hs.map (·.1)
def yO{α:Type}:∀(a b:List (Nat×α)) (q:Nat),look (a++b) q=(match look a q with|some x=>some x|none=>look b q)
 |[],_,_=>rfl
 |(j,x)::a,b,q=>by
  simp only [List.cons_append,dZ,yO a b q];by_cases h:j=q<;>simp [h]
def Xg{α:Type}:∀{a:List (Nat×α)} {q:Nat},q∉a.map (·.1)→look a q=none
 |[],_,_=>rfl
 |(j,x)::a,q,h=>by
  simp only [List.map_cons,List.mem_cons,not_or]at h;rw [dZ,if_neg (Ne.symm h.1)];exact Xg h.2
section
variable {E:ew} {g g1 g2:dm}
def m9(g1 g2:dm)(t:Nat):Prop:=look g1.env t=look g2.env t∧look g1.b6 t=look g2.b6 t
def wk(g1 g2:dm)(q:Nat):Prop:=look g1.H q=look g2.H q
def wl{t:Nat}(h:t∉ox E):m9 (eE E g) g t:=by
 simp only [ox,List.mem_append,not_or]at h;unfold m9 eE;cases hd:E.dst with
 |none=>simp only [ol,if_neg h.2,and_self]
 |some u=>
  have hu:u≠t:=by rintro rfl;simp [hd]at h
  cases hp:E.p with
  |nil=>
   dsimp only
   cases he:E.f.e with
   |some e=>simp only [dZ,if_neg hu,ol,if_neg h.2,q1,and_self]
   |none=>simp only [ol,if_neg h.2,q1,if_neg hu,and_self]
  |cons x p=>
   dsimp only
   cases he:E.f.e with
   |some e=>simp only [dZ,if_neg hu,q1,and_self]
   |none=>exact⟨rfl,rfl⟩
def OM{t:Nat}(h:m9 g1 g2 t):m9 (eE E g1) (eE E g2) t:=by
 obtain⟨Z,ab⟩:=h;unfold m9 eE;cases hd:E.dst with
 |none=>simp only [ol,Z,ab,and_self]
 |some u=>
  cases hp:E.p with
  |nil=>
   dsimp only
   cases he:E.f.e with
   |some e=>simp only [dZ,ol,Z,ab,q1,and_self]
   |none=>simp only [ol,q1,Z,ab,and_self]
  |cons x p=>
   dsimp only
   cases he:E.f.e with
   |some e=>simp only [dZ,q1,Z,ab,and_self]
   |none=>exact⟨Z,ab⟩
def ON:(eE E g).H=E.f.hs++g.H∨(eE E g).H=g.H:=by
 unfold eE;cases E.dst with
 |none=>exact .inl rfl
 |some u=>
  cases E.p with
  |nil=>exact .inl rfl
  |cons x p=>dsimp only;cases E.f.e<;>exact .inr rfl
def yP{q:Nat}(h:q∉pe E):wk (eE E g) g q:=by
 unfold wk;rcases ON (E:=E) (g:=g)with Z|Z<;>rw [Z]
 rw [yO,Xg h]
def OO{q:Nat}(h:wk g1 g2 q):wk (eE E g1) (eE E g2) q:=by
 unfold wk at *;unfold eE;cases E.dst with
 |none=>simp only [yO,h]
 |some u=>
  cases E.p with
  |nil=>simp only [yO,h]
  |cons x p=>dsimp only;cases E.f.e<;>exact h
def yQ(E:ew):Nat:=
 match E.dst with
 |none=>E.f.eS
 |some _=>match E.p with
  |[]=>E.f.eS
  |_::_=>0
def Hi:(eE E g).aW=g.aW+yQ E:=by
 unfold eE yQ;cases E.dst with
 |none=>rfl
 |some u=>
  cases E.p with
  |nil=>rfl
  |cons x p=>dsimp only;cases E.f.e<;>rfl
structure Alike(g1 g2:dm):Prop where
 slot:∀t,m9 g1 g2 t
 box:∀q,wk g1 g2 q
 aW:g1.aW=g2.aW
 ids:g1.ids=g2.ids
def Hj:(eE E g).ids=g.ids:=by
 unfold eE;cases E.dst with
 |none=>rfl
 |some u=>
  cases E.p with
  |nil=>rfl
  |cons x p=>dsimp only;cases E.f.e<;>rfl
def Alike.refl:Alike g g:=⟨λ_=>⟨rfl,rfl⟩,λ_=>rfl,rfl,rfl⟩
def Alike.symm(h:Alike g1 g2):Alike g2 g1:=⟨λt=>⟨(h.slot t).1.symm,(h.slot t).2.symm⟩,λq=>(h.box q).symm,h.aW.symm,h.ids.symm⟩
def Alike.trans{g3:dm}(h:Alike g1 g2)(cO:Alike g2 g3):Alike g1 g3:=⟨λt=>⟨(h.slot t).1.trans (cO.slot t).1,(h.slot t).2.trans (cO.slot t).2⟩,λq=>(h.box q).trans (cO.box q),h.aW.trans cO.aW,h.ids.trans cO.ids⟩
def Alike.ap(h:Alike g1 g2):Alike (eE E g1) (eE E g2):=
 ⟨λt=>OM (h.slot t),λq=>OO (h.box q),(by simp only [Hi,h.aW]),by simp only [Hj,h.ids]⟩
def sep(a b:List Nat):Bool:=a.all λx=>!b.any (Nat.beq x)
def wm{a b:List Nat}(h:sep a b=true){x:Nat}(ha:x∈a):x∉b:=by
 intro hb;have:=List.all_eq_true.1 h x ha
 simp only [Bool.not_eq_true',List.any_eq_false]at this;exact this x hb (by simp)
def CZ(E dg:ew):Bool:=
 sep (ox E) dg.nA&&sep (ox E) (ox dg)&&sep (ox dg) E.nA&&(sep (pe E) dg.kl||Nat.beq E.ow 2&&Nat.beq dg.ow 1)&&sep (pe E) (pe dg)&&(sep (pe dg) E.kl||Nat.beq dg.ow 2&&Nat.beq E.ow 1)&&(!E.p7||Nat.beq (yQ dg) 0)&&(!dg.p7||Nat.beq (yQ E) 0)
def agV{E dg:ew}(Z:sep (ox E) (ox dg)=true)(ab:sep (pe E) (pe dg)=true):Alike (eE E (eE dg g)) (eE dg (eE E g)):=by
 refine⟨λt=>?_,λq=>?_,?_,by simp only [Hj]⟩
 ·by_cases aF:t∈ox E
  ·have eM:=wm Z aF;have a:m9 (eE E (eE dg g)) (eE E g) t:=OM (wl eM);have b:m9 (eE dg (eE E g)) (eE E g) t:=wl eM;exact⟨a.1.trans b.1.symm,a.2.trans b.2.symm⟩
  ·have a:m9 (eE E (eE dg g)) (eE dg g) t:=wl aF;have b:m9 (eE dg (eE E g)) (eE dg g) t:=OM (wl aF);exact⟨a.1.trans b.1.symm,a.2.trans b.2.symm⟩
 ·by_cases aF:q∈pe E
  ·have eM:=wm ab aF;exact(OO (E:=E) (yP (E:=dg) (g:=g) eM)).trans (yP (E:=dg) (g:=eE E g) eM).symm
  ·exact(yP (E:=E) (g:=eE dg g) aF).trans (OO (E:=dg) (yP (E:=E) (g:=g) aF)).symm
 ·simp only [Hi];omega
end
section
variable {tt:dI} {ops:List Oper} {cf:gE} {o:Oper} {E:ew} {g g1 g2:dm}
def Xh(h:∀t,t∈p9 ops o→m9 g1 g2 t):pW ops g1 o=pW ops g2 o:=by
 unfold pW;split
 ·rfl
 ·rename_i j w hg;cases aF:(ops[j]?).bind (·.dst) with
  |none=>rfl
  |some t=>
   have:=h t (by simp [p9,hg,aF])
   simp only [this.1,this.2]
def Hk:∀{p:Path} {q:Prop},(∀x,x∈p→m9 g1 g2 x.1)→under g1 p q=under g2 p q
 |[],_,_=>rfl
 |(t,w)::p,q,h=>by
  have aF:=h (t,w) (by simp)
  have aG:=Hk (p:=p) (q:=q) λx hx=>h x (by simp [hx])
  have:Cc g1.env g1.b6 t=Cc g2.env g2.b6 t:=by unfold Cc;rw [aF.1,aF.2]
  simp only [under,this,aG]
def agW{p:Path}(hs:∀x,x∈o.op.operands.toList→∀t,x = .tmp t→look g1.env t=look g2.env t∧look g1.b6 t=look g2.b6 t)(rh:g1.ids=g2.ids)(fl:∀q,q∈i7 tt g1 p o→look g1.H q=look g2.H q):i7 tt g1 p o=i7 tt g2 p o:=by
 have R:∀x,x∈o.op.operands.toList→∀p ty,rd g1.env g1.b6 p tt ty x=rd g2.env g2.b6 p tt ty x:=λx hx p ty=>OH (hs x hx) p ty
 cases aw:o.op with
 |alloc t=>simp only [i7,aw,rh]
 |box t x=>simp only [i7,aw,rh]
 |load t a=>simp only [aw,Op.operands]at R;simp only [i7,aw,R a (by simp)]
 |store t a x=>simp only [aw,Op.operands]at R;simp only [i7,aw,R a (by simp)]
 |call c=>
  simp only [aw,Op.operands,Call.operands]at R;cases hc:c.callee with
  |value x=>
   have hx:=R x (by simp [hc])
   have ha:lX (rd g1.env g1.b6 p tt) c.args.toList c.argTypes.toList=lX (rd g2.env g2.b6 p tt) c.args.toList c.argTypes.toList:=OI λy cg t=>R y (by rw [Array.toList_append];exact List.mem_append_right _ cg) p t
   simp only [i7,aw,hc,hx,ha]at fl ⊢;split
   ·rename_i f ff ds Z ab;simp only [Z,ab]at fl;exact OJ fl
   ·rfl
  |_=>simp only [i7,aw,hc]
 |_=>simp only [i7,aw]
structure OP(cf:gE)(tt:dI)(ops:List Oper)(o:Oper)(E:ew)(g:dm):Prop where
 Hl:pW ops g o=some E.p
 st:step1 cf tt ops {g with rs:=E.rs} E.p o=some (bif Nat.beq E.kd 0 then .go E.f else .bf E.wj E.p8 E.f.a6)
 a6:∀q,q∈E.f.a6→under g E.p q
 kl:∀q,q∈i7 tt g E.p o→q∈E.kl
 fin:E.kd=1→∀q,q∈E.kl→look g.H q=look E.uj q
def Can(cf:gE)(tt:dI)(ops:List Oper)(o:Oper)(E:ew)(g:dm):Prop:=E.kd=2∨OP cf tt ops o E g
def Can.congr(h:Can cf tt ops o E g1)(wn:∀t,t∈p9 ops o++E.p.map (·.1)→t∈E.nA)(Hm:rf o=E.p7)(hs:∀t,t∈E.nA→m9 g1 g2 t)(hb:∀q,q∈E.kl→wk g1 g2 q)(hn:E.p7=true→g1.aW=g2.aW)(rh:g1.ids=g2.ids):Can cf tt ops o E g2:=by
 rcases h with h|h
 ·exact .inl h
 right
 have dX:∀x,x∈o.op.operands.toList→∀t,x = .tmp t→look g1.env t=look g2.env t∧look g1.b6 t=look g2.b6 t:=by
  rintro x hx t rfl
  exact hs t (wn t (List.mem_append_left _ (by simp only [p9,List.mem_append,List.mem_filterMap];exact .inl ⟨_,hx,rfl⟩)))
 have l6:i7 tt g1 E.p o=i7 tt g2 E.p o:=agW dX rh (λq ao=>hb q (h.kl q ao))
 refine⟨?_,?_,λq ao=>?_,(by rw [←l6];exact h.kl),λhk q ao=>(hb q ao).symm.trans (h.fin hk q ao)⟩
 ·rw [←Xh (g1:=g1) (g2:=g2) λt aF=>hs t (wn t (List.mem_append_left _ aF))];exact h.Hl
 ·rw [←h.st];refine(OK (g1:={g1 with rs:=E.rs}) (g2:={g2 with rs:=E.rs}) dX rfl rh (λhm=>hn (by rw [←Hm];exact hm)) (λq ao=>hb q ?_)).symm
  exact h.kl q ao
 ·rw [←Hk (g1:=g1) (g2:=g2) λx hx=>hs x.1 (wn _ (List.mem_append_right _ (List.mem_map.2 ⟨x,hx,rfl⟩)))]
  exact h.a6 q ao
def wo(o:Oper)(rs:List fv):Nat:=
 match o.op with
 |.load _ _=>match rs with
  |.own::_=>2
  |_=>1
 |_=>0
def uk(g1 g2:dm)(q:Nat):Prop:=(look g1.H q).map (·.map (·.d))=(look g2.H q).map (·.map (·.d))
def Xi:∀(cs:List a7) (off:Nat) (e:a7),cs[off]? = some e→(setAt cs off [{d:=e.d}]).map (·.d)=cs.map (·.d)
 |[],off,e,h=>by simp at h
 |c::cs,0,e,h=>by
  simp only [List.getElem?_cons_zero,Option.some.injEq]at h;subst h;simp [setAt]
 |c::cs,off+1,e,h=>by
  simp only [List.getElem?_cons_succ]at h;simp only [setAt,List.map_cons,Xi cs off e h]
def agX(h:OP cf tt ops o E g)(aa:wo o E.rs=2)(hk:E.kd=0)(q:Nat):uk (eE E g) g q:=by
 have dy:=h.st;rw [hk]at dy;unfold wo at aa;split at aa
 case h_2=>cases aa
 rename_i t a aw;simp only [step1,aw,show Nat.beq 0 0=true from rfl,cond_true]at dy
 have nil:E.f.hs=[]→uk (eE E g) g q:=by
  intro bn;unfold uk;rcases ON (E:=E) (g:=g)with Z|Z<;>rw [Z]
  rw [bn];rfl
 split at dy
 ·rename_i agY off aS ai cZ;split at dy
  ·rename_i cs eu;rw [Bool.cond_eq_ite]at dy;split at dy
   ·rw [Bool.cond_eq_ite]at dy;split at dy
    ·simp only [Option.map_some,Option.some.injEq,oe.go.injEq]at dy;exact nil (by rw [←dy])
    ·cases dy
   ·split at dy
    ·rename_i e he;split at dy
     ·rw [Bool.cond_eq_ite]at dy;split at dy
      ·simp only [Option.some.injEq,oe.go.injEq]at dy;unfold uk;rcases ON (E:=E) (g:=g)with Z|Z<;>rw [Z]
       rw [←dy];simp only [List.cons_append,List.nil_append,dZ];split
       ·rename_i ao;subst ao;rw [eu];simp only [Option.map_some,Xi cs off e he]
       ·rfl
      ·cases dy
     ·simp only [Option.map_some,Option.some.injEq,oe.go.injEq]at dy;exact nil (by rw [←dy])
    ·cases dy
  ·cases dy
 ·rename_i x aS ai cZ;rw [Bool.cond_eq_ite]at dy;split at dy
  ·simp only [Option.map_some,Option.some.injEq,oe.go.injEq]at dy;exact nil (by rw [←dy])
  ·cases dy
 ·cases dy
def agZ{p:Path}{rs:List fv}{t:TypeId}{a:Operand}(aw:o.op = .load t a)(eY:∀l,rs ≠ .own::l)(R:rd g1.env g1.b6 p tt o.type a=rd g2.env g2.b6 p tt o.type a)(ag0:∀q off,rd g2.env g2.b6 p tt o.type a=some (.ptr q off)→uk g1 g2 q):
 step1 cf tt ops {g1 with rs:=rs} p o=step1 cf tt ops {g2 with rs:=rs} p o:=by
 simp only [step1,aw,R];split
 ·rename_i q off aS ai cZ;have hd:=ag0 q off ai;unfold uk at hd;cases Z:look g1.H q with
  |none=>
   rw [Z]at hd;cases ab:look g2.H q with
   |none=>rfl
   |some c2=>rw [ab]at hd;cases hd
  |some c1=>
   rw [Z]at hd;cases ab:look g2.H q with
   |none=>rw [ab]at hd;cases hd
   |some c2=>
    rw [ab]at hd;simp only [Option.map_some,Option.some.injEq]at hd;have hlen:c1.length=c2.length:=by have:=congrArg List.length hd;simpa using this
    have ag1:((c1.drop off).take aS.size).map (·.d)=((c2.drop off).take aS.size).map (·.d):=by rw [List.map_take,List.map_drop,hd,←List.map_drop,←List.map_take]
    have iX:(c1[off]?).map (·.d)=(c2[off]?).map (·.d):=by rw [←List.getElem?_map,hd,List.getElem?_map]
    simp only [hlen,ag1];cases aS.k.isAgg with
    |true=>rfl
    |false=>
     simp only [cond_false];cases Xj:c1[off]? with
     |none=>
      rw [Xj]at iX;cases Hn:c2[off]? with
      |none=>rfl
      |some e2=>rw [Hn]at iX;cases iX
     |some e1=>
      rw [Xj]at iX;cases Hn:c2[off]? with
      |none=>rw [Hn]at iX;cases iX
      |some e2=>
       rw [Hn]at iX;simp only [Option.map_some,Option.some.injEq]at iX;cases rs with
       |nil=>cases e1.own<;>cases e2.own<;>simp [iX]
       |cons r l=>
        cases r with
        |own=>exact absurd rfl (eY l)
        |val x=>cases e1.own<;>cases e2.own<;>simp [iX]
        |raw=>cases e1.own<;>cases e2.own<;>simp [iX]
        |call u v z=>cases e1.own<;>cases e2.own<;>simp [iX]
 ·rfl
 ·rfl
def Can.Xk(h:Can cf tt ops o E g1)(aa:wo o E.rs=1)(hk:E.kd=0)(wn:∀t,t∈p9 ops o++E.p.map (·.1)→t∈E.nA)(hs:∀t,t∈E.nA→m9 g1 g2 t)(hb:∀q,uk g1 g2 q):Can cf tt ops o E g2:=by
 rcases h with h|h
 ·exact .inl h
 right
 have dX:∀x,x∈o.op.operands.toList→∀t,x = .tmp t→look g1.env t=look g2.env t∧look g1.b6 t=look g2.b6 t:=by
  rintro x hx t rfl
  exact hs t (wn t (List.mem_append_left _ (by simp only [p9,List.mem_append,List.mem_filterMap];exact .inl ⟨_,hx,rfl⟩)))
 unfold wo at aa;split at aa
 case h_2=>cases aa
 rename_i t a aw
 have eY:∀l,E.rs ≠ .own::l:=by
  intro l e;rw [e]at aa;cases aa
 have R:rd g1.env g1.b6 E.p tt o.type a=rd g2.env g2.b6 E.p tt o.type a:=OH (dX a (by simp [aw,Op.operands])) _ _
 have l6:i7 tt g1 E.p o=i7 tt g2 E.p o:=by simp only [i7,aw,R]
 refine⟨?_,?_,λq ao=>?_,(by rw [←l6];exact h.kl),λsI=>by rw [hk]at sI;cases sI⟩
 ·rw [←Xh (g1:=g1) (g2:=g2) λt aF=>hs t (wn t (List.mem_append_left _ aF))];exact h.Hl
 ·rw [←h.st];exact(agZ aw eY R λq off _=>hb q).symm
 ·rw [←Hk (g1:=g1) (g2:=g2) λx hx=>hs x.1 (wn _ (List.mem_append_right _ (List.mem_map.2 ⟨x,hx,rfl⟩)))]
  exact h.a6 q ao
end
def gO(ops:List Oper)(o:Oper)(E:ew):Bool:=ag2 (p9 ops o++E.p.map (·.1)) E.nA&&(rf o == E.p7)&&decide (E.dst=o.dst)&&(match E.f.rs with|[]=>true|_=>false)&&(Nat.beq E.ow 0||Nat.beq E.ow (wo o E.rs)&&Nat.beq E.kd 0)
where ag2 (a b:List Nat):Bool:=a.all λx=>b.any (Nat.beq x)
def Ho{ops:List Oper}{o:Oper}{E:ew}(h:gO ops o E=true):(∀t,t∈p9 ops o++E.p.map (·.1)→t∈E.nA)∧rf o=E.p7∧E.dst=o.dst∧E.f.rs=[]:=by
 simp only [gO,Bool.and_eq_true,beq_iff_eq,decide_eq_true_eq]at h;obtain⟨⟨⟨⟨Z,ab⟩,aj⟩,aC⟩,_⟩:=h;refine⟨λt aF=>?_,ab,aj,?_⟩
 ·obtain⟨y,cg,gX⟩:=List.any_eq_true.1 (List.all_eq_true.1 Z t aF);have:t=y:=by simpa using gX
  rw [this];exact cg
 ·split at aC
  ·assumption
  ·cases aC
def waits(ops:List Oper)(i:Nat):Nat→Nat→Bool
 | 0,_=>false
 |n+1,j=>match ops[j]? with
  |some o=>o.after.toList.any λe=>Region.binds .any e&&(Nat.beq e.on i||waits ops i n e.on)
  |none=>false
def oy(opsA:Array Oper)(listed:Array Bool):Prop:=∀(j:Nat) o,opsA[j]? = some o→listed.getD j false=true→∀e,e∈o.after→Region.binds .any e=true→listed.getD e.on false=true
def Hp{opsA:Array Oper}{listed:Array Bool}(hc:oy opsA listed){i:Nat}:∀{n j:Nat},waits opsA.toList i n j=true→listed.getD j false=true→listed.getD i false=true
 | 0,_,h,_=>by simp [waits]at h
 |n+1,j,h,hj=>by
  simp only [waits]at h;split at h
  ·rename_i o aw;obtain⟨e,he,hb⟩:=List.any_eq_true.1 h;simp only [Bool.and_eq_true,Bool.or_eq_true,Nat.beq_eq]at hb;have Z:=hc j o (by simpa using aw) hj e (by simpa using he) hb.1
   rcases hb.2 with rfl|ab
   ·exact Z
   ·exact Hp hc ab Z
  ·cases h
def oy.set{opsA:Array Oper}{listed:Array Bool}(hc:oy opsA listed){i:Nat}(ai:i∈Region.ready .any opsA listed):oy opsA (listed.setIfInBounds i true):=by
 intro j o aw hj e he hb;by_cases p':i=j
 ·subst p';obtain⟨_,o',kX,p_⟩:=mem_ready.1 ai;rw [aw]at kX;cases kX;exact getD_set_true (p_ e he hb)
 ·rw [getD_set_ne false p']at hj;exact getD_set_true (hc j o aw hj e he hb)
section
variable {cf:gE} {tt:dI} {opsA:Array Oper} {cD:List ew} {Fi:dm→Prop} {g g1 g2:dm}
def jD(cf:gE)(tt:dI)(opsA:Array Oper)(cD:List ew)(Fi:dm→Prop):Nat→Array Bool→dm→Prop
 | 0,listed,g=>Region.ready .any opsA listed=[]∧Fi g
 |n+1,listed,g=>(Region.ready .any opsA listed=[]→Fi g)∧∀i,i∈Region.ready .any opsA listed→∃o E,opsA[i]? = some o∧cD[i]? = some E∧Can cf tt opsA.toList o E g∧
  jD cf tt opsA cD Fi n (listed.setIfInBounds i true) (eE E g)
def jD.alike(cF:∀(i:Nat) o E,opsA[i]? = some o→cD[i]? = some E→gO opsA.toList o E=true)(dP:∀g1 g2,Alike g1 g2→Fi g1→Fi g2):∀{n:Nat} {listed:Array Bool} {g1 g2:dm},Alike g1 g2→jD cf tt opsA cD Fi n listed g1→jD cf tt opsA cD Fi n listed g2
 | 0,_,_,_,ha,h=>⟨h.1,dP _ _ ha h.2⟩
 |n+1,_,_,_,ha,h=>⟨λai=>dP _ _ ha (h.1 ai),λi hi=>by
  obtain⟨o,E,aw,b1,jS,hn⟩:=h.2 i hi;obtain⟨cC,al,_,_⟩:=Ho (cF i o E aw b1);exact⟨o,E,aw,b1,jS.congr cC al (λt _=>ha.slot t) (λq _=>ha.box q) (λ_=>ha.aW) ha.ids,jD.alike cF dP ha.ap hn⟩⟩
def C0{ops:List Oper}{o:Oper}{E:ew}{n:Nat}(h:gO ops o E=true)(aa:E.ow=n+1):wo o E.rs=n+1∧E.kd=0:=by
 simp only [gO,Bool.and_eq_true,Bool.or_eq_true,Nat.beq_eq]at h;rcases h.2 with h|h
 ·rw [aa]at h;cases h
 ·exact⟨h.1.symm.trans aa,h.2⟩
def Can.data{cf:gE}{tt:dI}{ops:List Oper}{o:Oper}{E:ew}{g:dm}(h:Can cf tt ops o E g)(cF:gO ops o E=true)(aa:E.ow=2)(q:Nat):uk (eE E g) g q:=by
 obtain⟨Z,ab⟩:=C0 cF aa;rcases h with h|h
 ·rw [ab]at h;cases h
 ·exact agX h Z ab q
def ag3{E dg:ew}(h:CZ E dg=true):sep (ox E) dg.nA=true∧sep (ox E) (ox dg)=true∧sep (ox dg) E.nA=true∧(sep (pe E) dg.kl=true∨E.ow=2∧dg.ow=1)∧sep (pe E) (pe dg)=true∧(sep (pe dg) E.kl=true∨dg.ow=2∧E.ow=1)∧(E.p7=true→yQ dg=0)∧(dg.p7=true→yQ E=0):=by
 simp only [CZ,Bool.and_eq_true,Bool.or_eq_true,Bool.not_eq_true',Nat.beq_eq]at h;obtain⟨⟨⟨⟨⟨⟨⟨Z,ab⟩,aj⟩,aC⟩,aT⟩,bP⟩,cM⟩,dj⟩:=h;exact⟨Z,ab,aj,aC,aT,bP,λhm=>cM.resolve_left (by simp [hm]),λhm=>dj.resolve_left (by simp [hm])⟩
def jD.first(cF:∀(i:Nat) o E,opsA[i]? = some o→cD[i]? = some E→gO opsA.toList o E=true)(dP:∀g1 g2,Alike g1 g2→Fi g1→Fi g2){i:Nat}{o:Oper}{E:ew}(hi:opsA[i]? = some o)(b1:cD[i]? = some E):
 ∀(fuel:Nat) (listed:Array Bool) (g:dm),
  (∀(j:Nat) qa mv,opsA[j]? = some qa→cD[j]? = some mv→j≠i→listed.getD j true=false→waits opsA.toList i 3 j=false→CZ E mv=true)→oy opsA listed→
  i∈Region.ready .any opsA listed→Can cf tt opsA.toList o E g→jD cf tt opsA cD Fi fuel (listed.setIfInBounds i true) (eE E g)→jD cf tt opsA cD Fi (fuel+1) listed g:=by
 intro fuel;induction fuel with
 |zero=>
  intro listed g _ _ ai jS H;refine⟨λh=>(by rw [h]at ai;cases ai),λj hj=>?_⟩
  by_cases p':j=i
  ·subst p';exact⟨o,E,hi,b1,jS,H⟩
  ·have:=ready_mono hj p'
   rw [H.1]at this;cases this
 |succ fuel aG=>
  intro listed g kA gN ai jS H;refine⟨λh=>(by rw [h]at ai;cases ai),λj hj=>?_⟩
  by_cases p':j=i
  ·subst p';exact⟨o,E,hi,b1,jS,H⟩
  obtain⟨qa,mv,qb,ul,Xl,ag4⟩:=H.2 j (ready_mono hj p');obtain⟨Xm,as6,Xn,p_⟩:=mem_ready.1 hj;rw [qb]at Xn;cases Xn
  have oz:listed.getD i false=false:=by
   have h0:=(mem_ready.1 ai).1;rcases Nat.lt_or_ge i listed.size with cO|cO
   ·simpa [Array.getD_eq_getD_getElem?,cO]using h0
   ·simp [Array.getD_eq_getD_getElem?,Array.getElem?_eq_none cO]
  have ag5:waits opsA.toList i 3 j=false:=by
   rw [Bool.eq_false_iff];intro hw;rw [waits]at hw;have aa:opsA.toList[j]? = some qa:=by simpa using qb
   simp only [aa]at hw;obtain⟨e,he,hb⟩:=List.any_eq_true.1 hw;simp only [Bool.and_eq_true,Bool.or_eq_true,Nat.beq_eq]at hb;have Z:=p_ e (by simpa using he) hb.1
   rcases hb.2 with rfl|ab
   ·rw [oz]at Z;cases Z
   ·rw [Hp gN ab Z]at oz;cases oz
  obtain⟨d1,d2,d3,d4,d5,d6,d7,d8⟩:=ag3 (kA j qa mv qb ul p' Xm ag5);obtain⟨cC,al,_,_⟩:=Ho (cF i o E hi b1);obtain⟨hN,kh,_,_⟩:=Ho (cF j qa mv qb ul)
  have c1:Can cf tt opsA.toList qa mv g:=by
   rcases d4 with d4|⟨e1,e2⟩
   ·exact Xl.congr hN kh (λt aF=>wl λhw=>wm d1 hw aF) (λq ao=>yP λhw=>wm d4 hw ao) (λhm=>by rw [Hi,d8 hm];rfl) Hj
   ·exact Xl.Xk (C0 (cF j qa mv qb ul) e2).1 (C0 (cF j qa mv qb ul) e2).2 hN (λt aF=>wl λhw=>wm d1 hw aF) (jS.data (cF i o E hi b1) e1)
  have c2:Can cf tt opsA.toList o E (eE mv g):=by
   have Xo:∀t,t∈E.nA→m9 g (eE mv g) t:=λt aF=>by have:=wl (E:=mv) (g:=g) (t:=t) λhw=>wm d3 hw aF;exact⟨this.1.symm,this.2.symm⟩
   rcases d6 with d6|⟨e1,e2⟩
   ·exact jS.congr cC al Xo (λq ao=>(yP (E:=mv) (g:=g) (q:=q) λhw=>wm d6 hw ao).symm) (λhm=>by rw [Hi,d7 hm];rfl) Hj.symm
   ·exact jS.Xk (C0 (cF i o E hi b1) e2).1 (C0 (cF i o E hi b1) e2).2 cC Xo (λq=>(c1.data (cF j qa mv qb ul) e1 q).symm)
  refine⟨qa,mv,qb,ul,c1,aG (listed.setIfInBounds j true) (eE mv g) ?_ (gN.set hj) (ready_mono ai (Ne.symm p')) c2 ?_⟩
  ·intro k ok ag6 hk ag7 Hq oz o9;refine kA k ok ag6 hk ag7 Hq ?_ o9;by_cases um:j=k
   ·subst um;exact Xm
   ·rw [getD_set_ne true um]at oz;exact oz
  ·rw [Array.setIfInBounds_comm _ _ p'];exact jD.alike cF dP (agV d2 d5).symm ag4
structure Hr(n k:Nat)(listed:Array Bool):Prop where
 size:listed.size=n
 at':∀j,j<n→listed[j]? = some (decide (j<k))
def Hr.set{n k:Nat}{listed:Array Bool}(h:Hr n k listed):Hr n (k+1) (listed.setIfInBounds k true):=by
 refine⟨by simp [h.size],λj hj=>?_⟩
 by_cases um:k=j
 ·subst um;simp [h.size,hj]
 ·rw [Array.getElem?_setIfInBounds_ne um,h.at' j hj]
  congr 1
  have:(j<k)=(j<k+1):=by apply propext;omega
  simp [this]
def ag8(o:Oper)(k:Nat):Bool:=o.after.toList.all λe=>!Region.binds .any e||Nat.blt e.on k
def Hs(ops:List Oper)(E:ew)(k:Nat):Nat→List (Oper×ew)→Bool
 |_,[]=>true
 |j,(_,dg)::l=>(CZ E dg||waits ops k 3 j)&&Hs ops E k (j+1) l
def Ht(ops:List Oper):Nat→List (Oper×ew)→Bool
 |_,[]=>true
 |k,(o,E)::l=>ag8 o k&&Hs ops E k (k+1) l&&Ht ops (k+1) l
def Hu(cf:gE)(tt:dI)(ops:List Oper)(Fi:dm→Prop):List (Oper×ew)→dm→Prop
 |[],g=>Fi g
 |(o,E)::l,g=>Can cf tt ops o E g∧Hu cf tt ops Fi l (eE E g)
def Xp{ops:List Oper}{E:ew}{k:Nat}:∀{l:List (Oper×ew)} {n:Nat},Hs ops E k n l=true→∀(j:Nat) o dg,l[j]? = some (o,dg)→waits ops k 3 (n+j)=false→CZ E dg=true
 |[],_,_,j,o,dg,hj,_=>by simp at hj
 |(dM,a8)::l,n,h,j,o,dg,hj,o9=>by
  simp only [Hs,Bool.and_eq_true,Bool.or_eq_true]at h;cases j with
  |zero=>
   simp at hj
   obtain⟨rfl,rfl⟩:=hj;exact h.1.resolve_right (by rw [Nat.add_zero]at o9;rw [o9];simp)
  |succ j=>exact Xp h.2 j o dg (by simpa using hj) (by rwa [show n+1+j=n+(j+1)by omega])
def jD.text(cF:∀(i:Nat) o E,opsA[i]? = some o→cD[i]? = some E→gO opsA.toList o E=true)(dP:∀g1 g2,Alike g1 g2→Fi g1→Fi g2):
 ∀(l:List (Oper×ew)) (k:Nat) (listed:Array Bool) (g:dm),(∀j:Nat,(l[j]?).map (·.1)=opsA[k+j]?)→(∀j:Nat,(l[j]?).map (·.2)=cD[k+j]?)→Hr opsA.size k listed→oy opsA listed→Ht opsA.toList k l=true→Hu cf tt opsA.toList Fi l g→
  jD cf tt opsA cD Fi l.length listed g
 |[],k,listed,g,Z,_,c8,_,_,hc=>by
  refine⟨?_,hc⟩
  have hk:opsA[k]? = none:=by have:=Z 0;simpa using this.symm
  have sI:opsA.size≤k:=by simpa using hk
  refine List.eq_nil_iff_forall_not_mem.2 λj hj=>?_
  obtain⟨hu,o,aw,_⟩:=mem_ready.1 hj;have cZ:j<opsA.size:=(Array.getElem?_eq_some_iff.1 aw).1;have:=c8.at' j cZ
  rw [Array.getD_eq_getD_getElem?,this]at hu;have um:j<k:=by omega
  simp [um]at hu
 |(o,E)::l,k,listed,g,Z,ab,c8,gN,hx,hc=>by
  have aw:opsA[k]? = some o:=by have:=Z 0;simpa using this.symm
  have b1:cD[k]? = some E:=by have:=ab 0;simpa using this.symm
  have cZ:k<opsA.size:=(Array.getElem?_eq_some_iff.1 aw).1;simp only [Ht,Bool.and_eq_true]at hx;obtain⟨⟨ai,aY⟩,hx⟩:=hx
  have Xq:k∈Region.ready .any opsA listed:=by
   refine mem_ready.2 ⟨?_,o,aw,λe he hb=>?_⟩
   ·rw [Array.getD_eq_getD_getElem?,c8.at' k cZ];simp
   ·have:=List.all_eq_true.1 ai e (by simpa using he)
    simp only [hb,Bool.not_true,Bool.false_or,Nat.blt_eq]at this;rw [Array.getD_eq_getD_getElem?,c8.at' e.on (by omega)]
    simp [this]
  refine jD.first cF dP aw b1 l.length listed g ?_ gN Xq hc.1 (jD.text cF dP l (k+1) _ _ (λj=>?_) (λj=>?_) c8.set (gN.set Xq) hx hc.2)
  ·intro j qa mv qb ul di oz o9;have vV:j<opsA.size:=(Array.getElem?_eq_some_iff.1 qb).1
   have um:k<j:=by
    rw [Array.getD_eq_getD_getElem?,c8.at' j vV]at oz;simp at oz
    omega
   have e1:=Z (j-k);have e2:=ab (j-k);have Xr:k+(j-k)=j:=by omega
   rw [Xr,qb]at e1;rw [Xr,ul]at e2
   have e3:(((o,E)::l)[j-k]?)=l[j-k-1]? := by
    have:j-k=(j-k-1)+1:=by omega
    rw [this];simp
   rw [e3]at e1 e2;cases aa:l[j-k-1]? with
   |none=>rw [aa]at e1;simp at e1
   |some x=>
    rw [aa]at e1 e2;simp at e1 e2
    obtain⟨dA,ey⟩:=x;simp only at e1 e2
    subst e1;subst e2;exact Xp aY _ _ _ aa (by rwa [show k+1+(j-k-1)=j by omega])
  ·have:=Z (j+1);simpa [Nat.add_assoc,Nat.add_comm 1 j]using this
  ·have:=ab (j+1);simpa [Nat.add_assoc,Nat.add_comm 1 j]using this
end
def ri(N:Nat)(E:ew):Bool:=
 match E.dst with
 |none=>E.p.isEmpty
 |some t=>Nat.blt t N&&match E.p with
  |[]=>true
  |p=>E.f.e.isSome&&E.f.hs.isEmpty&&E.f.hM.isEmpty&&p.all (λy=>!Nat.beq y.1 t)&&Nat.beq E.f.eS 0
def C1(ops:List Oper)(i:Nat)(t:Nat):Nat→List ew→Bool
 |_,[]=>true
 |j,dg::l=>(match dg.p with
  |[]=>true
  |p=>(match dg.dst with |some bS=>Nat.beq bS t |none=>false)||p.all (λy=>!Nat.beq y.1 t)||waits ops i 3 j)&&C1 ops i t (j+1) l
def Hv(ops:List Oper)(cD:List ew):Nat→List ew→Bool
 |_,[]=>true
 |i,E::l=>(match E.dst with
  |none=>true
  |some t=>C1 ops i t 0 cD)&&Hv ops cD (i+1) l
def C2(ops:List Oper)(cD:List ew):Bool:=Hv ops cD 0 cD
def Xs{ops:List Oper}{i t:Nat}:∀{l:List ew} {k:Nat},C1 ops i t k l=true→∀(j:Nat) (dg:ew),l[j]? = some dg→dg.p≠[]→
 ((match dg.dst with|some bS=>Nat.beq bS t|none=>false)||dg.p.all (λy=>!Nat.beq y.1 t))=true∨waits ops i 3 (k+j)=true
 |[],_,_,j,dg,h,_=>by simp at h
 |a8::l,k,h,j,dg,hj,di=>by
  simp only [C1,Bool.and_eq_true]at h;cases j with
  |zero=>
   simp at hj
   subst hj;have Z:=h.1;split at Z
   ·rename_i pY;exact absurd pY di
   ·rw [Bool.or_eq_true]at Z;exact Z
  |succ j=>
   have:=Xs h.2 j dg (by simpa using hj) di
   rwa [show k+(j+1)=k+1+j by omega]
def Xt{ops:List Oper}{cD:List ew}:∀{l:List ew} {k:Nat},Hv ops cD k l=true→∀(i:Nat) (E:ew) (t:Nat),l[i]? = some E→E.dst=some t→C1 ops (k+i) t 0 cD=true
 |[],_,_,i,E,t,h,_=>by simp at h
 |a8::l,k,h,i,E,t,hi,hd=>by
  simp only [Hv,Bool.and_eq_true]at h;cases i with
  |zero=>
   simp at hi
   subst hi;have Z:=h.1;rw [hd]at Z;exact Z
  |succ i=>
   have:=Xt h.2 i E t (by simpa using hi) hd
   rwa [show k+(i+1)=k+1+i by omega]
section
variable {P:Program} {K:Ctx} {N:Nat} {M:Mem} {β:Nat→Option Nat} {tt:dI} {opsA:Array Oper} {cD:List ew} {g:dm} {w:World} {tmps:Array Value}
def un(cD:List ew)(listed:Array Bool)(g:dm):Prop:=∀x,x∈g.b6→∃(i:Nat) (E:ew),cD[i]? = some E∧listed.getD i false=true∧E.dst=some x.1∧E.p=x.2.1∧E.p≠[]
def Hw{α:Type}:∀{l:List (Nat×α)} {t:Nat} {x:Nat×α},x∈del l t→x∈l
 |[],_,_,h=>by simp [del]at h
 |(j,y)::l,t,x,h=>by
  simp only [del]at h;rw [Bool.cond_eq_ite]at h;split at h
  ·exact List.mem_cons_of_mem _ (Hw h)
  ·rcases List.mem_cons.1 h with rfl|h
   ·simp
   ·exact List.mem_cons_of_mem _ (Hw h)
def un.ap{listed:Array Bool}{i:Nat}{E:ew}(b1:cD[i]? = some E)(hi:i<listed.size)(h:un cD listed g):un cD (listed.setIfInBounds i true) (eE E g):=by
 have cO:un cD (listed.setIfInBounds i true) g:=λx hx=>by
  obtain⟨j,dg,Z,ab,aj⟩:=h x hx;exact⟨j,dg,Z,getD_set_true ab,aj⟩
 intro x hx;unfold eE at hx;cases hd:E.dst with
 |none=>simp only [hd]at hx;exact cO x hx
 |some t=>
  simp only [hd]at hx;cases hp:E.p with
  |nil=>simp only [hp]at hx;exact cO x (Hw hx)
  |cons y p=>
   simp only [hp]at hx;cases he:E.f.e with
   |none=>simp only [he]at hx;exact cO x hx
   |some e=>
    simp only [he]at hx;rcases List.mem_cons.1 hx with rfl|hx
    ·exact⟨i,E,b1,by simp [hi],by simp [hd],by simp [hp],by simp [hp]⟩
    ·exact cO x (Hw hx)
def ag9{listed:Array Bool}{i:Nat}{E:ew}{t:Nat}(kA:C2 opsA.toList cD=true)(b1:cD[i]? = some E)(hd:E.dst=some t)(hc:oy opsA listed)(hi:listed.getD i false=false)(h:un cD listed g):yk g.b6 t=true:=by
 unfold yk;rw [List.all_eq_true];intro x hx;obtain⟨j,dg,sK,aa,kv,yK,di⟩:=h x hx;have Z:=Xt kA i E t b1 hd;rw [Nat.zero_add]at Z;rcases Xs Z j dg sK di with ab|ab
 ·rw [kv,yK]at ab;exact ab
 ·rw [Nat.zero_add]at ab;have:=Hp hc ab aa
  rw [hi]at this;cases this
def Xu{listed:Array Bool}{cf:gE}{o:Oper}{E:ew}{i:Nat}(jo:E.kd=0)(jS:OP cf tt opsA.toList o E g)(b1:cD[i]? = some E)(cF:gO opsA.toList o E=true)(aI:ri N E=true)(kA:C2 opsA.toList cD=true)(hc:oy opsA listed)(hi:listed.getD i false=false)(mX:un cD listed g):
 oh cf tt N opsA.toList {g with rs:=E.rs,a6:=[]} o=some (.go {eE E g with rs:=[],a6:=E.f.a6.map (under g E.p)}):=by
 obtain⟨_,_,ef,ec⟩:=Ho cF;have hg:pW opsA.toList {g with rs:=E.rs,a6:=[]} o=some E.p:=jS.Hl
 have hs:step1 cf tt opsA.toList {g with rs:=E.rs,a6:=[]} E.p o=some (.go E.f):=by
  have dy:=jS.st;rw [jo]at dy;refine Eq.trans ?_ dy;exact OK (g1:={g with rs:=E.rs,a6:=[]}) (g2:={g with rs:=E.rs}) (λ_ _ _ _=>⟨rfl,rfl⟩) rfl rfl (λ_=>rfl) (λ_ _=>rfl)
 have hu:∀q,under {g with rs:=E.rs,a6:=[]} E.p q=under g E.p q:=λq=>Hk λ_ _=>⟨rfl,rfl⟩
 unfold oh;rw [hg]
 dsimp only
 rw [hs]
 dsimp only
 rw [←ef];have cp:E.f.a6.map (under {g with rs:=E.rs,a6:=[]} E.p)++[]=E.f.a6.map (under g E.p):=by rw [List.append_nil];exact List.map_congr_left λq _=>hu q
 rw [cp,ec];unfold ri at aI;unfold eE;cases hd:E.dst with
 |none=>
  rw [hd]at aI
  dsimp only at aI ⊢
  rw [aI];rfl
 |some t=>
  rw [hd]at aI;have aY:=ag9 kA b1 hd hc hi mX;simp only [Bool.and_eq_true]at aI;obtain⟨cZ,aI⟩:=aI
  dsimp only
  rw [cZ,aY];cases hp:E.p with
  |nil=>rfl
  |cons x p=>
   rw [hp]at aI;simp only [Bool.and_eq_true,List.isEmpty_iff,Nat.beq_eq,Option.isSome_iff_exists]at aI;obtain⟨⟨⟨⟨⟨e,he⟩,bn⟩,hc⟩,p_⟩,hn⟩:=aI;simp only [he,bn,hc,hn,p_];rfl
def jD.sound(cz:fD P tt=true)(jo:∀(i:Nat) E,cD[i]? = some E→E.kd=0)(cF:∀(i:Nat) o E,opsA[i]? = some o→cD[i]? = some E→gO opsA.toList o E=true)(aI:∀(i:Nat) E,cD[i]? = some E→ri N E=true)(kA:C2 opsA.toList cD=true){Fi:dm→Prop}{Q:Exit→Act→World→Prop}
 (ej:∀g fX w' M' β',Fi g→fY P K N M' β' g fX w'→Q .normal ⟨fX,K.ds⟩ w'):
 ∀(n:Nat) (listed:Array Bool) (g:dm) (tmps:Array Value) (w:World) (M:Mem) (β:Nat→Option Nat),jD (jP P) tt opsA cD Fi n listed g→listed.size=opsA.size→oy opsA listed→un cD listed g→fY P K N M β g tmps w→wpAny P .any opsA Q n listed ⟨tmps,K.ds⟩ w
 | 0,_,g,tmps,w,M,β,h,_,_,_,hs=>⟨h.1,ej g tmps w M β h.2 hs⟩
 |n+1,listed,g,tmps,w,M,β,h,ev,gN,mX,hs=>by
  refine⟨λai=>ej g tmps w M β (h.1 ai) hs,λi hi=>?_⟩
  obtain⟨o,E,aw,b1,Hx,hn⟩:=h.2 i hi;have jS:=Hx.resolve_left (by rw [jo i E b1];simp)
  have cZ:i<listed.size:=by rw [ev];exact(Array.getElem?_eq_some_iff.1 aw).1
  have oz:listed.getD i false=false:=by have:=(mem_ready.1 hi).1;simpa [Array.getD_eq_getD_getElem?,cZ]using this
  have OQ:=Xu (N:=N) (jo i E b1) jS b1 (cF i o E aw b1) (aI i E b1) kA gN oz mX;have gg:fY P K N M β {g with rs:=E.rs,a6:=[]} tmps w:=⟨hs.bA,hs.size,hs.fresh,hs.cond⟩;unfold wpOp;simp only [aw];refine OA gg cz (opsA:=opsA) rfl OQ (λq ao=>?_) (λfX w' M' β' cO=>?_)
  ·obtain⟨q',p3,rfl⟩:=List.mem_map.1 ao;exact jS.a6 q' p3
  ·exact jD.sound cz jo cF aI kA ej n _ (eE E g) fX w' M' β' hn (by simpa using ev) (gN.set hi) (mX.ap b1 cZ) ⟨cO.bA,cO.size,cO.fresh,cO.cond⟩
end
def findD(cf:gE)(tt:dI)(ops:List Oper)(g:dm)(o:Oper)(rs:List fv):Option ew:=
 match pW ops g o with
 |none=>none
 |some p=>match step1 cf tt ops {g with rs:=rs} p o with
  |some (.go f)=>some {dst:=o.dst,p,f,kl:=i7 tt g p o,nA:=p9 ops o++p.map (·.1),p7:=rf o,rs,ow:=wo o rs}
  |_=>none
def wq(cf:gE)(tt:dI)(ops:List Oper):List Oper→List (List fv)→dm→Option (List ew×dm×List Prop)
 |[],[],g=>some ([],g,[])
 |o::l,rs::jT,g=>match findD cf tt ops g o rs with
  |some E=>match wq cf tt ops l jT (eE E g) with
   |some (cD,e4,a6)=>some (E::cD,e4,a6++E.f.a6.map (under g E.p))
   |none=>none
  |none=>none
 |_,_,_=>none
def lD:List Oper→List ew→List (Oper×ew)
 |o::l,E::m=>(o,E)::lD l m
 |_,_=>[]
def Hy(N:Nat)(ops:List Oper)(cD:List ew):Bool:=
 (lD ops cD).all (λx=>gO ops x.1 x.2)&&cD.all (ri N)&&C2 ops cD&&Ht ops 0 (lD ops cD)
section
variable {cf:gE} {tt:dI} {ops:List Oper}
def Xv{Fi:dm→Prop}:∀{l:List Oper} {jT:List (List fv)} {g:dm} {cD:List ew} {e4:dm} {a6:List Prop},wq cf tt ops l jT g=some (cD,e4,a6)→(∀q,q∈a6→q)→Fi e4→
 cD.length=l.length∧(∀E,E∈cD→E.kd=0)∧Hu cf tt ops Fi (lD l cD) g
 |[],[],g,cD,e4,a6,h,_,dP=>by
  simp only [wq,Option.some.injEq,Prod.mk.injEq]at h;obtain⟨rfl,rfl,rfl⟩:=h;exact⟨rfl,by simp,dP⟩
 |o::l,rs::jT,g,cD,e4,a6,h,cp,dP=>by
  simp only [wq]at h;split at h
  case h_2=>cases h
  rename_i E b1;split at h
  case h_2=>cases h
  rename_i wu g1 ag' Z;simp only [Option.some.injEq,Prod.mk.injEq]at h;obtain⟨rfl,rfl,rfl⟩:=h;obtain⟨ab,ag_,aj⟩:=Xv Z (λq ao=>cp q (List.mem_append_left _ ao)) dP
  have aha:E.kd=0:=by
   unfold findD at b1;split at b1
   ·cases b1
   split at b1
   ·cases b1;rfl
   ·cases b1
  refine⟨by simp [ab],λdg sK=>?_,?_,aj⟩
  ·rcases List.mem_cons.1 sK with rfl|sK
   ·exact aha
   ·exact ag_ dg sK
  have OR:∀q,q∈E.f.a6→under g E.p q:=λq ao=>cp _ (List.mem_append_right _ (List.mem_map.2 ⟨q,ao,rfl⟩))
  unfold findD at b1;split at b1
  ·cases b1
  rename_i p hp;split at b1
  ·rename_i f aY;cases b1;exact .inr ⟨hp,aY,OR,λ_ h=>h,λh=>by cases h⟩
  ·cases b1
 |[],_::_,_,_,_,_,h,_,_=>by simp [wq]at h
 |_::_,[],_,_,_,_,h,_,_=>by simp [wq]at h
def wv:∀{l:List Oper} {m:List ew},m.length=l.length→∀(j:Nat),((lD l m)[j]?).map (·.1)=l[j]? ∧ ((lD l m)[j]?).map (·.2)=m[j]?
 |[],[],_,j=>by simp [lD]
 |o::l,E::m,h,j=>by
  cases j with
  |zero=>simp [lD]
  |succ j=>simpa [lD]using wv (by simpa using h) j
 |[],_::_,h,_=>by simp at h
 |_::_,[],h,_=>by simp at h
def OS:∀{l:List Oper} {m:List ew},m.length=l.length→(lD l m).length=l.length
 |[],[],_=>rfl
 |_::l,_::m,h=>by simp [lD,OS (l:=l) (m:=m) (by simpa using h)]
 |[],_::_,h=>by simp at h
 |_::_,[],h=>by simp at h
end
section
variable {P:Program} {N E:Nat} {st:aM} {tt:dI}
def Alike.bA{K:Ctx}{M:Mem}{β:Nat→Option Nat}{g1 g2:dm}{tmps:Array Value}{w:World}(ha:Alike g1 g2)(h:bN P K M β {env:=g1.env,H:=g1.H,aW:=g1.aW} tmps w):bN P K M β {env:=g2.env,H:=g2.H,aW:=g2.aW} tmps w:=by
 have gl:∀l,({env:=g2.env,H:=g2.H,aW:=g2.aW}:aM).at l=({env:=g1.env,H:=g1.H,aW:=g1.aW}:aM).at l:=by
  intro l;cases l with
  |slot s=>exact(ha.slot s).1.symm
  |cell r i=>simp only [aM.at];rw [←ha.box r]
 have hb:∀r,look g2.H r=look g1.H r:=λr=>(ha.box r).symm
 constructor
 ·intro l e aa;rw [gl]at aa;exact h.fw l e aa
 ·intro l e T aa;rw [gl]at aa;exact h.own l e T aa
 ·intro l cI e bg T T' b aa aH dE;rw [gl]at aa dE;exact h.uniq l cI e bg T T' b aa aH dE
 ·intro l e T b r cs aa aH nu ai;rw [gl]at aa;exact h.unbox l e T b r cs aa aH nu (by rw [←hb r];exact ai)
 ·intro r cs ai;exact h.box r cs (by rw [←hb r];exact ai)
 ·intro r dw b cs cs' ai ge;exact h.inj r dw b cs cs' (by rw [←hb r];exact ai) (by rw [←hb dw];exact ge)
 ·intro r b ai;exact(by have:=h.lt r b ai;simpa [ha.aW]using this)
 ·exact h.mem
 ·exact h.m0
 ·exact h.frame
 ·exact h.iT
 ·exact h.jA
 ·exact h.h9
def bN.drew{K:Ctx}{M:Mem}{β:Nat→Option Nat}{tmps:Array Value}{w:World}(h:bN P K M β st tmps w)(k:Nat):bN P K M β st tmps {w with drawn:=k}:=
 ⟨h.fw,h.own,h.uniq,h.unbox,h.box,h.inj,h.lt,h.mem,h.m0,h.frame,h.iT,h.jA,h.h9⟩
end
def a_.scope{P:Program}{N E:Nat}{c:Code}{Q:cr→aM→Prop}{st:aM}(h:a_ P N E c Q st):a_ P N E (.scope c) Q st:=by
 intro K eG a w hs;refine wp_scope_straight (wp_mono (h K eG a w hs) ?_)
 rintro e eb w' ⟨fP,b9,Z,ab⟩
 cases fP with
 |normal=>obtain⟨rfl,aj⟩:=Z;exact⟨.normal,b9,⟨rfl,aj⟩,ab⟩
 |exit i=>obtain⟨rfl,aj⟩:=Z;exact⟨.exit i,b9,⟨rfl,aj⟩,ab⟩
 |ret=>obtain⟨rfl,aj⟩:=Z;exact⟨.ret,b9,⟨rfl,aj⟩,ab⟩
 |bf x=>obtain⟨v,rfl,aj⟩:=Z;exact⟨.bf x,b9,⟨v,rfl,aj⟩,ab⟩
def ik.on{α β dG:Type}(x:α ⊕ β)(f:α→dG)(g:β→dG):dG:=
 match x with
 |.inl a=>f a
 |.inr b=>g b
def Hz.on{α β dG:Type}(x:α×β)(f:α→β→dG):dG:=f x.1 x.2
def HA(P:Program)(w:World):Prop:=(∀g,g∈Nk P→∃fN,w.cell? ⟨g,0,none⟩=some fN∧(fN = .nilIface∨∃ci sr,fN = .iface ci sr))∧
 ∀ g, P.globalNamed "internal/strconv.uint64pow10" = some g → ∃ t kW, w.heap[g]? = some (.cells Nl t kW)
section
variable {P:Program}
def bN.ahb{K:Ctx}{M:Mem}{β:Nat→Option Nat}{st:aM}{tmps:Array Value}{w:World}(h:bN P K M β st tmps w):HA P w:=⟨λg hg=>by
 obtain⟨cs,t,kW,fN,Z,ab,aj⟩:=h.jA.1 g hg;refine⟨fN,?_,aj⟩
 have:=(h.frame g _ Z).1
 unfold World.cell?;rw [this];exact ab,λg hg=>by
 obtain⟨t,kW,Z⟩:=h.jA.2 g hg;exact⟨t,kW,(h.frame g _ Z).1⟩⟩
def Xw {f : FuncId} {args : List D} {vsOf : World → List Value → Prop} {d : D} {fd : Func} (kf : P.funcs[f]? = some fd) (hb : fd.body.isSome = true) (hn : decide (fd.name = "runtime.NumGoroutine") = false)
 (e8:∀(w:World) (M:Mem) (β:Nat→Option Nat) (vs:List Value),(∀b o v,M b o=some v→w.cell? ⟨b,o,none⟩=some v)→vs.length=args.length→(∀(i:Nat) v a,vs[i]? = some v→args[i]? = some a→cy M β v a)→vsOf w vs)
 (wh:∀(vs:List Value) (w:World),vsOf w vs→HA P w→Calls P f ⟨vs⟩ w λe w'=>∃v,e = .returned v∧(∀M β,cy M β v d)∧(∀(b:Nat) (a6:Obj),w.heap[b]? = some a6→w'.heap[b]? = some a6)∧(w'.os,w'.output)=(w.os,w.output)):
 gY P f args [] [] (.ret d none) []:=by
 refine⟨⟨fd,kf,hb,by simpa using hn⟩,λK w vs M β hlen hs hF=>?_⟩
 have av:vsOf w vs:=e8 w M β vs hs.mem hlen λi v a hi ha=>by
  have Z:=hs.fw (.slot i) ⟨a,none⟩ (by
   simp only [aM.at,hX,nx,CB,ha,Option.map_some,look])
  have ab:cv (⟨vs⟩:Array Value) w β (.slot i)=v:=by
   simp [cv,hi]
  rw [ab]at Z;exact Z
 refine(wh vs w av hs.ahb).mono ?_
 rintro e w' ⟨v,rfl,gM,vL,o4⟩
 refine⟨.ret d none,[],v,M,β,⟨rfl,rfl⟩,rfl,?_⟩
 have ij:∀b o v,w.cell? ⟨b,o,none⟩=some v→w'.cell? ⟨b,o,none⟩=some v:=by
  intro b o v h;unfold World.cell? at h ⊢;cases hb:w.heap[b]? with
  |none=>simp [hb]at h
  |some a6=>rw [vL b a6 hb];rw [hb]at h;exact h
 constructor
 ·intro l e aa;cases l with
  |slot s=>
   simp only [aM.at,iy,dZ]at aa;split at aa
   ·rename_i h0;subst h0;cases aa;exact gM M β
   ·simp [look]at aa
  |cell r i=>simp [aM.at,cS,look]at aa
 ·intro l e T aa aH;cases l with
  |slot s=>
   simp only [aM.at,iy,dZ]at aa;split at aa
   ·cases aa;cases aH
   ·simp [look]at aa
  |cell r i=>simp [aM.at,cS,look]at aa
 ·intro l cI e bg T T' b aa aH;cases l with
  |slot s=>
   simp only [aM.at,iy,dZ]at aa;split at aa
   ·cases aa;cases aH
   ·simp [look]at aa
  |cell r i=>simp [aM.at,cS,look]at aa
 ·intro l e T b r cs aa aH hb ai;simp [cS,look]at ai
 ·intro r cs ai;simp [cS,look]at ai
 ·intro r dw b cs cs' ai;simp [cS,look]at ai
 ·exact hs.lt
 ·exact λb o v h=>ij b o v (hs.mem b o v h)
 ·exact hs.m0
 ·exact λb a6 h=>⟨vL b a6 (hs.frame b a6 h).1,(hs.frame b a6 h).2⟩
 ·exact hs.iT
 ·exact hs.jA
 ·exact o4.trans hs.h9
def ww {f : FuncId} {args : List D} {vsOf : List Value → Prop} {d : D} {fd : Func} (kf : P.funcs[f]? = some fd) (hb : fd.body.isSome = true) (hn : decide (fd.name = "runtime.NumGoroutine") = false)
 (e8:∀(M:Mem) (β:Nat→Option Nat) (vs:List Value),vs.length=args.length→(∀(i:Nat) v a,vs[i]? = some v→args[i]? = some a→cy M β v a)→vsOf vs)
 (wh:∀(vs:List Value) (w:World),vsOf vs→HA P w→Calls P f ⟨vs⟩ w λe w'=>∃v,e = .returned v∧(∀M β,cy M β v d)∧(∀(b:Nat) (a6:Obj),w.heap[b]? = some a6→w'.heap[b]? = some a6)∧(w'.os,w'.output)=(w.os,w.output)):
 gY P f args [] [] (.ret d none) []:=
 Xw (vsOf:=λ_ vs=>vsOf vs) kf hb hn (λ_ M β vs _=>e8 M β vs) wh
end
def wx(cf:gE)(tt:dI)(N:Nat)(ops:List Oper)(rs:List fv)(st:aM):Option Fin:=
 match tP cf tt N ops ops {env:=st.env,b6:=[],H:=st.H,aW:=st.aW,rs,a6:=[]} with
 |some (.go g)=>match g.rs with
  |[]=>some (.go {env:=g.env,H:=g.H,aW:=g.aW} g.a6)
  |_=>none
 |some (.bf x st a6)=>some (.bf x st a6)
 |none=>none
def wy:List Oper→Nat→List (Nat×Nat)
 |[],_=>[]
 |o::l,n=>match rf o,o.dst with
  |true,some t=>(t,n)::wy l (n+1)
  |_,_=>wy l n
def HB(ops:List Oper)(st:aM):dm:=
 {env:=st.env,b6:=[],H:=st.H,aW:=st.aW+(wy ops st.aW).length,rs:=[],a6:=[],ids:=wy ops st.aW}
def HC(cf:gE)(tt:dI)(N:Nat)(ops:List Oper)(jT:List (List fv))(st:aM):Option Fin:=
 match wq cf tt ops ops jT (HB ops st) with
 |some (cD,g,a6)=>bif Hy N ops cD then some (.go {env:=g.env,H:=g.H,aW:=g.aW} a6)else none
 |none=>none
def jU:Option Fin→aM
 |some (.go st _)=>st
 |some (.bf _ st _)=>st
 |none=>{env:=[],H:=[],aW:=0}
def mw:Option Fin→Option (List Prop)
 |some (.go _ a6)=>some a6
 |_=>none
def OT:Option Fin→Option (V×List Prop)
 |some (.bf x _ a6)=>some (x,a6)
 |_=>none
def spread:Nat→Nat→List (Nat×List fv)→List (List fv)
 | 0,_,_=>[]
 |n+1,i,l=>(look l i).getD []::spread n (i+1) l
def HD:∀(l:List Oper) (n:Nat) (x:Nat×Nat),x∈wy l n→n≤x.2∧True
 |[],n,x,h=>by simp [wy]at h
 |o::l,n,x,h=>by
  unfold wy at h;split at h
  ·rcases List.mem_cons.1 h with h|h
   ·subst h;exact⟨Nat.le_refl _,trivial⟩
   ·have:=(HD l (n+1) x h).1;exact⟨by omega,trivial⟩
  ·exact HD l n x h
def bN.up{P:Program}{K:Ctx}{M:Mem}{β:Nat→Option Nat}{st:aM}{tmps:Array Value}{w:World}(h:bN P K M β st tmps w)(k:Nat):bN P K M β {env:=st.env,H:=st.H,aW:=st.aW+k} tmps w:=
 ⟨h.fw,h.own,h.uniq,h.unbox,h.box,h.inj,(λr b hb=>Nat.lt_of_lt_of_le (h.lt r b hb) (Nat.le_add_right _ _)),h.mem,h.m0,h.frame,h.iT,h.jA,h.h9⟩
section
variable {P:Program} {N E:Nat} {st:aM} {tt:dI}
def a_.rg{id:Nat}{opsA:Array Oper}{Q:cr→aM→Prop}(cz:fD P tt=true)(rs:List fv){b8:List Prop}(ai:mw (wx (jP P) tt N opsA.toList rs st)=some b8)(cp:k3 b8)
 (ej:Q .normal (jU (wx (jP P) tt N opsA.toList rs st))):a_ P N E (.region id opsA false) Q st:=by
 rintro K eG a w ⟨_,hd,ev,M,β,cP⟩
 obtain⟨tmps,ds⟩:=a;simp only at hd ev
 subst hd;have sL:fY P K N M β {env:=st.env,b6:=[],H:=st.H,aW:=st.aW,rs:=rs,a6:=[]} tmps w:=⟨cP,ev,(λ_ _ h=>by simp [look]at h),λ_ _ _ h=>by simp [look]at h⟩
 refine wp_region ?_;unfold wx at ai ej;have hlen:List.range opsA.size=List.range' 0 opsA.toList.length:=by rw [List.range_eq_range'];simp
 rw [hlen];split at ai
 ·rename_i g fg;split at ai
  case h_2=>cases ai
  rename_i eY;simp only [mw,Option.some.injEq]at ai;subst ai;rw [fg]at ej;simp only [eY,jU]at ej;refine OC cz rfl (fin:=.go g) cp.mem ?_ opsA.toList 0 _ tmps w M β (λj=>by simp) sL fg
  intro fX w' M' β' cO;exact⟨.normal,_,⟨rfl,rfl,cO.size,M',β',cO.bA⟩,ej⟩
 ·cases ai
 ·cases ai
def a_.OU{id:Nat}{opsA:Array Oper}{Q:cr→aM→Prop}(cz:fD P tt=true)(rs:List fv){x:V}{b8:List Prop}(ai:OT (wx (jP P) tt N opsA.toList rs st)=some (x,b8))(cp:k3 b8)
 (ej:Q (.bf x) (jU (wx (jP P) tt N opsA.toList rs st))):a_ P N E (.region id opsA false) Q st:=by
 rintro K eG a w ⟨_,hd,ev,M,β,cP⟩
 obtain⟨tmps,ds⟩:=a;simp only at hd ev
 subst hd;have sL:fY P K N M β {env:=st.env,b6:=[],H:=st.H,aW:=st.aW,rs:=rs,a6:=[]} tmps w:=⟨cP,ev,(λ_ _ h=>by simp [look]at h),λ_ _ _ h=>by simp [look]at h⟩
 refine wp_region ?_;unfold wx at ai ej;have hlen:List.range opsA.size=List.range' 0 opsA.toList.length:=by rw [List.range_eq_range'];simp
 rw [hlen];split at ai
 ·split at ai<;>cases ai
 ·rename_i y b9 a6 fg;simp only [OT,Option.some.injEq,Prod.mk.injEq]at ai;obtain⟨rfl,rfl⟩:=ai;rw [fg]at ej;refine OC cz rfl (fin:=.bf y b9 a6) cp.mem ?_ opsA.toList 0 _ tmps w M β (λj=>by simp) sL fg
  intro e eb w' cO;exact⟨.bf y,_,cO,ej⟩
 ·cases ai
def a_.HE{id:Nat}{opsA:Array Oper}{Q:cr→aM→Prop}(cz:fD P tt=true)(hm:P.follows .mixedOrders=true)(jT:List (Nat×List fv)){b8:List Prop}(ai:mw (HC (jP P) tt N opsA.toList (spread opsA.toList.length 0 jT) st)=some b8)(cp:k3 b8)
 (ej:Q .normal (jU (HC (jP P) tt N opsA.toList (spread opsA.toList.length 0 jT) st))):a_ P N E (.region id opsA true) Q st:=by
 rintro K eG a w ⟨_,hd,ev,M,β,cP⟩
 obtain⟨tmps,ds⟩:=a;simp only at hd ev
 subst hd;refine wp_region_any hm ?_;unfold HC at ai ej;split at ai
 case h_2=>cases ai
 rename_i cD g ug fg;rw [fg]at ej
 dsimp only at ej
 rw [Bool.cond_eq_ite]at ai ej;split at ai
 case isFalse=>cases ai
 rename_i hc;rw [if_pos hc]at ej;simp only [mw,Option.some.injEq]at ai;subst ai;simp only [jU]at ej;obtain⟨hlen,jo,OV⟩:=Xv (Fi:=λg1=>Alike g g1) fg cp.mem Alike.refl
 simp only [Hy,Bool.and_eq_true]at hc;obtain⟨⟨⟨c1,c2⟩,c3⟩,c4⟩:=hc
 have cF:∀(i:Nat) o E,opsA[i]? = some o→cD[i]? = some E→gO opsA.toList o E=true:=by
  intro i o E aw b1;obtain⟨k2,z2⟩:=wv hlen i;have kX:opsA.toList[i]? = some o:=by simpa using aw
  rw [kX]at k2;rw [b1]at z2;cases dx:(lD opsA.toList cD)[i]? with
  |none=>rw [dx]at k2;simp at k2
  |some x=>
   rw [dx]at k2 z2;simp at k2 z2
   subst k2;subst z2;exact List.all_eq_true.1 c1 x (List.mem_of_getElem? dx)
 have aI:∀(i:Nat) E,cD[i]? = some E→ri N E=true:=λi E b1=>List.all_eq_true.1 c2 E (List.mem_of_getElem? b1)
 have C3:oy opsA (Array.replicate opsA.size false):=λj o aw hj=>by have cZ:j<opsA.size:=(Array.getElem?_eq_some_iff.1 aw).1;simp [Array.getD_eq_getD_getElem?,cZ]at hj
 have C4:=jD.text cF (λg1 g2 gP Z=>Alike.trans Z gP) (lD opsA.toList cD) 0 (Array.replicate opsA.size false) _ (λj=>by have:=(wv hlen j).1;simpa using this) (λj=>by have:=(wv hlen j).2;simpa using this)
  ⟨by simp,λj hj=>by simp [hj]⟩ C3 c4 OV
 have vS:(lD opsA.toList cD).length=opsA.size:=by rw [OS hlen];simp
 rw [vS]at C4;refine jD.sound (K:=K) cz (λi E b1=>jo E (List.mem_of_getElem? b1)) cF aI c3 ?_ _ _ _ tmps _ M β C4 (by simp) C3 (λx hx=>by cases hx) ⟨(cP.drew _).up _,ev,(λs id h _ b hb=>by have Z:=cP.lt _ _ hb;have ab:=(HD _ _ _ (su h)).1;simp only at ab;omega),λ_ _ _ h=>by simp [HB,look]at h⟩
 intro g1 fX w' M' β' ahc cO;exact⟨.normal,_,⟨rfl,rfl,cO.size,M',β',Alike.bA ahc.symm cO.bA⟩,ej⟩
def a_.OW{α:Type}{b:Bool}{x y:Option α}{r:Option α}(h:(bif b then x else y)=r){c:Nat}{wz wA:Code}{Q:cr→aM→Prop}(hc:(look st.env c).map (·.d)=some (.v (.bool b)))
 (aF:x=r→a_ P N E wz Q st) (aY:y=r→a_ P N E wA Q st):a_ P N E (.cond (.tmp c) wz wA) Q st:=by
 simp only [Option.map_eq_some_iff]at hc;obtain⟨⟨d,own⟩,he,rfl⟩:=hc;exact a_.cond b own he (λhb=>aF (by subst hb;exact h)) (λhb=>aY (by subst hb;exact h))
def a_.ahd{c:Nat}{wz wA:Code}{Q:cr→aM→Prop}(hc:(look st.env c).map (·.d)=some (.v (.bool true)))(aF:a_ P N E wz Q st):a_ P N E (.cond (.tmp c) wz wA) Q st:=by
 simp only [Option.map_eq_some_iff]at hc;obtain⟨⟨d,own⟩,he,rfl⟩:=hc;exact a_.cond true own he (λ_=>aF) (λhb=>by cases hb)
def a_.Xx{c:Nat}{wz wA:Code}{Q:cr→aM→Prop}(hc:(look st.env c).map (·.d)=some (.v (.bool false)))(aY:a_ P N E wA Q st):a_ P N E (.cond (.tmp c) wz wA) Q st:=by
 simp only [Option.map_eq_some_iff]at hc;obtain⟨⟨d,own⟩,he,rfl⟩:=hc;exact a_.cond false own he (λhb=>by cases hb) (λ_=>aY)
end
def bG{P:Program}{f:FuncId}{args:List D}{er:List (Nat×TypeId)}{H cL:List (List a7)}{out:Out}(_:gY P f args er H out cL)(os:List Nat):fv:=.call out (some cL) os
def bd{P:Program}{f:FuncId}{args:List D}{er:List (Nat×TypeId)}{H cL:List (List a7)}{out:Out}(_:gY P f args er H out cL)(os:List Nat):fv:=.call out none os
def dn{c:Prop}{P:Program}{f:FuncId}{args:List D}{er:List (Nat×TypeId)}{H cL:List (List a7)}{out:Out}(_:c→gY P f args er H out cL):fv:=.call out none []
def yR{c c2:Prop}{P:Program}{f:FuncId}{args:List D}{er:List (Nat×TypeId)}{H cL:List (List a7)}{out:Out}(_:c→c2→gY P f args er H out cL):fv:=.call out none []
def gq{raw x:V}(_:hD raw x):fv:=.val x
def fh{α:Type}[Inhabited α]{k:Nat}{e:α→V}(l:List α):hD (.bI k l.length λi=>(l.map e).getD i .eC) (ag k e l):=agP rfl _ rfl
def nB(l:List Int):Bool:=l.all λx=>decide (0≤x)&&decide (x<256)
def jV(l:List Int):aux:=l.map λx=>UInt8.ofNat x.toNat
def C5{l:List Int}(h:nB l=true):(jV l).length=l.length∧∀i,i<l.length→V.int .u8 (l.getD i default) = .int .u8 (((jV l).getD i 0).toNat:Int):=by
 refine⟨by simp [jV],λi hi=>?_⟩
 unfold nB at h;rw [List.all_eq_true]at h;have:=h l[i] (List.getElem_mem hi)
 simp only [Bool.and_eq_true,decide_eq_true_eq]at this;simp only [jV,List.getD,List.getElem?_map,List.getElem?_eq_getElem hi,Option.getD_some,Option.map_some,UInt8.toNat_ofNat'];rw [Nat.mod_eq_of_lt (by omega)]
 congr 1
 omega
def HF(T:TypeId):V→Option (Int×Int)
 |.iface t (.agg [.int .i64 a,.int .i64 b])=>bif Nat.beq t T then some (a,b)else none
 |_=>none
def Xy{T:TypeId}{x:V}{r:Int×Int}(h:HF T x=some r):x = .iface T (.agg [.int .i64 r.1,.int .i64 r.2]):=by
 unfold HF at h;split at h
 ·rw [Bool.cond_eq_ite]at h;split at h
  ·rename_i hb;cases h;rw [Nat.beq_eq]at hb;subst hb;rfl
  ·cases h
 ·cases h
def wB(M:Mem):Option V→FrameMode→Prop
 |none,m=>m = .returning
 |some x,m=>∃v,m = .panicking [{v,recovered:=false}]∧df M v x
def uo(P:Program)(fd:FuncId)(args:List D)(H:List (List a7))(x:Option V)(R:List (List a7)→Prop):Prop:=
 ∀(K:Ctx) (w:World) (vs:List Value) (M:Mem) (β:Nat→Option Nat) (mode:FrameMode),vs.length=args.length→
  bN P K M β {env:=hX args [],H:=cS 0 H,aW:=H.length} ⟨vs⟩ w→(∀r b,β r=some b→K.ls r=some b)→wB M x mode→
  CallsD P fd ⟨vs⟩ mode w λe nC w'=>∃v bQ M' β',e = .returned v∧settle nC = .returning∧R bQ∧bN P K M' β' {env:=iy (.ret (.cA []) none),H:=cS 0 bQ,aW:=H.length} #[v] w'
section
variable {P:Program} {K:Ctx} {M:Mem} {β:Nat→Option Nat} {st:aM} {tmps:Array Value} {w:World} {tt:dI}
def wB.ahe{x:Option V}{m:FrameMode}(h:wB M x m):m ≠ .run:=by
 cases x with
 |none=>intro hm;rw [hm]at h;cases h
 |some x=>obtain⟨v,Z,_⟩:=h;intro hm;rw [hm]at Z;cases Z
def wB.mono{M':Mem}(cV:M.le M'){x:Option V}{m:FrameMode}(h:wB M x m):wB M' x m:=by
 cases x with
 |none=>exact h
 |some x=>obtain⟨v,Z,ab⟩:=h;exact⟨v,Z,ab.mono cV⟩
def rj(P:Program)(tt:dI)(E:Nat)(rs:List ResultVar)(fd:FuncId)(ds:List D)(R:Out→List (List a7)→Prop)(x:Option V)(st:aM):Prop:=
 ∃(ρ:List Nat) (bs H1:List (List a7)) (jL:List D) (OX:List (List a7)→Prop),ns ρ=true∧boxes st.H ρ=some bs∧kb (idx ρ) bs=some H1∧lq (idx ρ) ds=some jL∧uo P fd jL H1 x OX∧
  ∀cL,OX cL→∃iS o bQ,cL.length=ρ.length∧kb (λj=>ρ[j]?) cL=some iS∧Ab.leave tt E rs {env:=st.env,H:=lr ρ iS++st.H,aW:=st.aW}=some (o,bQ)∧R o (ov bQ)
def OY{fn:Func}{E:Nat}(cz:fD P tt=true)(eG:∀r b,K.ls r=some b→r<E)(hs:bN P K M β st tmps w){fd:FuncId}{ds:List D}{vs:List Value}(hlen:vs.length=ds.length)(av:∀(i:Nat) v d,vs[i]? = some v→ds[i]? = some d→cy M β v d)
 {x : Option V} {mode : FrameMode} (hm : wB M x mode) {f : Func} (aY : P.funcs[fd]? = some f) (hb : f.body.isSome = true) (jQ : decide (f.name = "runtime.NumGoroutine") = false) {R : Out → List (List a7) → Prop} (nz : rj P tt E fn.results.toList fd ds R x st) :
 Leaves P fn tmps (λe w'=>∃o bQ v M' β',R o bQ∧e=t' o v∧bN P K M' β' {env:=iy o,H:=cS 0 bQ,aW:=E} #[v] w') [{target:=.fn (.func fd) ⟨vs⟩,args := #[]}] mode w:=by
 obtain⟨ρ,bs,H1,jL,OX,hn,k1,mp,e8,hd,gp⟩:=nz;have rc:f.body≠none:=by intro bn;rw [bn]at hb;cases hb
 have C6 : f.name ≠ "runtime.NumGoroutine" := by simpa using jQ
 refine leaves_cons (f:=fd) (args:=⟨vs⟩) hm.ahe (by simp [invoke,callFunc,aY,rc,C6]) ?_
 have hc:=Wi (hd:=[]) hs hn k1 mp hlen av e8 ⟨by simp,by simp,by simp⟩
 have fm:H1.length=ρ.length:=by rw [(yz mp).1,(vT k1).1]
 refine(hd (kB M β st tmps w ρ []) w vs M _ mode (by rw [hlen,WK e8]) hc (λr b h=>h) hm).mono ?_
 rintro e nC w' ⟨v,bQ,M',β',rfl,hu,ahf,cP⟩
 obtain⟨iS,o,Xz,Z,ab,aj,aC⟩:=gp bQ ahf;rw [fm]at cP;obtain⟨cV,OZ,_,_⟩:=N9 hs hn k1 ab Z cP
 dsimp only
 rw [hu];obtain⟨v2,aT,m6,M2,wC,bP,cM⟩:=CW cz eG OZ aj;exact⟨v2,aT,o,ov Xz,m6,M2,wC,aC,bP,cM.era⟩
def qc(P:Program)(_tt:dI)(fn:Func)(E:Nat)(c:Code)(R:Out→List (List a7)→Prop)(st:aM):Prop:=
 ∀(K:Ctx),K.ds=[]→(∀r b,K.ls r=some b→r<E)→∀(a:Act) (w:World),uf P K fn.ntmps .normal st .normal a w→
  c.wp P (bodyPostD P fn λe w'=>∃o bQ v M' β',R o bQ∧e=t' o v∧bN P K M' β' {env:=iy o,H:=cS 0 bQ,aW:=E} #[v] w') a w
def O0(P:Program)(tt:dI)(fn:Func)(E:Nat)(y:Code)(R:Out→List (List a7)→Prop):cr→aM→Prop
 |.normal,st=>qc P tt fn E y R st
 |.ret,st=>∃o bQ,Ab.leave tt E fn.results.toList st=some (o,bQ)∧R o (ov bQ)
 |_,_=>False
def qc.seq{fn:Func}{E:Nat}{x y:Code}{R:Out→List (List a7)→Prop}(cz:fD P tt=true)(h:a_ P fn.ntmps E x (O0 P tt fn E y R) st):qc P tt fn E (.seq x y) R st:=by
 intro K h_ eG a w hs;refine wp_seq (wp_mono (h K eG a w hs) ?_)
 rintro e eb w' ⟨fP,b9,Z,ab⟩
 cases fP with
 |normal=>obtain⟨rfl,aj⟩:=Z;exact ab K h_ eG eb w' ⟨rfl,aj⟩
 |ret=>
  obtain⟨rfl,hd,_,M',β',cP⟩:=Z;obtain⟨o,bQ,aj,aC⟩:=ab;obtain⟨v,aT,m6,M2,wC,bP,cM⟩:=CW cz eG cP aj;show Leaves P fn eb.tmps _ eb.defers .returning w'
  rw [hd,h_];exact⟨v,aT,o,ov bQ,m6,M2,wC,aC,bP,cM.era⟩
 |exit i=>exact ab.elim
 |bf x=>exact ab.elim
def O1(P:Program)(tt:dI)(E:Nat)(rs:List ResultVar)(fd:FuncId)(ds:List D)(R:Out→List (List a7)→Prop):cr→aM→Prop
 |.normal,st |.ret,st=>rj P tt E rs fd ds R none st
 |.bf x,st=>rj P tt E rs fd ds R (some x) st
 |.exit _,_=>False
def qc.defer{fn:Func}{E:Nat}{id:Nat}{opsA:Array Oper}{dM il:Oper}{y:Code}{R:Out→List (List a7)→Prop}(cz:fD P tt=true)(ny:opsA = #[dM,il]){t:Nat}{fd:FuncId}{ff:Array Operand}{c:Call}
 (Z:dM.op = .makeFunc (.func fd) #[] ff) (ab:dM.dst=some t) (aj:dM.guard=none) (aC:il.op = .defer c) (aT:il.dst=none) (bP:il.guard=none) (cM:c.callee = .value (.tmp t)) (dj:c.args = #[]) (aF:Nat.blt t fn.ntmps=true)
 {ds : List D} (ahg : mapM' (rd st.env [] [] tt 0) ff.toList = some ds) (_hE : Nat.ble E st.aW = true) {f : Func} (aY : P.funcs[fd]? = some f) (hb : f.body.isSome = true) (jQ : decide (f.name = "runtime.NumGoroutine") = false)
 (h_:vA st.aW ds=true)
 (h:a_ P fn.ntmps st.aW y (O1 P tt E fn.results.toList fd ds R) {env:=del st.env t,H:=st.H,aW:=st.aW}):qc P tt fn E (.seq (.region id opsA false) y) R st:=by
 rintro K ahh eG a w ⟨_,hd,ev,M,β,cP⟩
 obtain⟨tmps,defers⟩:=a;simp only at hd ev
 rw [ahh]at hd;subst hd;have cZ:t<tmps.size:=by rw [ev];simpa using aF
 -- mo captured values
 obtain⟨fm,eT⟩:=tV ahg;have sL:fY P K fn.ntmps M β {env:=st.env,b6:=[],H:=st.H,aW:=st.aW,rs:=[],a6:=[]} tmps w:=⟨cP,ev,(λ_ _ h=>by simp [look]at h),λ_ _ _ h=>by simp [look]at h⟩
 have nv:∀(i:Nat) v d,(ff.toList.map (⟨tmps,[]⟩:Act).eval)[i]? = some v→ds[i]? = some d→cy M β v d:=by
  intro i v d av hd;rw [List.getElem?_map,Option.map_eq_some_iff]at av;obtain⟨x,hx,rfl⟩:=av;exact ei (ds:=[]) (p:=[]) sL (λx hx=>by cases hx) (eT i x d hx hd)
 have hlen:(ff.toList.map (⟨tmps,[]⟩:Act).eval).length=ds.length:=by simp at fm ⊢;omega
 -- mo frame behind mo region
 have qd:bN P K M β {env:=del st.env t,H:=st.H,aW:=st.aW} (tmps.setIfInBounds t (.func (.func fd) #[] ⟨ff.toList.map (⟨tmps,[]⟩:Act).eval⟩)) w:=cP.drop
 let rk:Ctx:={Cj:=M,F:=K.F,ls:=λr=>if r<st.aW then β r else none,h9:=K.h9,ds:=[{target:=.fn (.func fd) ⟨ff.toList.map (⟨tmps,[]⟩:Act).eval⟩,args := #[]}]}
 have OZ:bN P rk M β {env:=del st.env t,H:=st.H,aW:=st.aW} (tmps.setIfInBounds t (.func (.func fd) #[] ⟨ff.toList.map (⟨tmps,[]⟩:Act).eval⟩)) w:=
  ⟨qd.fw,qd.own,qd.uniq,qd.unbox,qd.box,qd.inj,qd.lt,qd.mem,Mem.le_refl _,(λb a6 dP=>⟨(qd.frame b a6 dP).1,λ_=>rfl⟩),(λr b hb=>by
   simp only [rk]at hb;split at hb
   ·exact hb
   ·cases hb),qd.jA,qd.h9⟩
 have O2:∀{M':Mem} {β':Nat→Option Nat} {b9:aM} {fX:Array Value} {w':World},bN P rk M' β' b9 fX w'→bN P K M' β' b9 fX w':=by
  intro M' β' b9 fX w' cO
  exact⟨cO.fw,cO.own,cO.uniq,cO.unbox,cO.box,cO.inj,cO.lt,cO.mem,Mem.le_trans cP.m0 cO.m0,(λb a6 dP=>⟨(cO.frame b a6 dP).1,λo=>((cO.frame b a6 dP).2 o).trans ((cP.frame b a6 dP).2 o)⟩),(λr b hb=>cO.iT r b (by
   have en:=cP.iT r b hb;have gH:=cP.lt r b en;simp only [rk];rw [if_pos gH];exact en)),cO.jA,cO.h9⟩
 have hF:∀{M':Mem} {β':Nat→Option Nat} {b9:aM} {fX:Array Value} {w':World},bN P rk M' β' b9 fX w'→∀r,r<st.aW→∀b,β r=some b→β' r=some b:=λcO r ai b hb=>cO.iT r b (by simp only [rk];rw [if_pos ai];exact hb)
 refine wp_seq (wp_region ?_);subst ny
 have e1:(execOp (Act.eval ⟨tmps,[]⟩) dM).run P w = .ok (.value (.func (.func fd) #[] ⟨ff.toList.map (⟨tmps,[]⟩:Act).eval⟩)) w:=by
  simp only [execOp,Z,Instr.makeFunc];refine jB _ ?_;simp
  congr 1
  apply Array.ext';simp
 have e2:(execOp (Act.eval ⟨tmps.setIfInBounds t (.func (.func fd) #[] ⟨ff.toList.map (⟨tmps,[]⟩:Act).eval⟩),[]⟩) il).run P w = .ok (.defer {target:=.fn (.func fd) ⟨ff.toList.map (⟨tmps,[]⟩:Act).eval⟩,args := #[]}) w:=by
  simp [execOp,aC,resolve,cM,dj,Deferred.ofValue,Act.eval,cZ]
 show wpOps P #[dM,il] _ (List.range 2) ⟨tmps,[]⟩ w
 simp only [List.range,List.range.loop,wpOps];have yS:∀kF,Region.wanted dM (yielded #[dM,il] kF)=true:=λkF=>by simp [Region.wanted,aj]
 have C7:∀kF,Region.wanted il (yielded #[dM,il] kF)=true:=λkF=>by simp [Region.wanted,bP]
 simp only [show(#[dM,il]:Array Oper)[0]? = some dM from rfl,show(#[dM,il]:Array Oper)[1]? = some il from rfl,yS,C7,if_true]
 refine .inl ?_;unfold Oper.wp;rw [e1,Oper.upon_value,ab];refine .inl ?_;have ahi:(execOp ((⟨tmps,[]⟩:Act).put (some t) (.func (.func fd) #[] ⟨ff.toList.map (⟨tmps,[]⟩:Act).eval⟩)).eval il).run P w = .ok (.defer {target:=.fn (.func fd) ⟨ff.toList.map (⟨tmps,[]⟩:Act).eval⟩,args := #[]}) w:=e2;rw [ahi,Oper.upon_defer,aT];show y.wp P _ ⟨tmps.setIfInBounds t _,[_]⟩ w
 have sK:∀r b,rk.ls r=some b→r<st.aW:=by
  intro r b hb;simp only [rk]at hb;split at hb
  ·assumption
  ·cases hb
 refine wp_mono (h rk sK _ w ⟨rfl,rfl,by simpa using ev,M,β,OZ⟩) ?_
 rintro e eb w' ⟨fP,b9,g1,g2⟩
 have o7:∀{M':Mem} {β':Nat→Option Nat} {b9:aM} {fX:Array Value} {w':World},bN P rk M' β' b9 fX w'→∀(i:Nat) v d,(ff.toList.map (⟨tmps,[]⟩:Act).eval)[i]? = some v→ds[i]? = some d→cy M' β' v d:=by
  intro M' β' b9 fX w' cO i v d av hd;have cV:M.le M':=cO.m0;exact((nv i v d av hd).mono cV).aex (λr ai b hb=>hF cO r ai b hb) (tR h_ hd)
 cases fP with
 |normal=>
  obtain⟨rfl,hd,_,M',β',hs⟩:=g1;show Leaves P fn eb.tmps _ eb.defers .returning w'
  rw [hd];exact OY cz eG (O2 hs) hlen (o7 hs) (x:=none) rfl aY hb jQ g2
 |ret=>
  obtain⟨rfl,hd,_,M',β',hs⟩:=g1;show Leaves P fn eb.tmps _ eb.defers .returning w'
  rw [hd];exact OY cz eG (O2 hs) hlen (o7 hs) (x:=none) rfl aY hb jQ g2
 |exit i=>exact g2.elim
 |bf x=>
  obtain⟨v,rfl,hd,M',β',gM,hs⟩:=g1;show Leaves P fn eb.tmps _ eb.defers (.panicking _) w'
  rw [hd];exact OY cz eG (O2 hs) hlen (o7 hs) (x:=some x) ⟨v,rfl,gM⟩ aY hb jQ g2
def q8.ahj {f : FuncId} {fn : Func} {c : Code} {args : List D} {er : List (Nat × TypeId)} {H : List (List a7)} {R : Out → List (List a7) → Prop} (aY : P.funcs[f]? = some fn) (hb : fn.body = some c) (jQ : decide (fn.name = "runtime.NumGoroutine") = false)
 (e8:Nat.ble args.length fn.ntmps=true) (h:qc P tt fn H.length c R {env:=hX args er,H:=cS 0 H,aW:=H.length}):q8 P f args er H R:=by
 refine⟨⟨fn,aY,by rw [hb];rfl,by simpa using jQ⟩,?_⟩
 intro cq w vs M β hlen OE OF
 suffices key:∀K:Ctx,K.ds=[]→bN P K M β {env:=hX args er,H:=cS 0 H,aW:=H.length} ⟨vs⟩ w→(∀r b,β r=some b→K.ls r=some b)→
  Calls P f ⟨vs⟩ w λe w'=>∃o bQ v M' β',R o bQ∧e=t' o v∧bN P K M' β' {env:=iy o,H:=cS 0 bQ,aW:=H.length} #[v] w' from
  (key {cq with ds:=[]} rfl (OE.wi []) OF).mono λe w' ⟨o,bQ,v,M',β',Z,ab,aj⟩=>⟨o,bQ,v,M',β',Z,ab,aj.wi cq.ds⟩
 intro K h_ cP hF;have eG:∀r b,K.ls r=some b→r<H.length:=λr b hb=>cP.lt r b (cP.iT r b hb)
 simp only [Nat.ble_eq]at e8;exact calls_of_wp_defers aY hb (h K h_ eG {tmps:=(⟨vs⟩:Array Value)++Array.replicate (fn.ntmps-(⟨vs⟩:Array Value).size) undef,defers:=[]} w ⟨rfl,h_.symm,by simp;omega,M,β,OD hlen cP⟩)
def uo.XA{fd:FuncId}{fn:Func}{i0:Nat}{opsA:Array Oper}{dM il:Oper}{rest:Code}{r t2:Nat}{c:Call}(cz:fD P tt=true)(aY:P.funcs[fd]? = some fn)(hb:fn.body=some (.seq (.region i0 opsA false) rest))(ny:opsA = #[dM,il])
 (Z:dM.op = .call c) (ab:dM.dst=some r) (aj:dM.guard=none) (aC:c.callee = .builtin .recover) (aT:c.args = #[]) (bP:il.op = .assign (.tmp r)) (cM:il.dst=some t2) (dj:il.guard=none)
 {args:List D} {H:List (List a7)} {x:Option V} {R:List (List a7)→Prop} (ai:Nat.blt r fn.ntmps=true) (jR:Nat.blt t2 fn.ntmps=true) (e8:Nat.ble args.length fn.ntmps=true)
 (h:a_ P fn.ntmps H.length rest (uh tt H.length fn.results.toList λo bQ=>o = .ret (.cA []) none∧R bQ) {env:=(t2,{d:=.v (x.getD .iw)})::del (hX args []) r,H:=cS 0 H,aW:=H.length}):uo P fd args H x R:=by
 intro K w vs M β mode hlen cP hF hm;have eG:∀r b,K.ls r=some b→r<H.length:=λr b hb=>cP.lt r b (cP.iT r b hb)
 simp only [Nat.ble_eq]at e8;simp only [Nat.blt_eq]at ai jR;refine callsD_of_wpS aY hb λuq cs hu=>?_
 apply wpS_seq;apply wpS_region;subst ny;have yS:∀kF,Region.wanted dM (yielded #[dM,il] kF)=true:=λkF=>by simp [Region.wanted,aj]
 have C7:∀kF,Region.wanted il (yielded #[dM,il] kF)=true:=λkF=>by simp [Region.wanted,dj]
 have e1:∀a:Act,(execOp a.eval dM).run P w = .ok .recover w:=λa=>by
  simp [execOp,Z,resolve,aC,aT,invoke,builtin]
 have dy:=OD (n:=fn.ntmps-(⟨vs⟩:Array Value).size) hlen cP
 -- N' 'recover' agl
 have key:∃(v:Value) (nC:FrameMode),df M v (x.getD .iw)∧settle nC = .returning∧(recoverD (uq::cs)=some (v,{uq with mode:=nC}::cs)∨(recoverD (uq::cs)=none∧v = .nilIface∧({uq with mode:=nC}:Frame)=uq)):=by
  cases x with
  |none=>
   have kj:mode = .returning:=hm;subst kj;exact⟨.nilIface,.returning,.iw,rfl,.inr ⟨by simp [recoverD,hu],rfl,by rw [←hu]⟩⟩
  |some y=>
   obtain⟨v,kj,av⟩:=hm;subst kj;exact⟨v,.panicking [{v,recovered:=true}],av,by simp [settle],.inl (by simp [recoverD,hu])⟩
 obtain⟨v,nC,av,yw,C8⟩:=key;show wpOpsS P #[dM,il] _ (List.range 2) _ (uq::cs) w
 simp only [List.range,List.range.loop,wpOpsS,show(#[dM,il]:Array Oper)[0]? = some dM from rfl,show(#[dM,il]:Array Oper)[1]? = some il from rfl,yS,C7,if_true,e1]
 have e2:∀kF:Array Value,r<kF.size→(execOp (Act.eval ⟨kF.setIfInBounds r v,[]⟩) il).run P w = .ok (.value v) w:=λkF aF=>by
  simp [execOp,bP,Act.eval,aF]
 have ev:((⟨vs⟩:Array Value)++Array.replicate (fn.ntmps-(⟨vs⟩:Array Value).size) undef).size=fn.ntmps:=by simp;omega
 generalize as7:(⟨vs⟩:Array Value)++Array.replicate (fn.ntmps-(⟨vs⟩:Array Value).size) undef=kF at dy ev
 have nz:∀cs',cs'={uq with mode:=nC}::cs→rest.wpS P (bodyPostS P fn uq cs λe nC w'=>∃v bQ M' β',e = .returned v∧settle nC = .returning∧R bQ∧bN P K M' β' {env:=iy (.ret (.cA []) none),H:=cS 0 bQ,aW:=H.length} #[v] w')
  ⟨(kF.setIfInBounds r v).setIfInBounds t2 v,[]⟩ cs' w:=by
  intro cs' eu
  have oA:bN P {K with ds:=[]} M β {env:=(t2,{d:=.v (x.getD .iw)})::del (hX args []) r,H:=cS 0 H,aW:=H.length} ((kF.setIfInBounds r v).setIfInBounds t2 v) w:=
   ((dy.drop (t:=r) (v:=v)).put (t:=t2) (v:=v) (e:={d:=.v (x.getD .iw)}) (by rw [Array.size_setIfInBounds,ev];exact jR) (.v _ _ av) (λT aH=>by cases aH)).wi []
  refine wpS_of_wp (wp_mono (h {K with ds:=[]} eG _ w ⟨rfl,rfl,by simpa using ev,M,β,oA⟩) ?_)
  rintro e eb w' ⟨fP,b9,g1,g2⟩
  cases fP with
  |normal=>
   obtain⟨rfl,hd,_,M',β',hs⟩:=g1;obtain⟨o,bQ,g3,rfl,g4⟩:=g2;obtain⟨v2,g5,m6,M2,wC,g6,g7⟩:=CW cz (K:={K with ds:=[]}) eG hs g3;cases g6;exact⟨hd,nC,eu,v2,g5,v2,bQ,M2,wC,rfl,yw,g4,g7.wi K.ds⟩
  |ret=>
   obtain⟨rfl,hd,_,M',β',hs⟩:=g1;obtain⟨o,bQ,g3,rfl,g4⟩:=g2;obtain⟨v2,g5,m6,M2,wC,g6,g7⟩:=CW cz (K:={K with ds:=[]}) eG hs g3;cases g6;exact⟨hd,nC,eu,v2,g5,v2,bQ,M2,wC,rfl,yw,g4,g7.wi K.ds⟩
  |exit i=>exact g2.elim
  |bf y=>
   obtain⟨bQ,_,g4,_⟩:=g2;cases g4
 have e3:(execOp ((({tmps:=kF,defers:=[]}:Act).put dM.dst v).eval) il).run P w = .ok (.value v) w:=by
  rw [ab];exact e2 kF (by omega)
 rcases C8 with C8|⟨C8,rfl,hc0⟩
 ·simp only [C8,e3];rw [Oper.upon_value,ab,cM];exact nz _ rfl
 ·simp only [C8,e3];rw [Oper.upon_value,ab,cM];exact nz _ (by rw [hc0])
end
def qe(H:List (Nat×List a7)):Nat→List (Nat×List a7)
 | 0=>[]
 |n+1=>match look H n with
  |some cs=>(n,cs)::qe H n
  |none=>qe H n
def O3{H:List (Nat×List a7)}:∀{n q:Nat} {cs:List a7},look (qe H n) q=some cs→q<n∧look H q=some cs
 | 0,q,cs,h=>by simp [qe,look]at h
 |n+1,q,cs,h=>by
  unfold qe at h;split at h
  ·rename_i c hc;rw [dZ]at h;split at h
   ·rename_i ao;subst ao;cases h;exact⟨by omega,hc⟩
   ·obtain⟨Z,ab⟩:=O3 h;exact⟨by omega,ab⟩
  ·obtain⟨Z,ab⟩:=O3 h;exact⟨by omega,ab⟩
def XB(mk:Nat)(ops:List Oper)(o:Oper)(x:V)(hs:List (Nat×List a7))(a6:List Prop)(kl:List Nat)(rs:List fv)(uj:List (Nat×List a7)):ew:=
 {dst:=o.dst,p:=[],f:={e:=none,rs:=[],hs:=[(mk,[])],a6},kl,nA:=p9 ops o,p7:=rf o,rs,kd:=1,wj:=x,p8:=hs,uj}
def XC(ops:List Oper)(o:Oper):ew:=
 {dst:=o.dst,p:=[],f:={e:=none,rs:=[]},kl:=[],nA:=p9 ops o,p7:=rf o,rs:=[],kd:=2}
def sM(cf:gE)(tt:dI)(ops:List Oper)(gr mk:Nat):Nat→List Oper→List (List fv)→dm→Option (List ew×dm×List Prop×List (V×List (Nat×List a7)))
 |_,[],[],g=>some ([],g,[],[])
 |i,o::l,rs::jT,g=>bif Nat.beq i gr then match pW ops g o with
  |some []=>match step1 cf tt ops {g with rs:=rs} [] o with
   |some (.bf x hs a6)=>match sM cf tt ops gr mk (i+1) l jT (eE (XB mk ops o x hs a6 (i7 tt g [] o++List.range mk) rs g.H) g) with
    |some (cD,e4,ug,xs)=>some (XB mk ops o x hs a6 (i7 tt g [] o++List.range mk) rs g.H::cD,e4,ug++a6,(x,hs++qe g.H mk)::xs)
    |none=>none
   |_=>none
  |_=>none
  else bif waits ops gr 3 i then match sM cf tt ops gr mk (i+1) l jT (eE (XC ops o) g) with
   |some (cD,e4,ug,xs)=>some (XC ops o::cD,e4,ug,xs)
   |none=>none
  else match findD cf tt ops g o rs with
   |some E=>bif E.f.hs.all (λy=>!Nat.beq y.1 mk)then match sM cf tt ops gr mk (i+1) l jT (eE E g) with
    |some (cD,e4,ug,xs)=>some (E::cD,e4,ug++E.f.a6.map (under g E.p),xs)
    |none=>none
    else none
   |none=>none
 |_,_,_,_=>none
def C9(cf:gE)(tt:dI)(N:Nat)(ops:List Oper)(gr mk:Nat)(jT:List (List fv))(st:aM):Option (V×List (Nat×List a7)×List Prop):=
 match sM cf tt ops gr mk 0 ops jT (HB ops st) with
 |some (cD,g,a6,[(x,hs)])=>bif Hy N ops cD&&(look g.H mk).isSome&&(look st.H mk).isNone then some (x,hs,a6)else none
 |_=>none
def O4:Option (V×List (Nat×List a7)×List Prop)→Option (V×List Prop)
 |some (x,_,b8)=>some (x,b8)
 |none=>none
def O5:Option (V×List (Nat×List a7)×List Prop)→List (Nat×List a7)
 |some (_,H,_)=>H
 |none=>[]
section
variable {P:Program} {K:Ctx} {N E:Nat} {st:aM} {tt:dI} {opsA:Array Oper} {cf:gE}
structure XD(opsA:Array Oper)(cD:List ew)(gr mk:Nat)(x:V)(hs:List (Nat×List a7)):Prop where
 dead:∀(i:Nat) E,cD[i]? = some E→E.kd=2→waits opsA.toList gr 3 i=true
 bf:∀(i:Nat) E,cD[i]? = some E→E.kd=1→E.p=[]∧E.wj=x∧E.p8++qe E.uj mk=hs∧∀q,q<mk→q∈E.kl
 go:∀(i:Nat) E,cD[i]? = some E→E.kd=0→i≠gr∧(E.f.hs.all (λy=>!Nat.beq y.1 mk))=true
 kd:∀(i:Nat) E,cD[i]? = some E→E.kd=0∨E.kd=1∨E.kd=2
def ahk{listed:Array Bool}(gN:oy opsA listed){i gr:Nat}(hi:i∈Region.ready .any opsA listed){n:Nat}(hw:waits opsA.toList gr n i=true):listed.getD gr false=true:=by
 cases n with
 |zero=>simp [waits]at hw
 |succ n=>
  obtain⟨_,o,aw,p_⟩:=mem_ready.1 hi;rw [waits]at hw;have aa:opsA.toList[i]? = some o:=by simpa using aw
  simp only [aa]at hw;obtain⟨e,he,hb⟩:=List.any_eq_true.1 hw;simp only [Bool.and_eq_true,Bool.or_eq_true,Nat.beq_eq]at hb;have Z:=p_ e (by simpa using he) hb.1
  rcases hb.2 with rfl|ab
  ·exact Z
  ·exact Hp gN ab Z
def O6{mk:Nat}:∀{l H:List (Nat×List a7)},(l.all λy=>!Nat.beq y.1 mk)=true→look H mk=none→look (l++H) mk=none
 |[],_,_,h=>h
 |(a,b)::l,H,aa,h=>by
  simp only [List.all_cons,Bool.and_eq_true,Bool.not_eq_true']at aa;rw [List.cons_append,dZ];have:a≠mk:=by intro e;subst e;simp at aa
  rw [if_neg this];exact O6 aa.2 h
def ahl{E:ew}{g:dm}{mk:Nat}(h:(E.f.hs.all λy=>!Nat.beq y.1 mk)=true)(hg:look g.H mk=none):look (eE E g).H mk=none:=by
 unfold eE;cases E.dst with
 |none=>exact O6 h hg
 |some t=>
  cases E.p with
  |nil=>exact O6 h hg
  |cons x p=>dsimp only;cases E.f.e<;>exact hg
def jD.XE(cz:fD P tt=true){cD:List ew}{gr mk:Nat}{x:V}{hs:List (Nat×List a7)}(kD:XD opsA cD gr mk x hs)(cF:∀(i:Nat) o E,opsA[i]? = some o→cD[i]? = some E→gO opsA.toList o E=true)(aI:∀(i:Nat) E,cD[i]? = some E→ri N E=true)(kA:C2 opsA.toList cD=true){Q:Exit→Act→World→Prop}
 (ej:∀n e eb w',uf P K N (.bf x) {env:=[],H:=hs,aW:=n} e eb w'→Q e eb w'):
 ∀(n:Nat) (listed:Array Bool) (g:dm) (tmps:Array Value) (w:World) (M:Mem) (β:Nat→Option Nat),jD (jP P) tt opsA cD (λg=>(look g.H mk).isSome=true) n listed g→listed.size=opsA.size→oy opsA listed→un cD listed g→listed.getD gr false=false→look g.H mk=none→fY P K N M β g tmps w→wpAny P .any opsA Q n listed ⟨tmps,K.ds⟩ w
 | 0,_,g,tmps,w,M,β,h,_,_,_,_,fl,_=>by have:(look g.H mk).isSome=true:=h.2;rw [fl]at this;cases this
 |n+1,listed,g,tmps,w,M,β,h,ev,gN,mX,XF,fl,gg=>by
  refine⟨(λai=>by have:(look g.H mk).isSome=true:=h.1 ai;rw [fl]at this;cases this),λi hi=>?_⟩
  obtain⟨o,E,aw,b1,Hx,hn⟩:=h.2 i hi;have cZ:i<listed.size:=by rw [ev];exact(Array.getElem?_eq_some_iff.1 aw).1
  have oz:listed.getD i false=false:=by have:=(mem_ready.1 hi).1;simpa [Array.getD_eq_getD_getElem?,cZ]using this
  have p6:fY P K N M β {g with rs:=E.rs,a6:=[]} tmps w:=⟨gg.bA,gg.size,gg.fresh,gg.cond⟩;unfold wpOp;simp only [aw];rcases kD.kd i E b1 with hk|hk|hk
  ·have jS:=Hx.resolve_left (by rw [hk];simp)
   obtain⟨HG,wg⟩:=kD.go i E b1 hk;have OQ:=Xu (N:=N) hk jS b1 (cF i o E aw b1) (aI i E b1) kA gN oz mX;refine OA p6 cz (opsA:=opsA) rfl OQ (λq ao=>?_) (λfX w' M' β' cO=>?_)
   ·obtain⟨q',p3,rfl⟩:=List.mem_map.1 ao;exact jS.a6 q' p3
   ·exact jD.XE cz kD cF aI kA ej n _ (eE E g) fX w' M' β' hn (by simpa using ev) (gN.set hi) (mX.ap b1 cZ) (by rw [getD_set_ne false HG];exact XF) (ahl wg fl) ⟨cO.bA,cO.size,cO.fresh,cO.cond⟩
  ·have jS:=Hx.resolve_left (by rw [hk];simp)
   obtain⟨hp,hx,ahm,o_⟩:=kD.bf i E b1 hk
   have dy:step1 (jP P) tt opsA.toList {g with rs:=E.rs,a6:=[]} [] o=some (.bf x E.p8 E.f.a6):=by
    have Z:=jS.st;rw [hk,hp,hx]at Z;refine Eq.trans ?_ Z;exact OK (g1:={g with rs:=E.rs,a6:=[]}) (g2:={g with rs:=E.rs}) (λ_ _ _ _=>⟨rfl,rfl⟩) rfl rfl (λ_=>rfl) (λ_ _=>rfl)
   have O7:pW opsA.toList {g with rs:=E.rs,a6:=[]} o=some []:=by rw [←hp];exact jS.Hl
   have ahn:oh (jP P) tt N opsA.toList {g with rs:=E.rs,a6:=[]} o=some (.bf x {env:=pV g.env,H:=E.p8++g.H,aW:=g.aW} (E.f.a6++[])):=by
    unfold oh;rw [O7]
    dsimp only
    rw [dy];rfl
   refine WZ p6 cz (opsA:=opsA) rfl ahn (λq ao=>?_) (λe eb w' sK=>?_)
   ·rw [List.append_nil]at ao;have:=jS.a6 q ao
    rw [hp]at this;exact this
   ·obtain⟨v,Z,ab,Ct,Cu,aj,aC⟩:=sK;have nz:=jS.fin hk
    have l5:∀q cs,look hs q=some cs→look (E.p8++g.H) q=some cs:=by
     intro q cs ao;rw [←ahm,yO]at ao;rw [yO];cases aa:look E.p8 q with
     |some c=>rw [aa]at ao;exact ao
     |none=>
      rw [aa]at ao;obtain⟨aT,bP⟩:=O3 ao;rw [←bP];exact nz q (o_ q aT)
    refine ej g.aW e eb w' ⟨v,Z,ab,Ct,Cu,aj,(aC.CR _).sub rfl (λl bg aa=>?_) (λq cs ao=>⟨cs,l5 q cs ao,rfl⟩)⟩
    cases l with
    |slot s=>simp [aM.at,look]at aa
    |cell q i=>
     simp only [aM.at]at aa ⊢;cases ao:look hs q with
     |none=>rw [ao]at aa;simp at aa
     |some cs=>
      rw [ao]at aa;rw [l5 q cs ao];exact⟨bg,aa,rfl,λ_ h=>h⟩
  ·have:=ahk gN hi (kD.dead i E b1 hk)
   rw [XF]at this;cases this
def HH{ops:List Oper}{gr mk:Nat}{Fi:dm→Prop}:∀{l:List Oper} {i:Nat} {jT:List (List fv)} {g:dm} {cD:List ew} {e4:dm} {a6:List Prop} {xs:List (V×List (Nat×List a7))},sM cf tt ops gr mk i l jT g=some (cD,e4,a6,xs)→(∀q,q∈a6→q)→Fi e4→
 cD.length=l.length∧Hu cf tt ops Fi (lD l cD) g∧
 (∀(j:Nat) E,cD[j]? = some E→(E.kd=0∧i+j≠gr∧(E.f.hs.all (λy=>!Nat.beq y.1 mk))=true)∨(E.kd=1∧E.p=[]∧(E.wj,E.p8++qe E.uj mk)∈xs∧∀q,q<mk→q∈E.kl)∨(E.kd=2∧waits ops gr 3 (i+j)=true))
 |[],i,[],g,cD,e4,a6,xs,h,_,dP=>by
  simp only [sM,Option.some.injEq,Prod.mk.injEq]at h;obtain⟨rfl,rfl,rfl,rfl⟩:=h;exact⟨rfl,dP,by simp⟩
 |[],_,_::_,_,_,_,_,_,h,_,_=>by simp [sM]at h
 |_::_,_,[],_,_,_,_,_,h,_,_=>by simp [sM]at h
 |o::l,i,rs::jT,g,cD,e4,a6,xs,h,cp,dP=>by
  have next:∀{E:ew} {wu:List ew} {yT:List (V×List (Nat×List a7))},(∀(j:Nat) E,wu[j]? = some E→(E.kd=0∧i+1+j≠gr∧(E.f.hs.all (λy=>!Nat.beq y.1 mk))=true)∨(E.kd=1∧E.p=[]∧(E.wj,E.p8++qe E.uj mk)∈yT∧∀q,q<mk→q∈E.kl)∨(E.kd=2∧waits ops gr 3 (i+1+j)=true))→(∀z,z∈yT→z∈xs)→
   ((E.kd=0∧i≠gr∧(E.f.hs.all (λy=>!Nat.beq y.1 mk))=true)∨(E.kd=1∧E.p=[]∧(E.wj,E.p8++qe E.uj mk)∈xs∧∀q,q<mk→q∈E.kl)∨(E.kd=2∧waits ops gr 3 i=true))→
   ∀(j:Nat) dg,(E::wu)[j]? = some dg→(dg.kd=0∧i+j≠gr∧(dg.f.hs.all (λy=>!Nat.beq y.1 mk))=true)∨(dg.kd=1∧dg.p=[]∧(dg.wj,dg.p8++qe dg.uj mk)∈xs∧∀q,q<mk→q∈dg.kl)∨(dg.kd=2∧waits ops gr 3 (i+j)=true):=by
   intro E wu yT Z hx ab j dg hj;cases j with
   |zero=>simp at hj;subst hj;exact ab
   |succ j=>
    have:=Z j dg (by simpa using hj)
    rw [show i+1+j=i+(j+1)by omega]at this
    rcases this with aj|⟨aj,aC,aT,bP⟩|aj
    ·exact .inl aj
    ·exact .inr (.inl ⟨aj,aC,hx _ aT,bP⟩)
    ·exact .inr (.inr aj)
  simp only [sM]at h;rw [Bool.cond_eq_ite]at h;split at h
  ·rename_i HG;split at h
   case h_2=>cases h
   rename_i O7;split at h
   case h_2=>cases h
   rename_i x hs ag' dy;split at h
   case h_2=>cases h
   rename_i wu g1 XG yT Z;simp only [Option.some.injEq,Prod.mk.injEq]at h;obtain⟨rfl,rfl,rfl,rfl⟩:=h;obtain⟨ab,aj,aC⟩:=HH Z (λq ao=>cp q (List.mem_append_left _ ao)) dP
   refine⟨by simp [ab],⟨.inr ⟨O7,dy,(λq ao=>cp q (List.mem_append_right _ ao)),(λq ao=>List.mem_append_left _ ao),λ_ q _=>rfl⟩,aj⟩,next aC (λz dx=>List.mem_cons_of_mem _ dx) (.inr (.inl ⟨rfl,rfl,List.mem_cons_self ..,λq ao=>List.mem_append_right _ (List.mem_range.2 ao)⟩))⟩
  ·rename_i HG;rw [Bool.cond_eq_ite]at h;split at h
   ·rename_i hw;split at h
    case h_2=>cases h
    rename_i wu g1 XG yT Z;simp only [Option.some.injEq,Prod.mk.injEq]at h;obtain⟨rfl,rfl,rfl,rfl⟩:=h;obtain⟨ab,aj,aC⟩:=HH Z cp dP;exact⟨by simp [ab],⟨.inl rfl,aj⟩,next aC (λz dx=>dx) (.inr (.inr ⟨rfl,hw⟩))⟩
   ·split at h
    case h_2=>cases h
    rename_i E b1;rw [Bool.cond_eq_ite]at h;split at h
    case isFalse=>cases h
    rename_i pY;split at h
    case h_2=>cases h
    rename_i wu g1 XG yT Z;simp only [Option.some.injEq,Prod.mk.injEq]at h;obtain⟨rfl,rfl,rfl,rfl⟩:=h;obtain⟨ab,aj,aC⟩:=HH Z (λq ao=>cp q (List.mem_append_left _ ao)) dP
    have OR:∀q,q∈E.f.a6→under g E.p q:=λq ao=>cp _ (List.mem_append_right _ (List.mem_map.2 ⟨q,ao,rfl⟩))
    have wg:=pY;unfold findD at b1;split at b1
    ·cases b1
    rename_i p hp;split at b1
    ·rename_i f aY;cases b1;exact⟨by simp [ab],⟨.inr ⟨hp,aY,OR,λ_ h=>h,λh=>by cases h⟩,aj⟩,next aC (λz dx=>dx) (.inl ⟨rfl,(by simpa using HG),wg⟩)⟩
    ·cases b1
def a_.aho{id:Nat}{Q:cr→aM→Prop}(cz:fD P tt=true)(hm:P.follows .mixedOrders=true)(gr:Nat)(jT:List (Nat×List fv)){x:V}{b8:List Prop}(ai:O4 (C9 (jP P) tt N opsA.toList gr (st.aW+opsA.toList.length) (spread opsA.toList.length 0 jT) st)=some (x,b8))(cp:k3 b8)
 (ej:∀n,Q (.bf x) {env:=[],H:=O5 (C9 (jP P) tt N opsA.toList gr (st.aW+opsA.toList.length) (spread opsA.toList.length 0 jT) st),aW:=n}):a_ P N E (.region id opsA true) Q st:=by
 rintro K eG a w ⟨_,hd,ev,M,β,cP⟩
 obtain⟨tmps,ds⟩:=a;simp only at hd ev
 subst hd;refine wp_region_any hm ?_;cases l6:C9 (jP P) tt N opsA.toList gr (st.aW+opsA.toList.length) (spread opsA.toList.length 0 jT) st with
 |none=>rw [l6]at ai;cases ai
 |some res=>
 obtain⟨fI,l8,as8⟩:=res;rw [l6]at ai ej;simp only [O4,Option.some.injEq,Prod.mk.injEq]at ai;obtain⟨rfl,rfl⟩:=ai;simp only [O5]at ej;unfold C9 at l6;split at l6
 case h_2=>cases l6
 rename_i cD g ug gf gg fg;rw [Bool.cond_eq_ite]at l6;split at l6
 case isFalse=>cases l6
 rename_i hc;simp only [Option.some.injEq,Prod.mk.injEq]at l6;obtain⟨rfl,rfl,rfl⟩:=l6;simp only [Bool.and_eq_true,Option.isNone_iff_eq_none]at hc;obtain⟨⟨hc,Hm⟩,XH⟩:=hc;generalize as9:st.aW+opsA.toList.length=mk at fg Hm XH
 obtain⟨hlen,OV,HI⟩:=HH (Fi:=λg=>(look g.H mk).isSome=true) fg cp.mem Hm
 simp only [Hy,Bool.and_eq_true]at hc;obtain⟨⟨⟨c1,c2⟩,c3⟩,c4⟩:=hc
 have cF:∀(i:Nat) o E,opsA[i]? = some o→cD[i]? = some E→gO opsA.toList o E=true:=by
  intro i o E aw b1;obtain⟨k2,z2⟩:=wv hlen i;have kX:opsA.toList[i]? = some o:=by simpa using aw
  rw [kX]at k2;rw [b1]at z2;cases dx:(lD opsA.toList cD)[i]? with
  |none=>rw [dx]at k2;simp at k2
  |some x=>
   rw [dx]at k2 z2;simp at k2 z2
   subst k2;subst z2;exact List.all_eq_true.1 c1 x (List.mem_of_getElem? dx)
 have aI:∀(i:Nat) E,cD[i]? = some E→ri N E=true:=λi E b1=>List.all_eq_true.1 c2 E (List.mem_of_getElem? b1)
 have C3:oy opsA (Array.replicate opsA.size false):=λj o aw hj=>by have cZ:j<opsA.size:=(Array.getElem?_eq_some_iff.1 aw).1;simp [Array.getD_eq_getD_getElem?,cZ]at hj
 have C4:=jD.text cF (λg1 g2 gP Z=>by rw [←gP.box mk];exact Z) (lD opsA.toList cD) 0 (Array.replicate opsA.size false) _ (λj=>by have:=(wv hlen j).1;simpa using this) (λj=>by have:=(wv hlen j).2;simpa using this)
  ⟨by simp,λj hj=>by simp [hj]⟩ C3 c4 OV
 have vS:(lD opsA.toList cD).length=opsA.size:=by rw [OS hlen];simp
 rw [vS]at C4
 have kD:XD opsA cD gr mk gf gg:=by
  constructor
  ·intro i E b1 hk;rcases HI i E b1 with⟨Z,_⟩|⟨Z,_⟩|⟨_,Z⟩
   ·omega
   ·omega
   ·simpa using Z
  ·intro i E b1 hk;rcases HI i E b1 with⟨Z,_⟩|⟨_,Z,ab,aj⟩|⟨Z,_⟩
   ·omega
   ·simp only [List.mem_singleton,Prod.mk.injEq]at ab;exact⟨Z,ab.1,ab.2,aj⟩
   ·omega
  ·intro i E b1 hk;rcases HI i E b1 with⟨_,Z,ab⟩|⟨Z,_⟩|⟨Z,_⟩
   ·exact⟨by simpa using Z,ab⟩
   ·omega
   ·omega
  ·intro i E b1;rcases HI i E b1 with⟨Z,_⟩|⟨Z,_⟩|⟨Z,_⟩
   ·exact .inl Z
   ·exact .inr (.inl Z)
   ·exact .inr (.inr Z)
 refine jD.XE (K:=K) (mk:=mk) cz kD cF aI c3 (λn e eb w' cO=>⟨_,_,cO,ej n⟩) _ _ _ tmps _ M β C4 (by simp) C3 (λx hx=>by cases hx) ?_ XH ⟨(cP.drew _).up _,ev,(λs id h _ b hb=>by have Z:=cP.lt _ _ hb;have ab:=(HD _ _ _ (su h)).1;simp only at ab;omega),λ_ _ _ h=>by simp [HB,look]at h⟩
 rw [Array.getD_eq_getD_getElem?];by_cases HJ:gr<opsA.size
 ·simp [HJ]
 ·simp [HJ]
end
section
variable {P:Program} {tt:dI} {fn:Func} {E:Nat} {st:aM}
def O8{y:Code}{R:Out→List (List a7)→Prop}(h:qc P tt fn E y R st):O0 P tt fn E y R .normal st:=h
def ahp{y:Code}{out:Out}{C':List (List a7)}(h:(Ab.leave tt E fn.results.toList st).map (λx=>(x.1,ov x.2))=some (out,C')):O0 P tt fn E y (λo bQ=>o=out∧bQ=C') .ret st:=by
 rw [Option.map_eq_some_iff]at h;obtain⟨⟨o,bQ⟩,Z,ab⟩:=h;cases ab;exact⟨o,bQ,Z,rfl,rfl⟩
def XI(tt:dI)(E:Nat)(rs:List ResultVar)(ds:List D)(ρ:List Nat)(cL:List (List a7))(st:aM):Option (List (List a7)×List D×Out×List (List a7)):=
 bif !ns ρ then none else match boxes st.H ρ,lq (idx ρ) ds,kb (λj=>ρ[j]?) cL with
  |some bs,some jL,some iS=>bif Nat.beq cL.length ρ.length then match kb (idx ρ) bs,Ab.leave tt E rs {env:=st.env,H:=lr ρ iS++st.H,aW:=st.aW} with
   |some H1,some (o,bQ)=>some (H1,jL,o,ov bQ)
   |_,_=>none
   else none
  |_,_,_=>none
def rj.of{rs:List ResultVar}{fd:FuncId}{ds jL:List D}{x:Option V}(ρ:List Nat){H1 cL C':List (List a7)}{o:Out}(d:uo P fd jL H1 x λbQ=>bQ=cL)(hc:XI tt E rs ds ρ cL st=some (H1,jL,o,C')):
 rj P tt E rs fd ds (λo' bQ=>o'=o∧bQ=C') x st:=by
 unfold XI at hc;rw [Bool.cond_eq_ite]at hc;split at hc
 ·cases hc
 rename_i hn;split at hc
 case h_2=>cases hc
 rename_i bs a iS k1 ha vZ;rw [Bool.cond_eq_ite]at hc;split at hc
 case isFalse=>cases hc
 rename_i aa;split at hc
 case h_2=>cases hc
 rename_i ahq o' bQ mp fZ;simp only [Option.some.injEq,Prod.mk.injEq]at hc;obtain⟨rfl,rfl,rfl,rfl⟩:=hc;refine⟨ρ,bs,ahq,a,_,(by simpa using hn),k1,mp,ha,d,λXz aj=>?_⟩
 subst aj;exact⟨iS,o',bQ,(by simpa using aa),vZ,fZ,rfl,rfl⟩
def ahr{rs:List ResultVar}{fd:FuncId}{ds:List D}{R:Out→List (List a7)→Prop}(h:rj P tt E rs fd ds R none st):O1 P tt E rs fd ds R .ret st:=h
def XJ{rs:List ResultVar}{fd:FuncId}{ds:List D}{R:Out→List (List a7)→Prop}{x:V}(h:rj P tt E rs fd ds R (some x) st):O1 P tt E rs fd ds R (.bf x) st:=h
end
section
variable {P:Program}
def ahs{w:World}{b off:Nat}{vs:List Value}{T:TypeId}{o3:Nat×Nat}(h:w.heap[b]? = some (.cells ⟨vs⟩ T o3))(u:Value):
 (w.setCell ⟨b,off,none⟩ u).heap[b]? = some (.cells ⟨vs.set off u⟩ T o3):=by
 have cZ:=lt_of_heap h;have cO:w.heap[b] = .cells ⟨vs⟩ T o3:=by simpa [Array.getElem?_eq_getElem cZ]using h
 show(w.heap.modify b _)[b]? = _
 rw [Array.getElem?_eq_getElem (by simpa using cZ),Array.getElem_modify_self,cO]
 simp
def aht{w:World}{b off:Nat}{u:Value}(k:Nat)(h:k≠b):(w.setCell ⟨b,off,none⟩ u).heap[k]? = w.heap[k]? := Go.RowKit.Below.heap_setCell w ⟨b,off,none⟩ u k h
def XK {f : FuncId} {fd : Func} {off : Nat} {u : TypeId} (kf : P.funcs[f]? = some fd) (O9 : fd.body.isSome = true) (hn : decide (fd.name = "runtime.NumGoroutine") = false)
 (ahu:∀(b:Nat) (w:World),w.cell? ⟨b,off,none⟩=some (.pointer (some ⟨b,off,none⟩))→Calls P f #[.pointer (some ⟨b,off,none⟩)] w λe w'=>e = .returned (.tuple #[])∧w'=w)
 (ahv:∀(b:Nat) (w:World) (T:TypeId) (k:Nat),w.cell? ⟨b,off,none⟩=some (.pointer none)→w.shape? b=some (T,k)→off<k→liesAt P P.depth T (k / P.cellsOf T) off u 1=true→w.frozen? ⟨b,off,none⟩=false→
  Calls P f #[.pointer (some ⟨b,off,none⟩)] w λe w'=>e = .returned (.tuple #[])∧w'=w.setCell ⟨b,off,none⟩ (.pointer (some ⟨b,off,none⟩)))
 {cs:List a7} (eu:cs[off]? = some ⟨.cu 0 off u,none⟩):gY P f [.ptr 0 off] [] [cs] (.ret (.cA []) none) [cs]:=by
 refine⟨⟨fd,kf,O9,by simpa using hn⟩,λK w vs M β hlen hs hF=>?_⟩
 obtain⟨v,rfl⟩:∃v,vs=[v]:=by
  match vs,hlen with
  |[v],_=>exact⟨v,rfl⟩
 have sB:=hs.fw (.slot 0) ⟨.ptr 0 off,none⟩ (by simp [aM.at,hX,sD,cS,look])
 have wa:cv (⟨[v]⟩:Array Value) w β (.slot 0)=v:=by simp [cv]
 rw [wa]at sB;obtain⟨b,hb,rfl⟩:∃b,β 0=some b∧v = .pointer (some ⟨b,off,none⟩):=by cases sB with|ptr r o b h=>exact⟨b,h,rfl⟩
 have hl0:look (cS 0 [cs]) 0=some cs:=by simp [cS,look]
 obtain⟨bH,ws,T,bY,bn,XL,ahw,ahx,ji,hlies⟩:=hs.box 0 cs hl0;rw [hb]at bY;cases bY;have ud:off<cs.length:=(List.getElem?_eq_some_iff.1 eu).1;have C_:ws[off]? = some ws[off]:=List.getElem?_eq_getElem (by omega)
 have ij:w.cell? ⟨b,off,none⟩=some ws[off]:=by rw [cell_of_heap bn,C_]
 have gM:=hs.fw (.cell 0 off) ⟨.cu 0 off u,none⟩ (by simp [aM.at,hl0,eu])
 have cj:cv (⟨[.pointer (some ⟨b,off,none⟩)]⟩:Array Value) w β (.cell 0 off)=ws[off]:=by simp [cv,hb,ij]
 rw [cj]at gM
 have fin:∀w',bN P K M β {env:=[],H:=cS 0 [cs],aW:=[cs].length} #[.tuple #[]] w'→bN P K M β {env:=iy (.ret (.cA []) none),H:=cS 0 [cs],aW:=[cs].length} #[.tuple #[]] w':=λw' h=>by
  have:=h.put (t:=0) (v:=.tuple #[]) (e:=⟨.cA [],none⟩) (by simp) (.cA [] [] rfl λi v c av=>by simp at av) (λT aH=>by cases aH)
  exact this
 generalize hx:ws[off]=x at ij gM C_
 cases gM with
 |lY r o nC=>
  have hsh:w.shape? b=some (T,ws.length):=by simp [World.shape?,bn]
  have hfz:w.frozen? ⟨b,off,none⟩=false:=by simp [World.frozen?,bn]
  have mW:=hlies _ (List.mem_of_getElem? eu) 0 off u rfl;refine(ahv b w T ws.length ij hsh (by omega) mW hfz).mono ?_
  rintro e w' ⟨rfl,rfl⟩
  refine⟨_,_,.tuple #[],M,β,⟨rfl,rfl⟩,rfl,fin _ ?_⟩
  have Z:=(hs.CR #[.tuple #[]]).Nq (r:=0) (b:=b) (cs:=cs) (w':=w.setCell ⟨b,off,none⟩ (.pointer (some ⟨b,off,none⟩))) hl0 hb bn (vs':=ws.set off (.pointer (some ⟨b,off,none⟩))) (cs':=cs) (by simpa using XL)
   (λy cg=>by
    rcases List.mem_or_eq_of_mem_set cg with h|rfl
    ·exact ji y h
    ·rfl) (λh=>by rw [List.length_set];exact h) rfl (ahs bn _) (λk hk=>aht k hk) cs.length (λi y e cg he=>by
    by_cases hi:off=i
    ·subst hi;rw [List.getElem?_set_self (by omega)]at cg
     cases cg;rw [eu]at he;cases he;exact⟨.cu 0 off b u hb,λT aH=>by cases aH⟩
    ·rw [List.getElem?_set_ne hi]at cg;have NG:=(List.getElem?_eq_some_iff.1 he).1;refine⟨?_,λT aH=>.inl ⟨by omega,⟨e,he,aH⟩,cg⟩⟩
     have:=hs.fw (.cell 0 i) e (by simp [aM.at,hl0,he])
     simpa [cv,hb,cell_of_heap bn,cg]using this)
  refine Z.sub rfl (λl e aa=>⟨e,?_,rfl,λ_ h=>h⟩) (λr c ai=>⟨c,?_,rfl⟩)
  ·cases l with
   |slot s=>exact aa
   |cell r i=>
    simp only [aM.at,dZ]at aa ⊢;by_cases ai:r=0
    ·subst ai;rw [hl0]at aa;simpa using aa
    ·simp [cS,dZ,Ne.symm ai,look]at aa
  ·simp only [dZ]at ai ⊢;by_cases mj:r=0
   ·subst mj;rw [hl0]at ai;simpa using ai
   ·simp [cS,dZ,Ne.symm mj,look]at ai
 |cu r o jl nC fC=>
  rw [hb]at fC;cases fC;refine(ahu b w ij).mono ?_
  rintro e w' ⟨rfl,rfl⟩
  exact⟨_,_,.tuple #[],M,β,⟨rfl,rfl⟩,rfl,fin _ (hs.CR _)⟩
end
section
variable {P:Program}
def XM {f : FuncId} {fd : Func} {T5 : TypeId} (kf : P.funcs[f]? = some fd) (O9 : fd.body.isSome = true) (hn : decide (fd.name = "runtime.NumGoroutine") = false) (ahy : P.cellsOf T5 = 1)
 (pY:∀(b:Nat) (w:World),w.cell? ⟨b,1,none⟩=some (.slice none 0 0)→Calls P f #[.pointer (some ⟨b,0,none⟩)] w λe w'=>e = .returned (.string ⟨#[]⟩)∧w'=w.drew)
 (gm:∀(b g cap:Nat) (w:World),cap≠0→w.cell? ⟨b,1,none⟩=some (.slice (some ⟨g,0,none⟩) 0 cap)→Calls P f #[.pointer (some ⟨b,0,none⟩)] w λe w'=>e = .returned (.string ⟨#[]⟩)∧w'=w.drew)
 (ahz:∀(b g:Nat) (w:World) (vs:List Value),w.cell? ⟨b,1,none⟩=some (.slice (some ⟨g,0,none⟩) 0 0)→b<w.heap.size→w.heap[g]? = some (.cells ⟨vs⟩ T5 (0,0))→
  Calls P f #[.pointer (some ⟨b,0,none⟩)] w λe w'=>e = .returned (.string ⟨#[]⟩)∧w'=(w.drew.alloc (.view ⟨g,0,none⟩ T5)))
 (vY:∀(b g cap:Nat) (w:World) (vs:List Value) (l:aux),l≠[]→w.cell? ⟨b,1,none⟩=some (.slice (some ⟨g,0,none⟩) l.length cap)→w.heap[g]? = some (.cells ⟨vs⟩ T5 (0,0))→
  l.length≤cap→cap≤vs.length→l.length≤9223372036854775807→(∀(j:Nat) (x:UInt8),l[j]? = some x→vs[j]? = some (Value.int .u8 x.toNat))→
  Calls P f #[.pointer (some ⟨b,0,none⟩)] w λe w'=>e = .returned (.string ⟨l.toArray⟩)∧w'=w.drew.freeze ⟨g,0,none⟩ l.length)
 {d0:a7} {cs:List a7} {l:aux} {n:Nat} {get:Nat→V} (iX:n=l.length∧∀i,i<l.length→get i = .int .u8 ((l.getD i 0).toNat:Int)) (h63:l.length≤9223372036854775807):
 gY P f [.ptr 0 0] [] [d0::⟨.v (.bI 1 n get),some T5⟩::cs] (.ret (.v (.str l)) none) [d0::⟨.v (.bI 1 n get),none⟩::cs]:=by
 obtain⟨rfl,iX⟩:=iX;refine⟨⟨fd,kf,O9,by simpa using hn⟩,λK w vs M β hlen hs hF=>?_⟩
 obtain⟨v,rfl⟩:∃v,vs=[v]:=by
  match vs,hlen with
  |[v],_=>exact⟨v,rfl⟩
 have sB:=hs.fw (.slot 0) ⟨.ptr 0 0,none⟩ (by simp [aM.at,hX,sD,cS,look])
 have wa:cv (⟨[v]⟩:Array Value) w β (.slot 0)=v:=by simp [cv]
 rw [wa]at sB;obtain⟨b,hb,rfl⟩:∃b,β 0=some b∧v = .pointer (some ⟨b,0,none⟩):=by cases sB with|ptr r o b h=>exact⟨b,h,rfl⟩
 generalize l2:d0::(⟨.v (.bI 1 l.length get),some T5⟩:a7)::cs=nD at hs
 have k0:nD[1]? = some ⟨.v (.bI 1 l.length get),some T5⟩:=by rw [←l2];rfl
 have hl0:look (cS 0 [nD]) 0=some nD:=by simp [cS,look]
 obtain⟨bH,ws,T,bY,bn,XL,ahw,ahx,ji⟩:=hs.box 0 nD hl0;rw [hb]at bY;cases bY;have ud:1<nD.length:=(List.getElem?_eq_some_iff.1 k0).1;have C_:ws[1]? = some ws[1]:=List.getElem?_eq_getElem (by omega)
 have ij:w.cell? ⟨b,1,none⟩=some ws[1]:=by rw [cell_of_heap bn,C_]
 have XN:({env:=hX [.ptr 0 0] [],H:=cS 0 [nD],aW:=[nD].length}:aM).at (.cell 0 1)=some ⟨.v (.bI 1 l.length get),some T5⟩:=by simp [aM.at,hl0,k0]
 have gM:=hs.fw _ _ XN;have gk:=hs.own _ _ T5 XN rfl;have cj:cv (⟨[.pointer (some ⟨b,0,none⟩)]⟩:Array Value) w β (.cell 0 1)=ws[1]:=by simp [cv,hb,ij]
 rw [cj]at gM gk
 -- mo state behind it
 have vX:∀(j:Nat) bg,(d0::(⟨.v (.bI 1 l.length get),none⟩:a7)::cs)[j]? = some bg→∃b4,nD[j]? = some b4∧b4.d=bg.d∧(∀T,bg.own=some T→b4.own=some T∧j≠1):=by
  intro j bg hj;rw [←l2]
  match j with
  | 0=>simp only [List.getElem?_cons_zero,Option.some.injEq]at hj ⊢;subst hj;exact⟨_,rfl,rfl,λT aH=>⟨aH,by omega⟩⟩
  | 1=>simp only [List.getElem?_cons_succ,List.getElem?_cons_zero,Option.some.injEq]at hj ⊢;subst hj;exact⟨_,rfl,rfl,λT aH=>by cases aH⟩
  |j+2=>simp only [List.getElem?_cons_succ]at hj ⊢;exact⟨bg,hj,rfl,λT aH=>⟨aH,by omega⟩⟩
 obtain⟨p6,o9⟩:=hs.VH (r:=0) (i:=1) (cs':=d0::⟨.v (.bI 1 l.length get),none⟩::cs) hl0 k0 rfl (by rw [←l2];rfl) vX (.slot 0)
 rw [cj]at o9
 have fin:∀w' M',bN P K M' β {env:=hX [.ptr 0 0] [],H:=(0,d0::⟨.v (.bI 1 l.length get),none⟩::cs)::cS 0 [nD],aW:=[nD].length} ⟨[.pointer (some ⟨b,0,none⟩)]⟩ w'→
  bN P K M' β {env:=iy (.ret (.v (.str l)) none),H:=cS 0 [d0::⟨.v (.bI 1 l.length get),none⟩::cs],aW:=[nD].length} #[.string ⟨⟨l⟩⟩] w':=λw' M' h=>by
  have Z:=(h.CR #[.string ⟨⟨l⟩⟩]).put (t:=0) (v:=.string ⟨⟨l⟩⟩) (e:=⟨.v (.str l),none⟩) (by simp) (.v _ _ (.str l)) (λT aH=>by cases aH)
  refine Z.sub rfl (λq e ao=>⟨e,?_,rfl,λ_ h=>h⟩) (λr c ai=>⟨c,?_,rfl⟩)
  ·cases q with
   |slot s=>exact ao
   |cell r i=>
    simp only [aM.at,dZ]at ao ⊢;by_cases ai:r=0
    ·subst ai;simpa [cS,look]using ao
    ·simp [cS,dZ,Ne.symm ai,look]at ao
  ·simp only [dZ]at ai ⊢;by_cases mj:r=0
   ·subst mj;simpa [cS,look]using ai
   ·simp [cS,dZ,Ne.symm mj,look]at ai
 have ahA:b<w.heap.size:=lt_of_heap bn;have HK:bN P K M β {env:=hX [.ptr 0 0] [],H:=(0,d0::⟨.v (.bI 1 l.length get),none⟩::cs)::cS 0 [nD],aW:=[nD].length} ⟨[.pointer (some ⟨b,0,none⟩)]⟩ w.drew:=p6.drew _;have XO:[nD].length=1:=rfl;generalize hx:ws[1]=x at ij gM gk o9 C_
 rcases gk with h0|⟨g,n,cap,us,T',Z,ab,aj,aC,aT,bP,cM⟩
 ·subst h0;obtain⟨_,aa⟩|⟨_,_,_,_,h,_⟩:=tT gM
  ·obtain rfl:=List.eq_nil_of_length_eq_zero aa;refine(pY b w ij).mono ?_
   rintro e w' ⟨rfl,rfl⟩
   exact⟨_,_,_,M,β,⟨rfl,rfl⟩,rfl,fin _ M HK⟩
  ·cases h
 ·subst cM
  have ahB:∃(b off cap:Nat) (val:Nat→Nat→Value),x = .slice (some ⟨b,off,none⟩) l.length cap∧l.length≤cap∧(∀i,i<l.length→(get i).cells.length=1)∧(∀i j,i<l.length→j<1→M b (off+i*1+j)=some (val i j))∧
   (∀i j,i<l.length→j<1→(val i j).oneCell'=true)∧(∀(i j:Nat) c,i<l.length→(get i).cells[j]? = some c→df M (val i j) c):=by
   rcases tT gM with⟨h|⟨a,h⟩,dx⟩|hx
   ·rw [Z]at h;cases h
   ·rw [Z]at h;simp only [Value.slice.injEq,Option.some.injEq]at h;obtain⟨rfl,rfl,rfl⟩:=h;exact⟨g,0,0,λ_ _=>undef,Z.trans (by rw [dx]),by omega,λi hi=>by omega,λi j hi=>by omega,λi j hi=>by omega,λi j c hi=>by omega⟩
   ·exact hx
  obtain⟨g2,off,as',val,av,hc,hk,cV,as_,ix⟩:=ahB
  focus
  ·rw [Z]at av;simp only [Value.slice.injEq,Option.some.injEq,Addr.mk.injEq,and_true]at av;obtain⟨⟨rfl,rfl⟩,rfl,rfl⟩:=av;rw [ahy,Nat.mul_one]at aC;subst Z;by_cases aa:l=[]
   ·subst aa;by_cases hcap:cap=0
    ·subst hcap;refine(ahz b g w us ij ahA aj).mono ?_
     rintro e w' ⟨rfl,rfl⟩
     refine⟨_,_,_,M,β,⟨rfl,rfl⟩,rfl,fin _ M (HK.grow (λk hk=>?_))⟩
     exact Go.Lib.alloc_old _ _ k hk
    ·refine(gm b g cap w hcap ij).mono ?_
     rintro e w' ⟨rfl,rfl⟩
     exact⟨_,_,_,M,β,⟨rfl,rfl⟩,rfl,fin _ M HK⟩
   ·have Cw:∀(j:Nat) (x:UInt8),l[j]? = some x→us[j]? = some (Value.int .u8 x.toNat):=by
     intro j x hx;have hj:j<l.length:=(List.getElem?_eq_some_iff.1 hx).1;have e1:=hs.mem _ _ _ (cV j 0 hj (by omega))
     have e2:=iX j hj;have e3:=ix j 0 (.int .u8 ((l.getD j 0).toNat:Int)) hj (by rw [e2];rfl)
     rw [cell_of_heap aj,show 0+j*1+0=j by omega]at e1
     rw [e1];generalize val j 0=y at e3 ⊢
     cases e3;simp [List.getD,hx]
    refine(vY b g cap w us l aa ij aj hc aC h63 Cw).mono ?_
    rintro e w' ⟨rfl,rfl⟩
    refine⟨_,_,.string ⟨⟨l⟩⟩,M,β,⟨rfl,rfl⟩,rfl,fin _ M ?_⟩
    have hfz:(w.drew.freeze ⟨g,0,none⟩ l.length).os=w.drew.os∧(w.drew.freeze ⟨g,0,none⟩ l.length).output=w.drew.output∧(∀k,k≠g→(w.drew.freeze ⟨g,0,none⟩ l.length).heap[k]? = w.drew.heap[k]?)∧∃o3,(w.drew.freeze ⟨g,0,none⟩ l.length).heap[g]? = some (.cells ⟨us⟩ T' o3):=by
     have hg':w.drew.heap[g]? = some (.cells ⟨us⟩ T' (0,0)):=aj;have cZ:=lt_of_heap hg';have cO:w.drew.heap[g] = .cells ⟨us⟩ T' (0,0):=by simpa [Array.getElem?_eq_getElem cZ]using hg'
     unfold World.freeze;split
     ·exact⟨rfl,rfl,λ_ _=>rfl,_,hg'⟩
     ·refine⟨rfl,rfl,λk hk=>?_,?_⟩
      ·simp only [Array.getElem?_modify];rw [if_neg (by simpa using(Ne.symm hk))]
      ·simp only [Array.getElem?_modify];rw [if_pos trivial,hg'];exact⟨_,rfl⟩
    obtain⟨f1,f2,f3,o3,f4⟩:=hfz;refine HK.free g bP (λr c ai mq=>o9.unbox g r c rfl ai mq) (λq e hG ao t8 ahC=>?_) (λk hk _=>f3 k hk) (Mem.le_refl _) (λ_ _ _=>rfl) (λo v av=>?_) (by rw [f1,f2])
    ·refine o9.apart q e hG g ao t8 ?_ rfl ahC
     rintro rfl
     simp only [aM.at,hX,sD,cS,look]at ao;simp at ao;subst ao;cases t8
    ·have:=hs.mem _ _ _ av
     rw [cell_of_heap aj]at this;rw [cell_of_heap f4,this]
end
def ur(w:World):Mem:=λb o=>w.cell? ⟨b,o,none⟩
def f0(w:World)(vs:List Value)(cs:List V):Prop:=
 vs.length=cs.length∧(∀v,v∈vs→v.oneCell'=true)∧∀(i:Nat) v c,vs[i]? = some v→cs[i]? = some c→df (ur w) v c
def f0.nil{w:World}:f0 w [] []:=⟨rfl,(λv h=>by cases h),λi v c h=>by simp at h⟩
def f0.one{w:World}{v:Value}{c:V}(Z:v.oneCell'=true)(h:df (ur w) v c):f0 w [v] [c]:=
 ⟨rfl,(λu hu=>by obtain rfl:=List.mem_singleton.1 hu;exact Z),λi u d hu hd=>by
  match i with
  | 0=>cases hu;cases hd;exact h
  |i+1=>simp at hu⟩
def f0.app{w:World}{vs us:List Value}{cs ds:List V}(h:f0 w vs cs)(cO:f0 w us ds):f0 w (vs++us) (cs++ds):=by
 refine⟨by simp [h.1,cO.1],λv av=>?_,λi v c av hc=>?_⟩
 ·rcases List.mem_append.1 av with av|av
  ·exact h.2.1 v av
  ·exact cO.2.1 v av
 ·by_cases hi:i<vs.length
  ·rw [List.getElem?_append_left hi]at av;rw [List.getElem?_append_left (by rw [←h.1];exact hi)]at hc
   exact h.2.2 i v c av hc
  ·rw [List.getElem?_append_right (by omega)]at av
   rw [List.getElem?_append_right (by rw [←h.1];omega),←h.1]at hc
   exact cO.2.2 _ v c av hc
def f0.HL{w:World}{vs:List Value}{cs ds:List V}(h:f0 w vs cs)(av:kE cs ds):f0 w vs ds:=by
 refine⟨h.1.trans av.len,h.2.1,λi v c hi hc=>?_⟩
 obtain⟨x,hx,tZ⟩:=av.at i hc;exact tZ _ _ (h.2.2 i v x hi hx)
def f0.agg{w:World}{vs:List Value}{cs:List V}(h:f0 w vs cs):df (ur w) (.agg ⟨vs⟩) (.agg cs):=.agg vs cs h.1 h.2.1 h.2.2
def XP{α:Type}[Inhabited α]:∀(n:Nat) (Q:Nat→α→Prop),(∀i,i<n→∃a,Q i a)→∃l:List α,l.length=n∧∀i,i<n→Q i (l.getD i default)
 | 0,Q,h=>⟨[],rfl,λi hi=>by omega⟩
 |n+1,Q,h=>by
  obtain⟨l,Z,ab⟩:=XP n Q λi hi=>h i (by omega)
  obtain⟨a,ha⟩:=h n (by omega)
  refine⟨l++[a],by simp [Z],λi hi=>?_⟩
  by_cases hin:i<n
  ·have:=ab i hin
   simpa [List.getD,List.getElem?_append_left (show i<l.length by omega)]using this
  ·obtain rfl:i=n:=by omega
   simpa [List.getD,←Z]using ha
section
variable {H:Type} {enc:TypeId×Value→H} {P:Program} {w:World}
def i8{fuel:Nat}{t:TypeId}{k:IntKind}{cs:List Value}{x:DataW H×List MemPlace}(aF:P.underlying t=some (.int k))(h:DataW.trod enc P w 0 (λ_=>true) true fuel t cs=some x):
 ∃n:Int,(k.min≤n∧n≤k.max)∧f0 w cs [.int k n]:=by
 obtain⟨n,rfl,_,hw⟩:=DataW.trod_int aF h;refine⟨n,by simpa [Lit.wf]using hw,.one rfl (.int _ _)⟩
def XQ{fuel:Nat}{t:TypeId}{cs:List Value}{x:DataW H×List MemPlace}(aF:P.underlying t=some .bool)(h:DataW.trod enc P w 0 (λ_=>true) true fuel t cs=some x):
 ∃b:Bool,f0 w cs [.bool b]:=by
 obtain⟨b,rfl,_⟩:=DataW.trod_bool aF h;exact⟨b,.one rfl (.bool _)⟩
def pf{fuel:Nat}{t:TypeId}{cs:List Value}{x:DataW H×List MemPlace}(aF:P.underlying t=some .string)(h:DataW.trod enc P w 0 (λ_=>true) true fuel t cs=some x):
 ∃s:aux,s.length≤9223372036854775807∧f0 w cs [.str s]:=by
 obtain⟨s,rfl,_,hw⟩:=DataW.trod_string aF h;exact⟨s.data.toList,by simpa [maxLen]using hw,.one rfl (.str s.data.toList)⟩
def l9{α:Type}[Inhabited α]{fuel:Nat}{t e:TypeId}{k:Nat}{cs:List Value}{x:DataW H×List MemPlace}{encA:α→V}{ok:α→Prop}(aF:P.underlying t=some (.slice e))(hk:P.cellsOf e=k)(jo:0<k)
 (h:DataW.trod enc P w 0 (λ_=>true) true fuel t cs=some x)
 (ai:∀n cs' gf,n<fuel→DataW.trod enc P w 0 (λ_=>true) true n e cs'=some gf→∃a:α,ok a∧f0 w cs' (encA a).cells):
 ∃l:List α,l.length≤9223372036854775807∧(∀i,i<l.length→ok (l.getD i default))∧f0 w cs [ag k encA l]:=by
 rcases DataW.trod_slice aF h with⟨rfl,_⟩|⟨a,len,cap,elems,rest,n,rfl,rfl,_,_,Da,ahD,lB,he,O',_⟩
 ·exact⟨[],by simp,(λi hi=>by simp at hi),.one rfl (.mh _ _)⟩
 ·have p2:∀i,i<len→∃b:α,ok b∧∃cs',w.cells? 0 (a.add (i*k)) k=some cs'∧f0 w cs' (encA b).cells:=by
   intro i hi;have Z:=he i hi;rw [List.getElem?_eq_getElem (by omega),Option.bind_eq_some_iff,hk]at Z
   obtain⟨cs',ab,aj⟩:=Z;obtain⟨b,aC,aT⟩:=ai n cs' _ (by omega) aj
   exact⟨b,aC,cs',ab,aT⟩
  obtain⟨l,aa,ej⟩:=XP len _ p2;subst aa;refine⟨l,by unfold maxLen at ahD;omega,λi hi=>(ej i hi).1,?_⟩
  by_cases hc0:cap=0
  ·obtain rfl:l=[]:=List.eq_nil_of_length_eq_zero (by omega)
   subst hc0;exact .one rfl (.pS _ _ _)
  ·have XR:a.spot=none:=by
    have h0:∃cs',w.cells? 0 (a.add (0*k)) k=some cs':=by
     by_cases hl0:l.length=0
     ·obtain⟨Z,ab⟩:=O' rfl;have aj:=ab 0 (by omega)
      rw [List.getElem?_eq_getElem (by omega),Option.bind_eq_some_iff,hk,hl0]at aj
      obtain⟨cs',aC,_⟩:=aj;exact⟨cs',aC⟩
     ·obtain⟨_,cs',aC,_⟩:=ej 0 (by omega)
      exact⟨cs',aC⟩
    obtain⟨cs',aC⟩:=h0;obtain⟨_,aT,bP⟩:=World.cells?_some aC;have cM:=bP 0 jo;rw [List.getElem?_eq_getElem (by omega),Nat.zero_mul]at cM
    have:(a.add 0).add 0=a:=by simp [Addr.add]
    rw [this]at cM;exact World.cell?_spot cM
   obtain⟨b,off,sp⟩:=a;simp only at XR
   subst XR
   have cj:∀i j,i<l.length→j<k→∃cs':List Value,cs'.length=k∧f0 w cs' (encA (l.getD i default)).cells∧w.cell? ⟨b,off+i*k+j,none⟩=cs'[j]? := by
    intro i j hi hj;obtain⟨_,cs',Z,ab⟩:=ej i hi;obtain⟨_,aT,bP⟩:=World.cells?_some Z;refine⟨cs',aT,ab,?_⟩
    rw [←bP j hj,addr_add,addr_add]
   have XS:∀i,i<l.length→(encA (l.getD i default)).cells.length=k:=by
    intro i hi;obtain⟨cs',Z,ab,_⟩:=cj i 0 hi jo;rw [←ab.1,Z]
   refine .one rfl (.bI b off k l.length cap _ (λi j=>(w.cell? ⟨b,off+i*k+j,none⟩).getD undef) Da XS (λi j hi hj=>?_) (λi j hi hj=>?_) (λi j c hi hc=>?_))
   ·obtain⟨cs',Z,ab,aj⟩:=cj i j hi hj;unfold ur;rw [aj,List.getElem?_eq_getElem (by omega)];rfl
   ·obtain⟨cs',Z,ab,aj⟩:=cj i j hi hj;rw [aj,List.getElem?_eq_getElem (by omega)]
    exact ab.2.1 _ (List.getElem_mem _)
   ·have hj:j<k:=by rw [←XS i hi];exact(List.getElem?_eq_some_iff.1 hc).1
    obtain⟨cs',Z,ab,aj⟩:=cj i j hi hj;rw [aj,List.getElem?_eq_getElem (by omega)]
    exact ab.2.2 j _ c (List.getElem?_eq_getElem (by omega)) hc
end
section
variable {P:Program} {K:Ctx} {N E:Nat} {M:Mem} {β:Nat→Option Nat} {st b9:aM} {tmps:Array Value} {w:World}
mutual
def rl(r:Nat)(x:V):D→D
 |.v y=>.v y
 |.ptr q off=>bif Nat.beq q r&&Nat.beq off 0 then .e7 x else .ptr q off
 |.cu q off u=>.cu q off u
 |.e7 y=>.e7 y
 |.full k n g=>.full k n g
 |.fn f cs=>.fn f (rm r x cs)
 |.agg cs=>.agg (rm r x cs)
 |.cA cs=>.cA (rm r x cs)
def rm(r:Nat)(x:V):List D→List D
 |[]=>[]
 |d::l=>rl r x d::rm r x l
end
def HM(r:Nat)(x:V):∀(l:List D) (i:Nat),(rm r x l)[i]? = (l[i]?).map (rl r x)
 |[],i=>by simp [rm]
 |d::l,0=>by simp [rm]
 |d::l,i+1=>by simp only [rm,List.getElem?_cons_succ];exact HM r x l i
def HN(r:Nat)(x:V):∀l:List D,(rm r x l).length=l.length
 |[]=>rfl
 |d::l=>by simp only [rm,List.length_cons,HN r x l]
def cy.o3{M':Mem}(cV:M.le M'){r b:Nat}{x:V}{u:Value}(hb:β r=some b)(hx:x.isAgg=false)(hu:M' b 0=some u)(Z:u.oneCell'=true)(ai:df M' u x){v:Value}{d:D}(h:cy M β v d):cy M' β v (rl r x d):=by
 induction h with
 |v u x h=>exact .v u x (h.mono cV)
 |ptr q off bH h=>
  simp only [rl];cases hc:Nat.beq q r&&Nat.beq off 0 with
  |false=>exact .ptr q off bH h
  |true=>
   simp only [Bool.and_eq_true,Nat.beq_eq]at hc;obtain⟨rfl,rfl⟩:=hc;rw [hb]at h;cases h;have yH:=yu hx;refine .e7 b 0 x (λ_=>u) (λj hj=>?_) (λj hj=>Z) (λj c hc=>?_)
   ·rw [yH]at hj;simp at hj
    subst hj;exact hu
   ·rw [yH]at hc;cases j with
    |zero=>simp at hc;subst hc;exact ai
    |succ j=>simp at hc
 |lY q off t=>exact .lY q off t
 |cu q off bH t h=>exact .cu q off bH t h
 |e7 b off x val hm Z h=>exact .e7 b off x val (λj hj=>cV _ _ _ (hm j hj)) Z (λj c hc=>(h j c hc).mono cV)
 |full base k n get h=>exact .full base k n get (h.mono cV)
 |fn f vs cs hn _ aG=>
  simp only [rl];refine .fn f vs _ (by rw [HN];exact hn) λi v c av hc=>?_
  rw [HM]at hc;simp only [Option.map_eq_some_iff]at hc;obtain⟨c0,h0,rfl⟩:=hc;exact aG i v c0 av h0
 |agg vs cs hn Z _ aG=>
  simp only [rl];refine .agg vs _ (by rw [HN];exact hn) Z λi v c av hc=>?_
  rw [HM]at hc;simp only [Option.map_eq_some_iff]at hc;obtain⟨c0,h0,rfl⟩:=hc;exact aG i v c0 av h0
 |cA vs cs hn _ aG=>
  simp only [rl];refine .cA vs _ (by rw [HN];exact hn) λi v c av hc=>?_
  rw [HM]at hc;simp only [Option.map_eq_some_iff]at hc;obtain⟨c0,h0,rfl⟩:=hc;exact aG i v c0 av h0
def yU(r:Nat)(x:V)(e:a7):a7:={d:=rl r x e.d,own:=e.own}
def HO(r:Nat)(x:V):List (Nat×a7)→List (Nat×a7)
 |[]=>[]
 |(t,e)::l=>(t,yU r x e)::HO r x l
def HP(r:Nat)(x:V):List (Nat×List a7)→List (Nat×List a7)
 |[]=>[]
 |(t,cs)::l=>(t,cs.map (yU r x))::HP r x l
def XT(r:Nat)(x:V):∀(l:List (Nat×a7)) (s:Nat),look (HO r x l) s=(look l s).map (yU r x)
 |[],s=>rfl
 |(t,e)::l,s=>by
  simp only [HO,dZ];by_cases h:t=s
  ·simp [h]
  ·simp only [h,if_false];exact XT r x l s
def O_(r:Nat)(x:V):∀(l:List (Nat×List a7)) (s:Nat),look (HP r x l) s=(look l s).map λcs=>cs.map (yU r x)
 |[],s=>rfl
 |(t,cs)::l,s=>by
  simp only [HP,dZ];by_cases h:t=s
  ·simp [h]
  ·simp only [h,if_false];exact O_ r x l s
def ut(r:Nat)(x:V)(st:aM):aM:={env:=HO r x st.env,H:=HP r x (del st.H r),aW:=st.aW}
def Db{r:Nat}{x:V}{l:Loc}{bg:a7}(h:(ut r x st).at l=some bg):∃e,aM.at {env:=st.env,H:=del st.H r,aW:=st.aW} l=some e∧bg=yU r x e:=by
 cases l with
 |slot s=>
  simp only [aM.at,ut,XT,Option.map_eq_some_iff]at h ⊢;obtain⟨e,Z,ab⟩:=h;exact⟨e,Z,ab.symm⟩
 |cell q i=>
  simp only [aM.at,ut,O_,Option.bind_eq_some_iff,Option.map_eq_some_iff]at h ⊢;obtain⟨cs,⟨lC,Z,rfl⟩,ab⟩:=h;rw [List.getElem?_map,Option.map_eq_some_iff]at ab;obtain⟨e,aj,aC⟩:=ab;exact⟨e,⟨lC,Z,aj⟩,aC.symm⟩
def ahE{r:Nat}{x:V}{d:D}{q off:Nat}{u:TypeId}(h:rl r x d = .cu q off u):d = .cu q off u:=by
 cases d<;>simp only [rl]at h
 case ptr q' o'=>cases hc:Nat.beq q' r&&Nat.beq o' 0<;>rw [hc]at h<;>cases h
 all_goals first|exact h|cases h
def bN.freeze(h:bN P K M β st tmps w){r:Nat}{x:V}{own:Option TypeId}(ai:look st.H r=some [⟨.v x,own⟩])(hx:x.isAgg=false):∃M',bN P K M' β (ut r x st) tmps w:=by
 obtain⟨b,vs,T,hb,bn,hlen,XU,dP,ji,hlies⟩:=h.box r _ ai
 obtain⟨u,rfl⟩:∃u,vs=[u]:=by
  match vs,hlen with
  |[u],_=>exact⟨u,rfl⟩
 have HQ:∀q cs,look (del st.H r) q=some cs→q≠r∧look st.H q=some cs:=by
  intro q cs ao;rw [q1]at ao;split at ao
  ·cases ao
  ·rename_i di;exact⟨λe=>di e.symm,ao⟩
 have Z:bN P K M β {env:=st.env,H:=del st.H r,aW:=st.aW} tmps w:=h.sub rfl (λl e aa=>by
  cases l with
  |slot s=>exact⟨e,aa,rfl,λ_ h=>h⟩
  |cell q i=>
   simp only [aM.at,Option.bind_eq_some_iff]at aa ⊢;obtain⟨cs,ab,aj⟩:=aa;exact⟨e,⟨cs,(HQ _ _ ab).2,aj⟩,rfl,λ_ h=>h⟩) (λq cs ao=>⟨cs,(HQ _ _ ao).2,rfl⟩)
 have hle:M.le (jk M b 0 [u]):=NN λo _=>XU o
 have ij:jk M b 0 [u] b 0=some u:=by simp [jk]
 have ab:bN P K (jk M b 0 [u]) β {env:=st.env,H:=del st.H r,aW:=st.aW} tmps w:=by
  refine Z.free b dP (λq cs ao ahF=>?_) (λl e T' aa aH nu=>?_) (λ_ _ _=>rfl) hle (λbH o di=>by simp [jk,di]) (λo v av=>?_)
  ·obtain⟨aj,aC⟩:=HQ _ _ ao;exact aj (h.inj q r b _ _ aC ai ahF hb)
  ·have hl0:∃b4,st.at l=some b4∧b4.own=some T':=by
    cases l with
    |slot s=>exact⟨e,aa,aH⟩
    |cell q i=>
     simp only [aM.at,Option.bind_eq_some_iff]at aa ⊢;obtain⟨cs,aj,aC⟩:=aa;exact⟨e,⟨cs,(HQ _ _ aj).2,aC⟩,aH⟩
   obtain⟨b4,aj,aC⟩:=hl0;exact h.unbox l b4 T' b r _ aj aC nu ai hb
  ·rw [cell_of_heap bn];unfold jk at av;split at av
   ·rename_i hc;simpa using av
   ·rw [XU o]at av;cases av
 have gM:df (jk M b 0 [u]) u x:=by
  have aj:=h.fw (.cell r 0) ⟨.v x,own⟩ (by rw [aM.Nn ai];rfl)
  have aC:cv tmps w β (.cell r 0)=u:=by simp only [cv,hb,cell_of_heap bn];simp
  rw [aC]at aj;cases aj with
  |v _ _ aT=>exact aT.mono hle
 refine⟨jk M b 0 [u],?_⟩
 have vC:∀q cs',look (ut r x st).H q=some cs'→∃cs,look (del st.H r) q=some cs∧cs'=cs.map (yU r x):=by
  intro q cs' ao;simp only [ut,O_,Option.map_eq_some_iff]at ao;obtain⟨cs,aj,aC⟩:=ao;exact⟨cs,aj,aC.symm⟩
 constructor
 ·intro l bg aa;obtain⟨e,aj,rfl⟩:=Db aa;exact(ab.fw l e aj).o3 (Mem.le_refl _) hb hx ij (ji u (by simp)) gM
 ·intro l bg T' aa aH;obtain⟨e,aj,rfl⟩:=Db aa;exact ab.own l e T' aj aH
 ·intro l cI e bg T' ahG bH aa aH dE eh;obtain⟨e1,aj,rfl⟩:=Db aa;obtain⟨e2,aC,rfl⟩:=Db dE;exact ab.uniq l cI e1 e2 T' ahG bH aj aH aC eh
 ·intro l e T' bH q cs aa aH nu ao;obtain⟨e1,aj,rfl⟩:=Db aa;obtain⟨lC,aC,_⟩:=vC q cs ao;exact ab.unbox l e1 T' bH q lC aj aH nu aC
 ·intro q cs ao;obtain⟨lC,aC,rfl⟩:=vC q cs ao;obtain⟨bH,vs',T',g1,g2,g3,g4,g5,g6,g7⟩:=ab.box q lC aC;refine⟨bH,vs',T',g1,g2,by simpa using g3,g4,g5,g6,λe he q' off t hd=>?_⟩
  obtain⟨b4,Nr,rfl⟩:=List.mem_map.1 he;exact g7 b4 Nr q' off t (ahE hd)
 ·intro q q' bH cs cs' ao p3 dc fC;obtain⟨c1,aj,_⟩:=vC q cs ao;obtain⟨c2,aC,_⟩:=vC q' cs' p3;exact ab.inj q q' bH c1 c2 aj aC dc fC
 ·exact ab.lt
 ·exact ab.mem
 ·exact ab.m0
 ·exact ab.frame
 ·exact ab.iT
 ·exact ab.jA
 ·exact ab.h9
def Dc(H:List (Nat×List a7))(r:Nat):Option V:=
 match look H r with
 |some [⟨.v x,_⟩]=>bif x.isAgg then none else some x
 |_=>none
def a_.freeze{c:Code}{Q:cr→aM→Prop}(r:Nat)(x:V)(ai:Dc st.H r=some x)(h:a_ P N E c Q (ut r x st)):a_ P N E c Q st:=by
 rintro K eG a w ⟨he,hd,ev,M,β,cP⟩
 unfold Dc at ai;split at ai
 ·rename_i y own aa;rw [Bool.cond_eq_ite]at ai;split at ai
  ·cases ai
  ·rename_i hx;cases ai;obtain⟨M',hs⟩:=cP.freeze aa (by simpa using hx)
   exact h K eG a w ⟨he,hd,ev,M',β,hs⟩
 ·cases ai
def Dd(r:Nat)(st:aM):aM:=match Dc st.H r with
 |some x=>ut r x st
 |none=>st
def Pa(r:Nat)(Q:cr→aM→Prop):cr→aM→Prop
 |.normal,st=>Q .normal (Dd r st)
 |.ret,st=>Q .ret (Dd r st)
 |e,st=>Q e st
def XV{K:Ctx}{M:Mem}{β:Nat→Option Nat}{tmps:Array Value}{w:World}(r:Nat)(h:bN P K M β st tmps w):∃M',bN P K M' β (Dd r st) tmps w:=by
 unfold Dd;cases hx:Dc st.H r with
 |none=>exact⟨M,h⟩
 |some x=>
  unfold Dc at hx;split at hx
  ·rename_i y own aa;rw [Bool.cond_eq_ite]at hx;split at hx
   ·cases hx
   ·rename_i ahH;cases hx;exact h.freeze aa (by simpa using ahH)
  ·cases hx
def a_.o3{x:Code}{Q:cr→aM→Prop}(r:Nat)(h:a_ P N E x (Pa r Q) st):a_ P N E x Q st:=by
 intro K eG a w hs;refine wp_mono (h K eG a w hs) ?_
 rintro e eb w' ⟨fP,b9,Z,ab⟩
 cases fP with
 |normal=>
  obtain⟨g1,g2,g3,M,β,g4⟩:=Z;obtain⟨M',g5⟩:=XV r g4;exact⟨.normal,_,⟨g1,g2,g3,M',β,g5⟩,ab⟩
 |ret=>
  obtain⟨g1,g2,g3,M,β,g4⟩:=Z;obtain⟨M',g5⟩:=XV r g4;exact⟨.ret,_,⟨g1,g2,g3,M',β,g5⟩,ab⟩
 |exit i=>exact⟨.exit i,b9,Z,ab⟩
 |bf x=>exact⟨.bf x,b9,Z,ab⟩
def De(s e:a7):a7:=match s.own with|none=>{d:=e.d} |some _=>e
def yV:List (Nat×a7)→List (Nat×a7)→List (Nat×a7)
 |(_,s)::l,(t,e)::m=>(t,De s e)::yV l m
 |_,m=>m
def oB:List a7→List a7→List a7
 |s::l,e::m=>De s e::oB l m
 |_,m=>m
def yW:List (Nat×List a7)→List (Nat×List a7)→List (Nat×List a7)
 |(_,s)::l,(t,cs)::m=>(t,oB s cs)::yW l m
 |_,m=>m
def fit(s st:aM):aM:={env:=yV s.env st.env,H:=yW s.H st.H,aW:=st.aW}
def HR(s e:a7):(De s e).d=e.d∧∀T,(De s e).own=some T→e.own=some T:=by
 unfold De;split
 ·exact⟨rfl,λT h=>by cases h⟩
 ·exact⟨rfl,λT h=>h⟩
def XW:∀(l m:List (Nat×a7)) (t:Nat) (bg:a7),look (yV l m) t=some bg→∃e,look m t=some e∧e.d=bg.d∧∀T,bg.own=some T→e.own=some T
 |[],m,t,bg,h=>⟨bg,by simpa [yV]using h,rfl,λ_ h=>h⟩
 |(a,s)::l,[],t,bg,h=>by simp [yV,look]at h
 |(a,s)::l,(q,e)::m,t,bg,h=>by
  simp only [yV,dZ]at h ⊢;split at h
  ·rename_i ao;rw [if_pos ao];cases h;exact⟨e,rfl,(HR s e).1.symm,(HR s e).2⟩
  ·rename_i ao;rw [if_neg ao];exact XW l m t bg h
def XX:∀(l m:List a7) (i:Nat) (bg:a7),(oB l m)[i]? = some bg→∃e,m[i]? = some e∧e.d=bg.d∧∀T,bg.own=some T→e.own=some T
 |[],m,i,bg,h=>⟨bg,by simpa [oB]using h,rfl,λ_ h=>h⟩
 |s::l,[],i,bg,h=>by simp [oB]at h
 |s::l,e::m,0,bg,h=>by
  simp only [oB,List.getElem?_cons_zero,Option.some.injEq]at h;subst h;exact⟨e,rfl,(HR s e).1.symm,(HR s e).2⟩
 |s::l,e::m,i+1,bg,h=>by
  simp only [oB,List.getElem?_cons_succ]at h ⊢;exact XX l m i bg h
def XY:∀l m:List a7,(oB l m).length=m.length
 |[],m=>by simp [oB]
 |s::l,[]=>by simp [oB]
 |s::l,e::m=>by simp only [oB,List.length_cons,XY l m]
def Pb:∀(l m:List (Nat×List a7)) (t:Nat) (cs':List a7),look (yW l m) t=some cs'→∃cs s,look m t=some cs∧cs'=oB s cs
 |[],m,t,cs',h=>⟨cs',[],by simpa [yW]using h,by simp [oB]⟩
 |(a,s)::l,[],t,cs',h=>by simp [yW,look]at h
 |(a,s)::l,(q,cs)::m,t,cs',h=>by
  simp only [yW,dZ]at h ⊢;split at h
  ·rename_i ao;rw [if_pos ao];cases h;exact⟨cs,s,rfl,rfl⟩
  ·rename_i ao;rw [if_neg ao];exact Pb l m t cs' h
def bN.fit(h:bN P K M β st tmps w)(s:aM):bN P K M β (fit s st) tmps w:=
 h.sub rfl (λl bg aa=>by
  cases l with
  |slot t=>exact XW _ _ _ _ aa
  |cell q i=>
   simp only [aM.at,Ab.fit,Option.bind_eq_some_iff]at aa;obtain⟨cs',Z,ab⟩:=aa;obtain⟨cs,z,aj,rfl⟩:=Pb _ _ _ _ Z;obtain⟨e,aC,aT⟩:=XX _ _ _ _ ab;exact⟨e,by simp only [aM.at,aj,Option.bind_some];exact aC,aT⟩) (λq cs' ao=>by
   obtain⟨cs,z,aj,rfl⟩:=Pb _ _ _ _ ao;exact⟨cs,aj,(XY _ _).symm⟩)
def a_.fit{c:Code}{Q:cr→aM→Prop}(s:aM)(h:a_ P N E c Q (Ab.fit s st)):a_ P N E c Q st:=by
 rintro K eG a w ⟨he,hd,ev,M,β,cP⟩
 exact h K eG a w ⟨he,hd,ev,M,β,cP.fit s⟩
def a_.rn{c:Code}{Q:cr→aM→Prop}(s:aM)(live yp:List Nat)(n:Nat)(ai:(vB live yp n st.env st.H st.aW).map (Ab.fit s)=some b9)(b1:Nat.ble E n=true)(h:a_ P N E c Q b9):a_ P N E c Q st:=by
 simp only [Option.map_eq_some_iff]at ai;obtain⟨ata,Z,rfl⟩:=ai;exact a_.drop live yp n Z b1 (h.fit s)
def forget(oC:List Nat):List (Nat×a7)→List (Nat×a7)
 |[]=>[]
 |(t,e)::l=>(t,bif oC.any (Nat.beq t)then {d:=e.d}else e)::forget oC l
def XZ(oC:List Nat):∀(m:List (Nat×a7)) (t:Nat) (bg:a7),look (forget oC m) t=some bg→∃e,look m t=some e∧e.d=bg.d∧∀T,bg.own=some T→e.own=some T
 |[],t,bg,h=>by simp [forget,look]at h
 |(q,e)::m,t,bg,h=>by
  simp only [forget,dZ]at h ⊢;split at h
  ·rename_i ao;rw [if_pos ao];cases h;refine⟨e,rfl,?_⟩
   cases oC.any (Nat.beq q)
   ·exact⟨rfl,λ_ h=>h⟩
   ·exact⟨rfl,λT h=>by cases h⟩
  ·rename_i ao;rw [if_neg ao];exact XZ oC m t bg h
def a_.forget{c:Code}{Q:cr→aM→Prop}(oC:List Nat)(h:a_ P N E c Q {env:=Ab.forget oC st.env,H:=st.H,aW:=st.aW}):a_ P N E c Q st:=by
 rintro K eG a w ⟨he,hd,ev,M,β,cP⟩
 refine h K eG a w ⟨he,hd,ev,M,β,cP.sub rfl (λl bg aa=>?_) (λq cs ao=>⟨cs,ao,rfl⟩)⟩
 cases l with
 |slot t=>exact XZ _ _ _ _ aa
 |cell q i=>exact⟨bg,aa,rfl,λ_ h=>h⟩
end
end Go.Ab

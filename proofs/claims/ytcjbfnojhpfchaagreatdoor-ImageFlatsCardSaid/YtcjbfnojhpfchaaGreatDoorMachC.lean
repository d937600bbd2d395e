/- The abstract machine: a step of code over plain data, proved against the model. -/
import Derived.Orders
import Derived.Scope
import Derived.Recover
import Derived.Lib.Builder
import Derived.Lib.UnsafeStr
import Derived.ChangeSame
import Derived.OpenShut
import Derived.ReadAgain
import Derived.Test.YtcjbfnojhpfchaaGreatDoorMachB
set_option linter.all false
namespace Go.Ab
section
variable {P:Program} {N E:Nat} {st b8:aK}
def a_.drop{c:Code}{Q:cp→aK→Prop}(live xS:List Nat)(n:Nat)(ai:u6 live xS n st.env st.H st.aX=some b8)(b1:Nat.ble E n=true)(h:a_ P N E c Q b8):a_ P N E c Q st:=by
 rintro K eF a w ⟨he,hd,eu,M,β,cN⟩
 obtain⟨Cf,hs⟩:=cN.u6 ai (λr b hb=>Nat.lt_of_lt_of_le (eF r b hb) (by simpa using b1))
 exact h K eF a w ⟨he,hd,eu,M,Cf,hs⟩
end
def all_nil:k0 []:=trivial
def all_cons{p:Prop}{l:List Prop}(h:p)(ab:k0 l):k0 (p::l):=⟨h,ab⟩
inductive aD(α β:Type) where
 |ret (a:α) (b:β)
 |bf (x:V) (b:β)
def aD.on{α β dH:Type}(x:aD α β)(f:α→β→dH)(g:V→β→dH):dH:=
 match x with
 |.ret a b=>f a b
 |.bf x b=>g x b
def gf{b:Bool}(h:b=false):(!b)=true:=by subst h;rfl
def ye{a b:Bool}(h:a=true)(aa:b=true):(a&&b)=true:=by subst h;subst aa;rfl
inductive kB:List V→List V→Prop where
 |nil:kB [] []
 |cons {x y:V} {xs ys:List V} (h:hA x y) (ab:kB xs ys):kB (x::xs) (y::ys)
def kB.len:∀{xs ys:List V},kB xs ys→xs.length=ys.length
 |_,_,.nil=>rfl
 |_,_,.cons _ ab=>by simp [ab.len]
def kB.at:∀{xs ys:List V},kB xs ys→∀(i:Nat) {y:V},ys[i]? = some y→∃x,xs[i]? = some x∧hA x y
 |_,_,.nil,i,y,h=>by simp at h
 |_,_,.cons h ab,i,y,ce=>by
  cases i with
  |zero=>simp at ce;subst ce;exact⟨_,rfl,h⟩
  |succ i=>simp at ce;simpa using ab.at i ce
def WW{xs ys:List V}(h:kB xs ys):hA (.agg xs) (.agg ys):=by
 intro M v aw;cases aw with
 |agg vs cs hn Z ai=>
  refine .agg vs ys (hn.trans h.len) Z (λi v c aw hc=>?_)
  obtain⟨x,hx,hi⟩:=h.at i hc;exact hi M v (ai i v x aw hx)
def agr{k n:Nat}{g e0:Nat→V}(h:∀i,i<n→kB (g i).cells (e0 i).cells):hA (.bH k n g) (.bH k n e0):=by
 intro M v aw;cases aw with
 |md=>exact .md _ _
 |pC=>exact .pC _ _ _
 |bH b off k n cap g val hc hk cT Z ai=>
  refine .bH b off k n cap e0 val hc (λi hi=>by rw [←(h i hi).len];exact hk i hi) cT Z (λi j c hi lX=>?_)
  obtain⟨x,hx,ags⟩:=(h i hi).at j lX;exact ags M _ (ai i j x hi hx)
inductive l3{α:Type}(e:α→V):List V→List α→Prop where
 |nil:l3 e [] []
 |cons {x:V} {y:α} {xs:List V} {ys:List α} (h:kB x.cells (e y).cells) (ab:l3 e xs ys):l3 e (x::xs) (y::ys)
def l3.len{α:Type}{e:α→V}:∀{xs:List V} {ys:List α},l3 e xs ys→xs.length=ys.length
 |_,_,.nil=>rfl
 |_,_,.cons _ ab=>by simp [ab.len]
def l3.at{α:Type}[Inhabited α]{e:α→V}:∀{xs:List V} {ys:List α},l3 e xs ys→∀(i:Nat),i<ys.length→kB (xs.getD i .eA).cells (e (ys.getD i default)).cells
 |_,_,.nil,i,h=>by simp at h
 |_,_,.cons h ab,i,ce=>by
  cases i with
  |zero=>simpa using h
  |succ i=>simpa using ab.at i (by simpa using ce)
def GI{α:Type}[Inhabited α]{k:Nat}{e:α→V}{xs:List V}{l:List α}(h:l3 e xs l)(n:Nat)(hn:n=l.length):hA (.bH k n λi=>xs.getD i .eA) (ah k e l):=by
 subst hn;exact agr λi hi=>h.at i hi
section
variable {tt:dI} {g1 g2:dk} {p:Path} {o:Oper} {ops:List Oper} {cd:gD}
def N8{x:Operand}(h:∀t,x = .tmp t→look g1.env t=look g2.env t∧look g1.b5 t=look g2.b5 t)(p:Path)(ty:TypeId):rd g1.env g1.b5 p tt ty x=rd g2.env g2.b5 p tt ty x:=by
 cases x with
 |tmp t=>
  obtain⟨Z,aa⟩:=h t rfl;simp only [rd,Z,aa]
 |const v=>cases v with
  |slice a n c=>cases a<;>cases n<;>cases c<;>rfl
  |_=>rfl
 |global _=>rfl
 |func _=>rfl
def agt{x:Operand}(h:∀t,x = .tmp t→look g1.env t=look g2.env t):pE g1 x=pE g2 x:=by
 cases x with
 |tmp t=>simp only [pE,h t rfl]
 |_=>rfl
def Cg{α β:Type}{f tO:α→Option β}:∀{l:List α},(∀x,x∈l→f x=tO x)→mapM' f l=mapM' tO l
 |[],_=>rfl
 |x::l,h=>by simp only [mapM',h x (by simp),Cg (l:=l) λy ce=>h y (by simp [ce])]
def N9{f tO:TypeId→Operand→Option D}:∀{l:List Operand} {ts:List TypeId},(∀x,x∈l→∀t,f t x=tO t x)→lV f l ts=lV tO l ts
 |[],_,_=>by simp [lV]
 |x::l,[],_=>by simp [lV]
 |x::l,t::ts,h=>by simp only [lV,h x (by simp) t,N9 (l:=l) (ts:=ts) λy ce=>h y (by simp [ce])]
def iW(tt:dI)(g:dk)(p:Path)(o:Oper):List Nat:=
 match o.op with
 |.alloc _ |.box _ _=>match o.dst.bind (look g.ids)with |some id=>[id] |none=>[]
 |.load _ a=>match rd g.env g.b5 p tt o.type a with |some (.ptr q _)=>[q] |_=>[]
 |.store _ a _=>match rd g.env g.b5 p tt o.type a with |some (.ptr q _)=>[q] |_=>[]
 |.call c=>match c.callee with
  |.value x=>match rd g.env g.b5 p tt o.type x,lV (rd g.env g.b5 p tt) c.args.toList c.argTypes.toList with
   |some (.fn _ fc),some ds=>oQ g.H 2 (dedup ((ds++fc).flatMap refs))
   |_,_=>[]
  |_=>[]
 |_=>[]
def GJ{x:Nat}:∀{l:List Nat},x∈l→x∈dedup l
 |y::l,h=>by
  simp only [dedup];rw [Bool.cond_eq_ite];split
  ·rename_i ce;rcases List.mem_cons.1 h with rfl|h
   ·obtain⟨z,dw,agu⟩:=List.any_eq_true.1 ce;have:x=z:=by simpa using agu
    subst this;exact dw
   ·exact GJ h
  ·rcases List.mem_cons.1 h with rfl|h
   ·simp
   ·exact List.mem_cons_of_mem _ (GJ h)
def WX{H:List (Nat×List a7)}:∀{n:Nat} {l:List Nat} {x:Nat},x∈l→x∈oQ H n l
 | 0,_,_,h=>h
 |n+1,_,_,h=>WX (n:=n) (GJ (List.mem_append_left _ h))
def WY{α β:Type}{f tO:α→List β}:∀{l:List α},(∀x,x∈l→f x=tO x)→l.flatMap f=l.flatMap tO
 |[],_=>rfl
 |x::l,h=>by simp only [List.flatMap_cons,h x (by simp),WY (l:=l) λy ce=>h y (by simp [ce])]
def N'{H1 cJ:List (Nat×List a7)}:∀{n:Nat} {l:List Nat},(∀q,q∈oQ H1 n l→look H1 q=look cJ q)→oQ H1 n l=oQ cJ n l
 | 0,_,_=>rfl
 |n+1,l,h=>by
  simp only [oQ]at h ⊢
  have:(l.flatMap λr=>((look H1 r).getD []).flatMap λe=>refs e.d)=l.flatMap λr=>((look cJ r).getD []).flatMap λe=>refs e.d:=
   WY λr ai=>by rw [h r (WX (GJ (List.mem_append_left _ ai)))]
  rw [←this];exact N' h
def WZ{H1 cJ:List (Nat×List a7)}:∀{l:List Nat},(∀q,q∈l→look H1 q=look cJ q)→boxes H1 l=boxes cJ l
 |[],_=>rfl
 |r::l,h=>by simp only [boxes,h r (by simp),WZ (l:=l) λq ao=>h q (by simp [ao])]
def W0{xs:List Operand}{ts:List TypeId}(hs:∀t,Operand.tmp t∈xs→look g1.env t=look g2.env t∧look g1.b5 t=look g2.b5 t):∀os:List Nat,handed tt g1 xs ts os=handed tt g2 xs ts os
 |[]=>rfl
 |i::os=>by
  simp only [handed,W0 hs os];split
  ·rename_i t l hx ab;obtain⟨Z,aa⟩:=hs t (List.mem_of_getElem? hx);rw [Z,aa]
  ·rfl
  ·rfl
def agv{xs:List Operand}{ts:List TypeId}{f:FuncId}{args:List D}(hs:∀t,Operand.tmp t∈xs→look g1.env t=look g2.env t∧look g1.b5 t=look g2.b5 t)(eX:g1.rs=g2.rs)(fj:∀q,q∈oQ g1.H 2 (dedup (args.flatMap refs))→look g1.H q=look g2.H q):xL cd tt g1 p xs ts f args=xL cd tt g2 p xs ts f args:=by
 have Z:oQ g1.H 2 (dedup (args.flatMap refs))=oQ g2.H 2 (dedup (args.flatMap refs)):=N' fj;unfold xL;simp only [←Z,←eX,←WZ fj,←λos=>W0 (tt:=tt) (ts:=ts) hs os]
def q0(o:Oper):Bool:=
 match o.op with
 |.alloc _ |.box _ _=>true
 |_=>false
def W1(q1:g1.ids=g2.ids)(hn:g1.aX=g2.aX)(fj:∀id,o.dst.bind (look g1.ids)=some id→look g1.H id=look g2.H id):n5 g1 o=n5 g2 o:=by
 unfold n5;rw [←q1,←hn];split
 ·rename_i id h;rw [fj id h]
 ·rfl
def N_(hs:∀x,x∈o.op.operands.toList→∀t,x = .tmp t→look g1.env t=look g2.env t∧look g1.b5 t=look g2.b5 t)(eX:g1.rs=g2.rs)(q1:g1.ids=g2.ids)
 (hn:q0 o=true→g1.aX=g2.aX) (fj:∀q,q∈iW tt g1 p o→look g1.H q=look g2.H q):step1 cd tt ops g1 p o=step1 cd tt ops g2 p o:=by
 have R:∀x,x∈o.op.operands.toList→∀p ty,rd g1.env g1.b5 p tt ty x=rd g2.env g2.b5 p tt ty x:=λx hx p ty=>N8 (hs x hx) p ty
 have O:∀x,x∈o.op.operands.toList→pE g1 x=pE g2 x:=λx hx=>agt λt aF=>(hs x hx t aF).1
 cases av:o.op with
 |move x=>simp only [av,Op.operands]at R O;simp only [step1,av,R x (by simp),O x (by simp),eX]
 |assign x=>simp only [av,Op.operands]at R O;simp only [step1,av,R x (by simp),O x (by simp),eX]
 |pick c a b=>
  simp only [av,Op.operands]at R O;cases c with
  |tmp c=>simp only [step1,av,R (.tmp c) (by simp),R a (by simp),R b (by simp),eX]
  |_=>simp only [step1,av]
 |alloc t=>
  have hi:n5 g1 o=n5 g2 o:=W1 q1 (hn (by simp [q0,av])) λid hid=>fj id (by simp [iW,av,hid])
  simp only [step1,av,eX,hi]
 |box t x=>
  have hi:n5 g1 o=n5 g2 o:=W1 q1 (hn (by simp [q0,av])) λid hid=>fj id (by simp [iW,av,hid])
  simp only [av,Op.operands]at R O;simp only [step1,av,R x (by simp),eX,hi]
 |build t parts=>
  simp only [av,Op.operands]at R O
  have:mapM' (fun(i,x)=>(rd g1.env g1.b5 p tt (r' tt t i) x).map λd=>(i,d)) parts.toList=mapM' (fun(i,x)=>(rd g2.env g2.b5 p tt (r' tt t i) x).map λd=>(i,d)) parts.toList:=
   Cg λy ce=>by
    obtain⟨i,x⟩:=y;simp only [R x (List.mem_map.2 ⟨(i,x),ce,rfl⟩)]
  simp only [step1,av,this,eX]
 |buildSlice t len parts=>
  simp only [av,Op.operands]at R O
  have:mapM' (fun(i,x)=>(rd g1.env g1.b5 p tt (r' tt t i) x).map λd=>(i,d)) parts.toList=mapM' (fun(i,x)=>(rd g2.env g2.b5 p tt (r' tt t i) x).map λd=>(i,d)) parts.toList:=
   Cg λy ce=>by
    obtain⟨i,x⟩:=y;simp only [R x (List.mem_map.2 ⟨(i,x),ce,rfl⟩)]
  simp only [step1,av,this,eX]
 |load t a=>
  simp only [av,Op.operands]at R O;simp only [iW,av,R a (by simp)]at fj
  simp only [step1,av,R a (by simp),eX]
  split
  ·rename_i q off aS ha Gw;simp only [ha]at fj;simp only [fj q (by simp)]
  ·rfl
  ·rfl
 |store t a x=>
  simp only [av,Op.operands]at R O;simp only [iW,av,R a (by simp)]at fj
  simp only [step1,av,R a (by simp),R x (by simp),O x (by simp),eX]
  split
  ·rename_i q off d aS ha hd Gw;simp only [ha]at fj;simp only [fj q (by simp)]
  ·rfl
 |nilCheck x=>simp only [av,Op.operands]at R O;simp only [step1,av,R x (by simp),eX]
 |binOp op t x y t2=>simp only [av,Op.operands]at R O;simp only [step1,av,R x (by simp),R y (by simp),eX]
 |unOp op t x=>simp only [av,Op.operands]at R O;simp only [step1,av,R x (by simp),eX]
 |convert s t x=>simp only [av,Op.operands]at R O;simp only [step1,av,R x (by simp),eX]
 |makeInterface t x=>simp only [av,Op.operands]at R O;simp only [step1,av,R x (by simp),eX]
 |makeFunc fn first fc=>
  simp only [av,Op.operands]at R O;cases fn with
  |func f=>
   have:mapM' (rd g1.env g1.b5 p tt o.type) fc.toList=mapM' (rd g2.env g2.b5 p tt o.type) fc.toList:=Cg λx hx=>R x (by rw [Array.toList_append];exact List.mem_append_right _ hx) _ _
   simp only [step1,av,this,eX]
  |_=>simp only [step1,av]
 |slice t x lo hi j_=>
  simp only [av,Op.operands]at R O
  have kf:lo.map (rd g1.env g1.b5 p tt o.type)=lo.map (rd g2.env g2.b5 p tt o.type):=by
   cases lo with
   |none=>rfl
   |some l=>simp [R l (by simp)]
  have jz:hi.map (rd g1.env g1.b5 p tt o.type)=hi.map (rd g2.env g2.b5 p tt o.type):=by
   cases hi with
   |none=>rfl
   |some l=>simp [R l (by simp)]
  have Oa:j_.map (rd g1.env g1.b5 p tt o.type)=j_.map (rd g2.env g2.b5 p tt o.type):=by
   cases j_ with
   |none=>rfl
   |some m=>simp [R m (by simp)]
  simp only [step1,av,R x (by simp),kf,jz,Oa,eX]
 |fieldAddr s x f=>simp only [av,Op.operands]at R O;simp only [step1,av,R x (by simp),eX]
 |field s x f=>simp only [av,Op.operands]at R O;simp only [step1,av,R x (by simp),eX]
 |indexAddr t x i=>simp only [av,Op.operands]at R O;simp only [step1,av,R x (by simp),R i (by simp),eX]
 |index t x i=>simp only [av,Op.operands]at R O;simp only [step1,av,R x (by simp),R i (by simp),eX]
 |typeAssert x a t ok=>simp only [av,Op.operands]at R O;simp only [step1,av,R x (by simp),eX]
 |extract x i=>simp only [av,Op.operands]at R O;simp only [step1,av,R x (by simp),eX]
 |panic x=>simp only [av,Op.operands]at R O;simp only [step1,av,R x (by simp)]
 |call c=>
  simp only [av,Op.operands,Call.operands]at R O hs;cases hc:c.callee with
  |value x=>
   have hx:=R x (by simp [hc])
   have ha:lV (rd g1.env g1.b5 p tt) c.args.toList c.argTypes.toList=lV (rd g2.env g2.b5 p tt) c.args.toList c.argTypes.toList:=N9 λy ce t=>R y (by rw [Array.toList_append];exact List.mem_append_right _ ce) p t
   simp only [iW,av,hc,hx,ha]at fj;simp only [step1,av,hc,hx,ha];split
   ·rename_i f fc ds Z aa;simp only [Z,aa]at fj;exact agv (λt aF=>hs (.tmp t) (by rw [Array.toList_append];exact List.mem_append_right _ aF) t rfl) eX fj
   ·rfl
  |invoke x m=>simp only [step1,av,hc]
  |builtin b=>
   have ha:mapM' (λy=>rd g1.env g1.b5 p tt o.type y) c.args.toList=mapM' (λy=>rd g2.env g2.b5 p tt o.type y) c.args.toList:=Cg λx hx=>R x (by rw [Array.toList_append];exact List.mem_append_right _ hx) _ _
   cases b with
   |len=>simp only [step1,av,hc,ha,eX]
   |min=>simp only [step1,av,hc,ha,eX]
   |max=>simp only [step1,av,hc,ha,eX]
   |append=>
    simp only [step1,av,hc,eX];split
    ·rename_i t x e fV ass ast _ t2 ab _ _;have hm:∀y,y∈[Operand.tmp t,x]→y∈(match c.callee with|.value f => #[f] |.invoke r _ => #[r] |.builtin _ => #[]:Array Operand).toList++c.args.toList:=λy ce=>by rw [ab];exact List.mem_append_right _ ce
     have kg:∀y,y∈[Operand.tmp t,x]→y∈((match c.callee with|.value f => #[f] |.invoke r _ => #[r] |.builtin _ => #[]:Array Operand)++c.args).toList:=λy ce=>by rw [Array.toList_append];exact hm y ce
     simp only [R (.tmp t) (kg _ (by simp)),R x (kg _ (by simp)),(hs (.tmp t) (kg _ (by simp)) t rfl).1]
    ·rfl
   |_=>simp only [step1,av,hc]
 |_=>simp only [step1,av]
end
structure ev where
 dst:Option Nat
 p:Path
 f:lm
 kh:List Nat
 nu:List Nat
 pS:Bool
 rs:List fu
 kd:Nat:=0
 vH:V:=.eA
 pT:List (Nat×List a7):=[]
 tP:List (Nat×List a7):=[]
 og:Nat:=0
def pU(ops:List Oper)(o:Oper):List Nat:=
 (o.op.operands.toList.filterMap fun|.tmp t=>some t|_=>none)++(match o.guard with
  |some (j,_)=>((ops[j]?).bind (·.dst)).toList
  |none=>[])
def eD(E:ev)(g:dk):dk:=
 match E.dst with
 |none=>{g with env:=hB E.f.hJ g.env,H:=E.f.hs++g.H,aX:=g.aX+E.f.eP}
 |some t=>match E.p with
  |[]=>{g with
   env:=match E.f.e with|some e=>(t,e)::hB E.f.hJ g.env|none=>del (hB E.f.hJ g.env) t
   b5:=del g.b5 t,H:=E.f.hs++g.H,aX:=g.aX+E.f.eP}
  |_::_=>match E.f.e with
   |some e=>{g with env:=del g.env t,b5:=(t,E.p,e.d)::del g.b5 t}
   |none=>g
def oh(E:ev):List Nat:=E.dst.toList++E.f.hJ
def o2(E:ev):List Nat:=E.f.hs.map (·.1)
def yf{α:Type}:∀(a b:List (Nat×α)) (q:Nat),look (a++b) q=(match look a q with|some x=>some x|none=>look b q)
 |[],_,_=>rfl
 |(j,x)::a,b,q=>by
  simp only [List.cons_append,dX,yf a b q];by_cases h:j=q<;>simp [h]
def W2{α:Type}:∀{a:List (Nat×α)} {q:Nat},q∉a.map (·.1)→look a q=none
 |[],_,_=>rfl
 |(j,x)::a,q,h=>by
  simp only [List.map_cons,List.mem_cons,not_or]at h;rw [dX,if_neg (Ne.symm h.1)];exact W2 h.2
section
variable {E:ev} {g g1 g2:dk}
def m4(g1 g2:dk)(t:Nat):Prop:=look g1.env t=look g2.env t∧look g1.b5 t=look g2.b5 t
def vI(g1 g2:dk)(q:Nat):Prop:=look g1.H q=look g2.H q
def vJ{t:Nat}(h:t∉oh E):m4 (eD E g) g t:=by
 simp only [oh,List.mem_append,not_or]at h;unfold m4 eD;cases hd:E.dst with
 |none=>simp only [n9,if_neg h.2,and_self]
 |some u=>
  have hu:u≠t:=by rintro rfl;simp [hd]at h
  cases hp:E.p with
  |nil=>
   dsimp only
   cases he:E.f.e with
   |some e=>simp only [dX,if_neg hu,n9,if_neg h.2,qN,and_self]
   |none=>simp only [n9,if_neg h.2,qN,if_neg hu,and_self]
  |cons x p=>
   dsimp only
   cases he:E.f.e with
   |some e=>simp only [dX,if_neg hu,qN,and_self]
   |none=>exact⟨rfl,rfl⟩
def Ob{t:Nat}(h:m4 g1 g2 t):m4 (eD E g1) (eD E g2) t:=by
 obtain⟨Z,aa⟩:=h;unfold m4 eD;cases hd:E.dst with
 |none=>simp only [n9,Z,aa,and_self]
 |some u=>
  cases hp:E.p with
  |nil=>
   dsimp only
   cases he:E.f.e with
   |some e=>simp only [dX,n9,Z,aa,qN,and_self]
   |none=>simp only [n9,qN,Z,aa,and_self]
  |cons x p=>
   dsimp only
   cases he:E.f.e with
   |some e=>simp only [dX,qN,Z,aa,and_self]
   |none=>exact⟨Z,aa⟩
def Oc:(eD E g).H=E.f.hs++g.H∨(eD E g).H=g.H:=by
 unfold eD;cases E.dst with
 |none=>exact .inl rfl
 |some u=>
  cases E.p with
  |nil=>exact .inl rfl
  |cons x p=>dsimp only;cases E.f.e<;>exact .inr rfl
def yg{q:Nat}(h:q∉o2 E):vI (eD E g) g q:=by
 unfold vI;rcases Oc (E:=E) (g:=g)with Z|Z<;>rw [Z]
 rw [yf,W2 h]
def Od{q:Nat}(h:vI g1 g2 q):vI (eD E g1) (eD E g2) q:=by
 unfold vI at *;unfold eD;cases E.dst with
 |none=>simp only [yf,h]
 |some u=>
  cases E.p with
  |nil=>simp only [yf,h]
  |cons x p=>dsimp only;cases E.f.e<;>exact h
def yh(E:ev):Nat:=
 match E.dst with
 |none=>E.f.eP
 |some _=>match E.p with
  |[]=>E.f.eP
  |_::_=>0
def GK:(eD E g).aX=g.aX+yh E:=by
 unfold eD yh;cases E.dst with
 |none=>rfl
 |some u=>
  cases E.p with
  |nil=>rfl
  |cons x p=>dsimp only;cases E.f.e<;>rfl
structure Alike(g1 g2:dk):Prop where
 slot:∀t,m4 g1 g2 t
 box:∀q,vI g1 g2 q
 aX:g1.aX=g2.aX
 ids:g1.ids=g2.ids
def GL:(eD E g).ids=g.ids:=by
 unfold eD;cases E.dst with
 |none=>rfl
 |some u=>
  cases E.p with
  |nil=>rfl
  |cons x p=>dsimp only;cases E.f.e<;>rfl
def Alike.refl:Alike g g:=⟨λ_=>⟨rfl,rfl⟩,λ_=>rfl,rfl,rfl⟩
def Alike.symm(h:Alike g1 g2):Alike g2 g1:=⟨λt=>⟨(h.slot t).1.symm,(h.slot t).2.symm⟩,λq=>(h.box q).symm,h.aX.symm,h.ids.symm⟩
def Alike.trans{g3:dk}(h:Alike g1 g2)(cM:Alike g2 g3):Alike g1 g3:=⟨λt=>⟨(h.slot t).1.trans (cM.slot t).1,(h.slot t).2.trans (cM.slot t).2⟩,λq=>(h.box q).trans (cM.box q),h.aX.trans cM.aX,h.ids.trans cM.ids⟩
def Alike.ap(h:Alike g1 g2):Alike (eD E g1) (eD E g2):=
 ⟨λt=>Ob (h.slot t),λq=>Od (h.box q),(by simp only [GK,h.aX]),by simp only [GL,h.ids]⟩
def sep(a b:List Nat):Bool:=a.all λx=>!b.any (Nat.beq x)
def vK{a b:List Nat}(h:sep a b=true){x:Nat}(ha:x∈a):x∉b:=by
 intro hb;have:=List.all_eq_true.1 h x ha
 simp only [Bool.not_eq_true',List.any_eq_false]at this;exact this x hb (by simp)
def Ch(E df:ev):Bool:=
 sep (oh E) df.nu&&sep (oh E) (oh df)&&sep (oh df) E.nu&&(sep (o2 E) df.kh||Nat.beq E.og 2&&Nat.beq df.og 1)&&sep (o2 E) (o2 df)&&(sep (o2 df) E.kh||Nat.beq df.og 2&&Nat.beq E.og 1)&&(!E.pS||Nat.beq (yh df) 0)&&(!df.pS||Nat.beq (yh E) 0)
def agw{E df:ev}(Z:sep (oh E) (oh df)=true)(aa:sep (o2 E) (o2 df)=true):Alike (eD E (eD df g)) (eD df (eD E g)):=by
 refine⟨λt=>?_,λq=>?_,?_,by simp only [GL]⟩
 ·by_cases aF:t∈oh E
  ·have eK:=vK Z aF;have a:m4 (eD E (eD df g)) (eD E g) t:=Ob (vJ eK);have b:m4 (eD df (eD E g)) (eD E g) t:=vJ eK;exact⟨a.1.trans b.1.symm,a.2.trans b.2.symm⟩
  ·have a:m4 (eD E (eD df g)) (eD df g) t:=vJ aF;have b:m4 (eD df (eD E g)) (eD df g) t:=Ob (vJ aF);exact⟨a.1.trans b.1.symm,a.2.trans b.2.symm⟩
 ·by_cases aF:q∈o2 E
  ·have eK:=vK aa aF;exact(Od (E:=E) (yg (E:=df) (g:=g) eK)).trans (yg (E:=df) (g:=eD E g) eK).symm
  ·exact(yg (E:=E) (g:=eD df g) aF).trans (Od (E:=df) (yg (E:=E) (g:=g) aF)).symm
 ·simp only [GK];omega
end
section
variable {tt:dI} {ops:List Oper} {cd:gD} {o:Oper} {E:ev} {g g1 g2:dk}
def W3(h:∀t,t∈pU ops o→m4 g1 g2 t):pG ops g1 o=pG ops g2 o:=by
 unfold pG;split
 ·rfl
 ·rename_i j w hg;cases aF:(ops[j]?).bind (·.dst) with
  |none=>rfl
  |some t=>
   have:=h t (by simp [pU,hg,aF])
   simp only [this.1,this.2]
def GM:∀{p:Path} {q:Prop},(∀x,x∈p→m4 g1 g2 x.1)→under g1 p q=under g2 p q
 |[],_,_=>rfl
 |(t,w)::p,q,h=>by
  have aF:=h (t,w) (by simp)
  have aH:=GM (p:=p) (q:=q) λx hx=>h x (by simp [hx])
  have:Bw g1.env g1.b5 t=Bw g2.env g2.b5 t:=by unfold Bw;rw [aF.1,aF.2]
  simp only [under,this,aH]
def agx{p:Path}(hs:∀x,x∈o.op.operands.toList→∀t,x = .tmp t→look g1.env t=look g2.env t∧look g1.b5 t=look g2.b5 t)(q1:g1.ids=g2.ids)(fj:∀q,q∈iW tt g1 p o→look g1.H q=look g2.H q):iW tt g1 p o=iW tt g2 p o:=by
 have R:∀x,x∈o.op.operands.toList→∀p ty,rd g1.env g1.b5 p tt ty x=rd g2.env g2.b5 p tt ty x:=λx hx p ty=>N8 (hs x hx) p ty
 cases av:o.op with
 |alloc t=>simp only [iW,av,q1]
 |box t x=>simp only [iW,av,q1]
 |load t a=>simp only [av,Op.operands]at R;simp only [iW,av,R a (by simp)]
 |store t a x=>simp only [av,Op.operands]at R;simp only [iW,av,R a (by simp)]
 |call c=>
  simp only [av,Op.operands,Call.operands]at R;cases hc:c.callee with
  |value x=>
   have hx:=R x (by simp [hc])
   have ha:lV (rd g1.env g1.b5 p tt) c.args.toList c.argTypes.toList=lV (rd g2.env g2.b5 p tt) c.args.toList c.argTypes.toList:=N9 λy ce t=>R y (by rw [Array.toList_append];exact List.mem_append_right _ ce) p t
   simp only [iW,av,hc,hx,ha]at fj ⊢;split
   ·rename_i f fc ds Z aa;simp only [Z,aa]at fj;exact N' fj
   ·rfl
  |_=>simp only [iW,av,hc]
 |_=>simp only [iW,av]
structure Oe(cd:gD)(tt:dI)(ops:List Oper)(o:Oper)(E:ev)(g:dk):Prop where
 GN:pG ops g o=some E.p
 st:step1 cd tt ops {g with rs:=E.rs} E.p o=some (bif Nat.beq E.kd 0 then .go E.f else .bf E.vH E.pT E.f.a6)
 a6:∀q,q∈E.f.a6→under g E.p q
 kh:∀q,q∈iW tt g E.p o→q∈E.kh
 fin:E.kd=1→∀q,q∈E.kh→look g.H q=look E.tP q
def Can(cd:gD)(tt:dI)(ops:List Oper)(o:Oper)(E:ev)(g:dk):Prop:=E.kd=2∨Oe cd tt ops o E g
def Can.congr(h:Can cd tt ops o E g1)(vL:∀t,t∈pU ops o++E.p.map (·.1)→t∈E.nu)(GO:q0 o=E.pS)(hs:∀t,t∈E.nu→m4 g1 g2 t)(hb:∀q,q∈E.kh→vI g1 g2 q)(hn:E.pS=true→g1.aX=g2.aX)(q1:g1.ids=g2.ids):Can cd tt ops o E g2:=by
 rcases h with h|h
 ·exact .inl h
 right
 have dV:∀x,x∈o.op.operands.toList→∀t,x = .tmp t→look g1.env t=look g2.env t∧look g1.b5 t=look g2.b5 t:=by
  rintro x hx t rfl
  exact hs t (vL t (List.mem_append_left _ (by simp only [pU,List.mem_append,List.mem_filterMap];exact .inl ⟨_,hx,rfl⟩)))
 have l2:iW tt g1 E.p o=iW tt g2 E.p o:=agx dV q1 (λq ao=>hb q (h.kh q ao))
 refine⟨?_,?_,λq ao=>?_,(by rw [←l2];exact h.kh),λhk q ao=>(hb q ao).symm.trans (h.fin hk q ao)⟩
 ·rw [←W3 (g1:=g1) (g2:=g2) λt aF=>hs t (vL t (List.mem_append_left _ aF))];exact h.GN
 ·rw [←h.st];refine(N_ (g1:={g1 with rs:=E.rs}) (g2:={g2 with rs:=E.rs}) dV rfl q1 (λhm=>hn (by rw [←GO];exact hm)) (λq ao=>hb q ?_)).symm
  exact h.kh q ao
 ·rw [←GM (g1:=g1) (g2:=g2) λx hx=>hs x.1 (vL _ (List.mem_append_right _ (List.mem_map.2 ⟨x,hx,rfl⟩)))]
  exact h.a6 q ao
def vM(o:Oper)(rs:List fu):Nat:=
 match o.op with
 |.load _ _=>match rs with
  |.own::_=>2
  |_=>1
 |_=>0
def tQ(g1 g2:dk)(q:Nat):Prop:=(look g1.H q).map (·.map (·.d))=(look g2.H q).map (·.map (·.d))
def W4:∀(cs:List a7) (off:Nat) (e:a7),cs[off]? = some e→(setAt cs off [{d:=e.d}]).map (·.d)=cs.map (·.d)
 |[],off,e,h=>by simp at h
 |c::cs,0,e,h=>by
  simp only [List.getElem?_cons_zero,Option.some.injEq]at h;subst h;simp [setAt]
 |c::cs,off+1,e,h=>by
  simp only [List.getElem?_cons_succ]at h;simp only [setAt,List.map_cons,W4 cs off e h]
def agy(h:Oe cd tt ops o E g)(ab:vM o E.rs=2)(hk:E.kd=0)(q:Nat):tQ (eD E g) g q:=by
 have dx:=h.st;rw [hk]at dx;unfold vM at ab;split at ab
 case h_2=>cases ab
 rename_i t a av;simp only [step1,av,show Nat.beq 0 0=true from rfl,cond_true]at dx
 have nil:E.f.hs=[]→tQ (eD E g) g q:=by
  intro bm;unfold tQ;rcases Oc (E:=E) (g:=g)with Z|Z<;>rw [Z]
  rw [bm];rfl
 split at dx
 ·rename_i agz off aS ai cX;split at dx
  ·rename_i cs et;rw [Bool.cond_eq_ite]at dx;split at dx
   ·rw [Bool.cond_eq_ite]at dx;split at dx
    ·simp only [Option.map_some,Option.some.injEq,n4.go.injEq]at dx;exact nil (by rw [←dx])
    ·cases dx
   ·split at dx
    ·rename_i e he;split at dx
     ·rw [Bool.cond_eq_ite]at dx;split at dx
      ·simp only [Option.some.injEq,n4.go.injEq]at dx;unfold tQ;rcases Oc (E:=E) (g:=g)with Z|Z<;>rw [Z]
       rw [←dx];simp only [List.cons_append,List.nil_append,dX];split
       ·rename_i ao;subst ao;rw [et];simp only [Option.map_some,W4 cs off e he]
       ·rfl
      ·cases dx
     ·simp only [Option.map_some,Option.some.injEq,n4.go.injEq]at dx;exact nil (by rw [←dx])
    ·cases dx
  ·cases dx
 ·rename_i x aS ai cX;rw [Bool.cond_eq_ite]at dx;split at dx
  ·simp only [Option.map_some,Option.some.injEq,n4.go.injEq]at dx;exact nil (by rw [←dx])
  ·cases dx
 ·cases dx
def agA{p:Path}{rs:List fu}{t:TypeId}{a:Operand}(av:o.op = .load t a)(eX:∀l,rs ≠ .own::l)(R:rd g1.env g1.b5 p tt o.type a=rd g2.env g2.b5 p tt o.type a)(agB:∀q off,rd g2.env g2.b5 p tt o.type a=some (.ptr q off)→tQ g1 g2 q):
 step1 cd tt ops {g1 with rs:=rs} p o=step1 cd tt ops {g2 with rs:=rs} p o:=by
 simp only [step1,av,R];split
 ·rename_i q off aS ai cX;have hd:=agB q off ai;unfold tQ at hd;cases Z:look g1.H q with
  |none=>
   rw [Z]at hd;cases aa:look g2.H q with
   |none=>rfl
   |some c2=>rw [aa]at hd;cases hd
  |some c1=>
   rw [Z]at hd;cases aa:look g2.H q with
   |none=>rw [aa]at hd;cases hd
   |some c2=>
    rw [aa]at hd;simp only [Option.map_some,Option.some.injEq]at hd;have hlen:c1.length=c2.length:=by have:=congrArg List.length hd;simpa using this
    have agC:((c1.drop off).take aS.size).map (·.d)=((c2.drop off).take aS.size).map (·.d):=by rw [List.map_take,List.map_drop,hd,←List.map_drop,←List.map_take]
    have iT:(c1[off]?).map (·.d)=(c2[off]?).map (·.d):=by rw [←List.getElem?_map,hd,List.getElem?_map]
    simp only [hlen,agC];cases aS.k.isAgg with
    |true=>rfl
    |false=>
     simp only [cond_false];cases W5:c1[off]? with
     |none=>
      rw [W5]at iT;cases GP:c2[off]? with
      |none=>rfl
      |some e2=>rw [GP]at iT;cases iT
     |some e1=>
      rw [W5]at iT;cases GP:c2[off]? with
      |none=>rw [GP]at iT;cases iT
      |some e2=>
       rw [GP]at iT;simp only [Option.map_some,Option.some.injEq]at iT;cases rs with
       |nil=>cases e1.own<;>cases e2.own<;>simp [iT]
       |cons r l=>
        cases r with
        |own=>exact absurd rfl (eX l)
        |val x=>cases e1.own<;>cases e2.own<;>simp [iT]
        |raw=>cases e1.own<;>cases e2.own<;>simp [iT]
        |call u v z=>cases e1.own<;>cases e2.own<;>simp [iT]
 ·rfl
 ·rfl
def Can.W6(h:Can cd tt ops o E g1)(ab:vM o E.rs=1)(hk:E.kd=0)(vL:∀t,t∈pU ops o++E.p.map (·.1)→t∈E.nu)(hs:∀t,t∈E.nu→m4 g1 g2 t)(hb:∀q,tQ g1 g2 q):Can cd tt ops o E g2:=by
 rcases h with h|h
 ·exact .inl h
 right
 have dV:∀x,x∈o.op.operands.toList→∀t,x = .tmp t→look g1.env t=look g2.env t∧look g1.b5 t=look g2.b5 t:=by
  rintro x hx t rfl
  exact hs t (vL t (List.mem_append_left _ (by simp only [pU,List.mem_append,List.mem_filterMap];exact .inl ⟨_,hx,rfl⟩)))
 unfold vM at ab;split at ab
 case h_2=>cases ab
 rename_i t a av
 have eX:∀l,E.rs ≠ .own::l:=by
  intro l e;rw [e]at ab;cases ab
 have R:rd g1.env g1.b5 E.p tt o.type a=rd g2.env g2.b5 E.p tt o.type a:=N8 (dV a (by simp [av,Op.operands])) _ _
 have l2:iW tt g1 E.p o=iW tt g2 E.p o:=by simp only [iW,av,R]
 refine⟨?_,?_,λq ao=>?_,(by rw [←l2];exact h.kh),λsr=>by rw [hk]at sr;cases sr⟩
 ·rw [←W3 (g1:=g1) (g2:=g2) λt aF=>hs t (vL t (List.mem_append_left _ aF))];exact h.GN
 ·rw [←h.st];exact(agA av eX R λq off _=>hb q).symm
 ·rw [←GM (g1:=g1) (g2:=g2) λx hx=>hs x.1 (vL _ (List.mem_append_right _ (List.mem_map.2 ⟨x,hx,rfl⟩)))]
  exact h.a6 q ao
end
def gK(ops:List Oper)(o:Oper)(E:ev):Bool:=agD (pU ops o++E.p.map (·.1)) E.nu&&(q0 o == E.pS)&&decide (E.dst=o.dst)&&(match E.f.rs with|[]=>true|_=>false)&&(Nat.beq E.og 0||Nat.beq E.og (vM o E.rs)&&Nat.beq E.kd 0)
where agD (a b:List Nat):Bool:=a.all λx=>b.any (Nat.beq x)
def GQ{ops:List Oper}{o:Oper}{E:ev}(h:gK ops o E=true):(∀t,t∈pU ops o++E.p.map (·.1)→t∈E.nu)∧q0 o=E.pS∧E.dst=o.dst∧E.f.rs=[]:=by
 simp only [gK,Bool.and_eq_true,beq_iff_eq,decide_eq_true_eq]at h;obtain⟨⟨⟨⟨Z,aa⟩,aj⟩,aC⟩,_⟩:=h;refine⟨λt aF=>?_,aa,aj,?_⟩
 ·obtain⟨y,ce,gV⟩:=List.any_eq_true.1 (List.all_eq_true.1 Z t aF);have:t=y:=by simpa using gV
  rw [this];exact ce
 ·split at aC
  ·assumption
  ·cases aC
def waits(ops:List Oper)(i:Nat):Nat→Nat→Bool
 | 0,_=>false
 |n+1,j=>match ops[j]? with
  |some o=>o.after.toList.any λe=>Region.binds .any e&&(Nat.beq e.on i||waits ops i n e.on)
  |none=>false
def oi(opsA:Array Oper)(listed:Array Bool):Prop:=∀(j:Nat) o,opsA[j]? = some o→listed.getD j false=true→∀e,e∈o.after→Region.binds .any e=true→listed.getD e.on false=true
def GR{opsA:Array Oper}{listed:Array Bool}(hc:oi opsA listed){i:Nat}:∀{n j:Nat},waits opsA.toList i n j=true→listed.getD j false=true→listed.getD i false=true
 | 0,_,h,_=>by simp [waits]at h
 |n+1,j,h,hj=>by
  simp only [waits]at h;split at h
  ·rename_i o av;obtain⟨e,he,hb⟩:=List.any_eq_true.1 h;simp only [Bool.and_eq_true,Bool.or_eq_true,Nat.beq_eq]at hb;have Z:=hc j o (by simpa using av) hj e (by simpa using he) hb.1
   rcases hb.2 with rfl|aa
   ·exact Z
   ·exact GR hc aa Z
  ·cases h
def oi.set{opsA:Array Oper}{listed:Array Bool}(hc:oi opsA listed){i:Nat}(ai:i∈Region.ready .any opsA listed):oi opsA (listed.setIfInBounds i true):=by
 intro j o av hj e he hb;by_cases pV:i=j
 ·subst pV;obtain⟨_,o',kT,pW⟩:=mem_ready.1 ai;rw [av]at kT;cases kT;exact getD_set_true (pW e he hb)
 ·rw [getD_set_ne false pV]at hj;exact getD_set_true (hc j o av hj e he hb)
section
variable {cd:gD} {tt:dI} {opsA:Array Oper} {cC:List ev} {Fi:dk→Prop} {g g1 g2:dk}
def jA(cd:gD)(tt:dI)(opsA:Array Oper)(cC:List ev)(Fi:dk→Prop):Nat→Array Bool→dk→Prop
 | 0,listed,g=>Region.ready .any opsA listed=[]∧Fi g
 |n+1,listed,g=>(Region.ready .any opsA listed=[]→Fi g)∧∀i,i∈Region.ready .any opsA listed→∃o E,opsA[i]? = some o∧cC[i]? = some E∧Can cd tt opsA.toList o E g∧
  jA cd tt opsA cC Fi n (listed.setIfInBounds i true) (eD E g)
def jA.alike(cE:∀(i:Nat) o E,opsA[i]? = some o→cC[i]? = some E→gK opsA.toList o E=true)(dN:∀g1 g2,Alike g1 g2→Fi g1→Fi g2):∀{n:Nat} {listed:Array Bool} {g1 g2:dk},Alike g1 g2→jA cd tt opsA cC Fi n listed g1→jA cd tt opsA cC Fi n listed g2
 | 0,_,_,_,ha,h=>⟨h.1,dN _ _ ha h.2⟩
 |n+1,_,_,_,ha,h=>⟨λai=>dN _ _ ha (h.1 ai),λi hi=>by
  obtain⟨o,E,av,b1,jO,hn⟩:=h.2 i hi;obtain⟨c_,ak,_,_⟩:=GQ (cE i o E av b1);exact⟨o,E,av,b1,jO.congr c_ ak (λt _=>ha.slot t) (λq _=>ha.box q) (λ_=>ha.aX) ha.ids,jA.alike cE dN ha.ap hn⟩⟩
def Ci{ops:List Oper}{o:Oper}{E:ev}{n:Nat}(h:gK ops o E=true)(ab:E.og=n+1):vM o E.rs=n+1∧E.kd=0:=by
 simp only [gK,Bool.and_eq_true,Bool.or_eq_true,Nat.beq_eq]at h;rcases h.2 with h|h
 ·rw [ab]at h;cases h
 ·exact⟨h.1.symm.trans ab,h.2⟩
def Can.data{cd:gD}{tt:dI}{ops:List Oper}{o:Oper}{E:ev}{g:dk}(h:Can cd tt ops o E g)(cE:gK ops o E=true)(ab:E.og=2)(q:Nat):tQ (eD E g) g q:=by
 obtain⟨Z,aa⟩:=Ci cE ab;rcases h with h|h
 ·rw [aa]at h;cases h
 ·exact agy h Z aa q
def agE{E df:ev}(h:Ch E df=true):sep (oh E) df.nu=true∧sep (oh E) (oh df)=true∧sep (oh df) E.nu=true∧(sep (o2 E) df.kh=true∨E.og=2∧df.og=1)∧sep (o2 E) (o2 df)=true∧(sep (o2 df) E.kh=true∨df.og=2∧E.og=1)∧(E.pS=true→yh df=0)∧(df.pS=true→yh E=0):=by
 simp only [Ch,Bool.and_eq_true,Bool.or_eq_true,Bool.not_eq_true',Nat.beq_eq]at h;obtain⟨⟨⟨⟨⟨⟨⟨Z,aa⟩,aj⟩,aC⟩,aT⟩,bQ⟩,cK⟩,di⟩:=h;exact⟨Z,aa,aj,aC,aT,bQ,λhm=>cK.resolve_left (by simp [hm]),λhm=>di.resolve_left (by simp [hm])⟩
def jA.first(cE:∀(i:Nat) o E,opsA[i]? = some o→cC[i]? = some E→gK opsA.toList o E=true)(dN:∀g1 g2,Alike g1 g2→Fi g1→Fi g2){i:Nat}{o:Oper}{E:ev}(hi:opsA[i]? = some o)(b1:cC[i]? = some E):
 ∀(fuel:Nat) (listed:Array Bool) (g:dk),
  (∀(j:Nat) pX mq,opsA[j]? = some pX→cC[j]? = some mq→j≠i→listed.getD j true=false→waits opsA.toList i 3 j=false→Ch E mq=true)→oi opsA listed→
  i∈Region.ready .any opsA listed→Can cd tt opsA.toList o E g→jA cd tt opsA cC Fi fuel (listed.setIfInBounds i true) (eD E g)→jA cd tt opsA cC Fi (fuel+1) listed g:=by
 intro fuel;induction fuel with
 |zero=>
  intro listed g _ _ ai jO H;refine⟨λh=>(by rw [h]at ai;cases ai),λj hj=>?_⟩
  by_cases pV:j=i
  ·subst pV;exact⟨o,E,hi,b1,jO,H⟩
  ·have:=ready_mono hj pV
   rw [H.1]at this;cases this
 |succ fuel aH=>
  intro listed g kx gJ ai jO H;refine⟨λh=>(by rw [h]at ai;cases ai),λj hj=>?_⟩
  by_cases pV:j=i
  ·subst pV;exact⟨o,E,hi,b1,jO,H⟩
  obtain⟨pX,mq,pY,tR,W7,agF⟩:=H.2 j (ready_mono hj pV);obtain⟨W8,asu,W9,pW⟩:=mem_ready.1 hj;rw [pY]at W9;cases W9
  have oj:listed.getD i false=false:=by
   have h0:=(mem_ready.1 ai).1;rcases Nat.lt_or_ge i listed.size with cM|cM
   ·simpa [Array.getD_eq_getD_getElem?,cM]using h0
   ·simp [Array.getD_eq_getD_getElem?,Array.getElem?_eq_none cM]
  have agG:waits opsA.toList i 3 j=false:=by
   rw [Bool.eq_false_iff];intro hw;rw [waits]at hw;have ab:opsA.toList[j]? = some pX:=by simpa using pY
   simp only [ab]at hw;obtain⟨e,he,hb⟩:=List.any_eq_true.1 hw;simp only [Bool.and_eq_true,Bool.or_eq_true,Nat.beq_eq]at hb;have Z:=pW e (by simpa using he) hb.1
   rcases hb.2 with rfl|aa
   ·rw [oj]at Z;cases Z
   ·rw [GR gJ aa Z]at oj;cases oj
  obtain⟨d1,d2,d3,d4,d5,d6,d7,d8⟩:=agE (kx j pX mq pY tR pV W8 agG);obtain⟨c_,ak,_,_⟩:=GQ (cE i o E hi b1);obtain⟨hK,ke,_,_⟩:=GQ (cE j pX mq pY tR)
  have c1:Can cd tt opsA.toList pX mq g:=by
   rcases d4 with d4|⟨e1,e2⟩
   ·exact W7.congr hK ke (λt aF=>vJ λhw=>vK d1 hw aF) (λq ao=>yg λhw=>vK d4 hw ao) (λhm=>by rw [GK,d8 hm];rfl) GL
   ·exact W7.W6 (Ci (cE j pX mq pY tR) e2).1 (Ci (cE j pX mq pY tR) e2).2 hK (λt aF=>vJ λhw=>vK d1 hw aF) (jO.data (cE i o E hi b1) e1)
  have c2:Can cd tt opsA.toList o E (eD mq g):=by
   have W':∀t,t∈E.nu→m4 g (eD mq g) t:=λt aF=>by have:=vJ (E:=mq) (g:=g) (t:=t) λhw=>vK d3 hw aF;exact⟨this.1.symm,this.2.symm⟩
   rcases d6 with d6|⟨e1,e2⟩
   ·exact jO.congr c_ ak W' (λq ao=>(yg (E:=mq) (g:=g) (q:=q) λhw=>vK d6 hw ao).symm) (λhm=>by rw [GK,d7 hm];rfl) GL.symm
   ·exact jO.W6 (Ci (cE i o E hi b1) e2).1 (Ci (cE i o E hi b1) e2).2 c_ W' (λq=>(c1.data (cE j pX mq pY tR) e1 q).symm)
  refine⟨pX,mq,pY,tR,c1,aH (listed.setIfInBounds j true) (eD mq g) ?_ (gJ.set hj) (ready_mono ai (Ne.symm pV)) c2 ?_⟩
  ·intro k ok agH hk agI GS oj oX;refine kx k ok agH hk agI GS ?_ oX;by_cases tS:j=k
   ·subst tS;exact W8
   ·rw [getD_set_ne true tS]at oj;exact oj
  ·rw [Array.setIfInBounds_comm _ _ pV];exact jA.alike cE dN (agw d2 d5).symm agF
structure GT(n k:Nat)(listed:Array Bool):Prop where
 size:listed.size=n
 at':∀j,j<n→listed[j]? = some (decide (j<k))
def GT.set{n k:Nat}{listed:Array Bool}(h:GT n k listed):GT n (k+1) (listed.setIfInBounds k true):=by
 refine⟨by simp [h.size],λj hj=>?_⟩
 by_cases tS:k=j
 ·subst tS;simp [h.size,hj]
 ·rw [Array.getElem?_setIfInBounds_ne tS,h.at' j hj]
  congr 1
  have:(j<k)=(j<k+1):=by apply propext;omega
  simp [this]
def agJ(o:Oper)(k:Nat):Bool:=o.after.toList.all λe=>!Region.binds .any e||Nat.blt e.on k
def GU(ops:List Oper)(E:ev)(k:Nat):Nat→List (Oper×ev)→Bool
 |_,[]=>true
 |j,(_,df)::l=>(Ch E df||waits ops k 3 j)&&GU ops E k (j+1) l
def GV(ops:List Oper):Nat→List (Oper×ev)→Bool
 |_,[]=>true
 |k,(o,E)::l=>agJ o k&&GU ops E k (k+1) l&&GV ops (k+1) l
def GW(cd:gD)(tt:dI)(ops:List Oper)(Fi:dk→Prop):List (Oper×ev)→dk→Prop
 |[],g=>Fi g
 |(o,E)::l,g=>Can cd tt ops o E g∧GW cd tt ops Fi l (eD E g)
def W_{ops:List Oper}{E:ev}{k:Nat}:∀{l:List (Oper×ev)} {n:Nat},GU ops E k n l=true→∀(j:Nat) o df,l[j]? = some (o,df)→waits ops k 3 (n+j)=false→Ch E df=true
 |[],_,_,j,o,df,hj,_=>by simp at hj
 |(dL,a8)::l,n,h,j,o,df,hj,oX=>by
  simp only [GU,Bool.and_eq_true,Bool.or_eq_true]at h;cases j with
  |zero=>
   simp at hj
   obtain⟨rfl,rfl⟩:=hj;exact h.1.resolve_right (by rw [Nat.add_zero]at oX;rw [oX];simp)
  |succ j=>exact W_ h.2 j o df (by simpa using hj) (by rwa [show n+1+j=n+(j+1)by omega])
def jA.text(cE:∀(i:Nat) o E,opsA[i]? = some o→cC[i]? = some E→gK opsA.toList o E=true)(dN:∀g1 g2,Alike g1 g2→Fi g1→Fi g2):
 ∀(l:List (Oper×ev)) (k:Nat) (listed:Array Bool) (g:dk),(∀j:Nat,(l[j]?).map (·.1)=opsA[k+j]?)→(∀j:Nat,(l[j]?).map (·.2)=cC[k+j]?)→GT opsA.size k listed→oi opsA listed→GV opsA.toList k l=true→GW cd tt opsA.toList Fi l g→
  jA cd tt opsA cC Fi l.length listed g
 |[],k,listed,g,Z,_,cZ,_,_,hc=>by
  refine⟨?_,hc⟩
  have hk:opsA[k]? = none:=by have:=Z 0;simpa using this.symm
  have sr:opsA.size≤k:=by simpa using hk
  refine List.eq_nil_iff_forall_not_mem.2 λj hj=>?_
  obtain⟨hu,o,av,_⟩:=mem_ready.1 hj;have cX:j<opsA.size:=(Array.getElem?_eq_some_iff.1 av).1;have:=cZ.at' j cX
  rw [Array.getD_eq_getD_getElem?,this]at hu;have tS:j<k:=by omega
  simp [tS]at hu
 |(o,E)::l,k,listed,g,Z,aa,cZ,gJ,hx,hc=>by
  have av:opsA[k]? = some o:=by have:=Z 0;simpa using this.symm
  have b1:cC[k]? = some E:=by have:=aa 0;simpa using this.symm
  have cX:k<opsA.size:=(Array.getElem?_eq_some_iff.1 av).1;simp only [GV,Bool.and_eq_true]at hx;obtain⟨⟨ai,aW⟩,hx⟩:=hx
  have Xa:k∈Region.ready .any opsA listed:=by
   refine mem_ready.2 ⟨?_,o,av,λe he hb=>?_⟩
   ·rw [Array.getD_eq_getD_getElem?,cZ.at' k cX];simp
   ·have:=List.all_eq_true.1 ai e (by simpa using he)
    simp only [hb,Bool.not_true,Bool.false_or,Nat.blt_eq]at this;rw [Array.getD_eq_getD_getElem?,cZ.at' e.on (by omega)]
    simp [this]
  refine jA.first cE dN av b1 l.length listed g ?_ gJ Xa hc.1 (jA.text cE dN l (k+1) _ _ (λj=>?_) (λj=>?_) cZ.set (gJ.set Xa) hx hc.2)
  ·intro j pX mq pY tR dh oj oX;have vp:j<opsA.size:=(Array.getElem?_eq_some_iff.1 pY).1
   have tS:k<j:=by
    rw [Array.getD_eq_getD_getElem?,cZ.at' j vp]at oj;simp at oj
    omega
   have e1:=Z (j-k);have e2:=aa (j-k);have Xb:k+(j-k)=j:=by omega
   rw [Xb,pY]at e1;rw [Xb,tR]at e2
   have e3:(((o,E)::l)[j-k]?)=l[j-k-1]? := by
    have:j-k=(j-k-1)+1:=by omega
    rw [this];simp
   rw [e3]at e1 e2;cases ab:l[j-k-1]? with
   |none=>rw [ab]at e1;simp at e1
   |some x=>
    rw [ab]at e1 e2;simp at e1 e2
    obtain⟨dz,ew⟩:=x;simp only at e1 e2
    subst e1;subst e2;exact W_ aW _ _ _ ab (by rwa [show k+1+(j-k-1)=j by omega])
  ·have:=Z (j+1);simpa [Nat.add_assoc,Nat.add_comm 1 j]using this
  ·have:=aa (j+1);simpa [Nat.add_assoc,Nat.add_comm 1 j]using this
end
def q2(N:Nat)(E:ev):Bool:=
 match E.dst with
 |none=>E.p.isEmpty
 |some t=>Nat.blt t N&&match E.p with
  |[]=>true
  |p=>E.f.e.isSome&&E.f.hs.isEmpty&&E.f.hJ.isEmpty&&p.all (λy=>!Nat.beq y.1 t)&&Nat.beq E.f.eP 0
def Cj(ops:List Oper)(i:Nat)(t:Nat):Nat→List ev→Bool
 |_,[]=>true
 |j,df::l=>(match df.p with
  |[]=>true
  |p=>(match df.dst with |some bS=>Nat.beq bS t |none=>false)||p.all (λy=>!Nat.beq y.1 t)||waits ops i 3 j)&&Cj ops i t (j+1) l
def GX(ops:List Oper)(cC:List ev):Nat→List ev→Bool
 |_,[]=>true
 |i,E::l=>(match E.dst with
  |none=>true
  |some t=>Cj ops i t 0 cC)&&GX ops cC (i+1) l
def Ck(ops:List Oper)(cC:List ev):Bool:=GX ops cC 0 cC
def Xc{ops:List Oper}{i t:Nat}:∀{l:List ev} {k:Nat},Cj ops i t k l=true→∀(j:Nat) (df:ev),l[j]? = some df→df.p≠[]→
 ((match df.dst with|some bS=>Nat.beq bS t|none=>false)||df.p.all (λy=>!Nat.beq y.1 t))=true∨waits ops i 3 (k+j)=true
 |[],_,_,j,df,h,_=>by simp at h
 |a8::l,k,h,j,df,hj,dh=>by
  simp only [Cj,Bool.and_eq_true]at h;cases j with
  |zero=>
   simp at hj
   subst hj;have Z:=h.1;split at Z
   ·rename_i pI;exact absurd pI dh
   ·rw [Bool.or_eq_true]at Z;exact Z
  |succ j=>
   have:=Xc h.2 j df (by simpa using hj) dh
   rwa [show k+(j+1)=k+1+j by omega]
def Xd{ops:List Oper}{cC:List ev}:∀{l:List ev} {k:Nat},GX ops cC k l=true→∀(i:Nat) (E:ev) (t:Nat),l[i]? = some E→E.dst=some t→Cj ops (k+i) t 0 cC=true
 |[],_,_,i,E,t,h,_=>by simp at h
 |a8::l,k,h,i,E,t,hi,hd=>by
  simp only [GX,Bool.and_eq_true]at h;cases i with
  |zero=>
   simp at hi
   subst hi;have Z:=h.1;rw [hd]at Z;exact Z
  |succ i=>
   have:=Xd h.2 i E t (by simpa using hi) hd
   rwa [show k+(i+1)=k+1+i by omega]
section
variable {P:Program} {K:Ctx} {N:Nat} {M:Mem} {β:Nat→Option Nat} {tt:dI} {opsA:Array Oper} {cC:List ev} {g:dk} {w:World} {tmps:Array Value}
def tT(cC:List ev)(listed:Array Bool)(g:dk):Prop:=∀x,x∈g.b5→∃(i:Nat) (E:ev),cC[i]? = some E∧listed.getD i false=true∧E.dst=some x.1∧E.p=x.2.1∧E.p≠[]
def GY{α:Type}:∀{l:List (Nat×α)} {t:Nat} {x:Nat×α},x∈del l t→x∈l
 |[],_,_,h=>by simp [del]at h
 |(j,y)::l,t,x,h=>by
  simp only [del]at h;rw [Bool.cond_eq_ite]at h;split at h
  ·exact List.mem_cons_of_mem _ (GY h)
  ·rcases List.mem_cons.1 h with rfl|h
   ·simp
   ·exact List.mem_cons_of_mem _ (GY h)
def tT.ap{listed:Array Bool}{i:Nat}{E:ev}(b1:cC[i]? = some E)(hi:i<listed.size)(h:tT cC listed g):tT cC (listed.setIfInBounds i true) (eD E g):=by
 have cM:tT cC (listed.setIfInBounds i true) g:=λx hx=>by
  obtain⟨j,df,Z,aa,aj⟩:=h x hx;exact⟨j,df,Z,getD_set_true aa,aj⟩
 intro x hx;unfold eD at hx;cases hd:E.dst with
 |none=>simp only [hd]at hx;exact cM x hx
 |some t=>
  simp only [hd]at hx;cases hp:E.p with
  |nil=>simp only [hp]at hx;exact cM x (GY hx)
  |cons y p=>
   simp only [hp]at hx;cases he:E.f.e with
   |none=>simp only [he]at hx;exact cM x hx
   |some e=>
    simp only [he]at hx;rcases List.mem_cons.1 hx with rfl|hx
    ·exact⟨i,E,b1,by simp [hi],by simp [hd],by simp [hp],by simp [hp]⟩
    ·exact cM x (GY hx)
def agK{listed:Array Bool}{i:Nat}{E:ev}{t:Nat}(kx:Ck opsA.toList cC=true)(b1:cC[i]? = some E)(hd:E.dst=some t)(hc:oi opsA listed)(hi:listed.getD i false=false)(h:tT cC listed g):xN g.b5 t=true:=by
 unfold xN;rw [List.all_eq_true];intro x hx;obtain⟨j,df,su,ab,kt,yb,dh⟩:=h x hx;have Z:=Xd kx i E t b1 hd;rw [Nat.zero_add]at Z;rcases Xc Z j df su dh with aa|aa
 ·rw [kt,yb]at aa;exact aa
 ·rw [Nat.zero_add]at aa;have:=GR hc aa ab
  rw [hi]at this;cases this
def Xe{listed:Array Bool}{cd:gD}{o:Oper}{E:ev}{i:Nat}(jm:E.kd=0)(jO:Oe cd tt opsA.toList o E g)(b1:cC[i]? = some E)(cE:gK opsA.toList o E=true)(aR:q2 N E=true)(kx:Ck opsA.toList cC=true)(hc:oi opsA listed)(hi:listed.getD i false=false)(mS:tT cC listed g):
 n6 cd tt N opsA.toList {g with rs:=E.rs,a6:=[]} o=some (.go {eD E g with rs:=[],a6:=E.f.a6.map (under g E.p)}):=by
 obtain⟨_,_,eC,d_⟩:=GQ cE;have hg:pG opsA.toList {g with rs:=E.rs,a6:=[]} o=some E.p:=jO.GN
 have hs:step1 cd tt opsA.toList {g with rs:=E.rs,a6:=[]} E.p o=some (.go E.f):=by
  have dx:=jO.st;rw [jm]at dx;refine Eq.trans ?_ dx;exact N_ (g1:={g with rs:=E.rs,a6:=[]}) (g2:={g with rs:=E.rs}) (λ_ _ _ _=>⟨rfl,rfl⟩) rfl rfl (λ_=>rfl) (λ_ _=>rfl)
 have hu:∀q,under {g with rs:=E.rs,a6:=[]} E.p q=under g E.p q:=λq=>GM λ_ _=>⟨rfl,rfl⟩
 unfold n6;rw [hg]
 dsimp only
 rw [hs]
 dsimp only
 rw [←eC];have cn:E.f.a6.map (under {g with rs:=E.rs,a6:=[]} E.p)++[]=E.f.a6.map (under g E.p):=by rw [List.append_nil];exact List.map_congr_left λq _=>hu q
 rw [cn,d_];unfold q2 at aR;unfold eD;cases hd:E.dst with
 |none=>
  rw [hd]at aR
  dsimp only at aR ⊢
  rw [aR];rfl
 |some t=>
  rw [hd]at aR;have aW:=agK kx b1 hd hc hi mS;simp only [Bool.and_eq_true]at aR;obtain⟨cX,aR⟩:=aR
  dsimp only
  rw [cX,aW];cases hp:E.p with
  |nil=>rfl
  |cons x p=>
   rw [hp]at aR;simp only [Bool.and_eq_true,List.isEmpty_iff,Nat.beq_eq,Option.isSome_iff_exists]at aR;obtain⟨⟨⟨⟨⟨e,he⟩,bm⟩,hc⟩,pW⟩,hn⟩:=aR;simp only [he,bm,hc,hn,pW];rfl
def jA.sound(cz:fB P tt=true)(jm:∀(i:Nat) E,cC[i]? = some E→E.kd=0)(cE:∀(i:Nat) o E,opsA[i]? = some o→cC[i]? = some E→gK opsA.toList o E=true)(aR:∀(i:Nat) E,cC[i]? = some E→q2 N E=true)(kx:Ck opsA.toList cC=true){Fi:dk→Prop}{Q:Exit→Act→World→Prop}
 (ei:∀g fW w' M' β',Fi g→fX P K N M' β' g fW w'→Q .normal ⟨fW,K.ds⟩ w'):
 ∀(n:Nat) (listed:Array Bool) (g:dk) (tmps:Array Value) (w:World) (M:Mem) (β:Nat→Option Nat),jA (jL P) tt opsA cC Fi n listed g→listed.size=opsA.size→oi opsA listed→tT cC listed g→fX P K N M β g tmps w→wpAny P .any opsA Q n listed ⟨tmps,K.ds⟩ w
 | 0,_,g,tmps,w,M,β,h,_,_,_,hs=>⟨h.1,ei g tmps w M β h.2 hs⟩
 |n+1,listed,g,tmps,w,M,β,h,eu,gJ,mS,hs=>by
  refine⟨λai=>ei g tmps w M β (h.1 ai) hs,λi hi=>?_⟩
  obtain⟨o,E,av,b1,GZ,hn⟩:=h.2 i hi;have jO:=GZ.resolve_left (by rw [jm i E b1];simp)
  have cX:i<listed.size:=by rw [eu];exact(Array.getElem?_eq_some_iff.1 av).1
  have oj:listed.getD i false=false:=by have:=(mem_ready.1 hi).1;simpa [Array.getD_eq_getD_getElem?,cX]using this
  have Of:=Xe (N:=N) (jm i E b1) jO b1 (cE i o E av b1) (aR i E b1) kx gJ oj mS;have ge:fX P K N M β {g with rs:=E.rs,a6:=[]} tmps w:=⟨hs.bw,hs.size,hs.fresh,hs.cond⟩;unfold wpOp;simp only [av];refine N1 ge cz (opsA:=opsA) rfl Of (λq ao=>?_) (λfW w' M' β' cM=>?_)
  ·obtain⟨q',pN,rfl⟩:=List.mem_map.1 ao;exact jO.a6 q' pN
  ·exact jA.sound cz jm cE aR kx ei n _ (eD E g) fW w' M' β' hn (by simpa using eu) (gJ.set hi) (mS.ap b1 cX) ⟨cM.bw,cM.size,cM.fresh,cM.cond⟩
end
def findD(cd:gD)(tt:dI)(ops:List Oper)(g:dk)(o:Oper)(rs:List fu):Option ev:=
 match pG ops g o with
 |none=>none
 |some p=>match step1 cd tt ops {g with rs:=rs} p o with
  |some (.go f)=>some {dst:=o.dst,p,f,kh:=iW tt g p o,nu:=pU ops o++p.map (·.1),pS:=q0 o,rs,og:=vM o rs}
  |_=>none
def vN(cd:gD)(tt:dI)(ops:List Oper):List Oper→List (List fu)→dk→Option (List ev×dk×List Prop)
 |[],[],g=>some ([],g,[])
 |o::l,rs::jP,g=>match findD cd tt ops g o rs with
  |some E=>match vN cd tt ops l jP (eD E g) with
   |some (cC,e0,a6)=>some (E::cC,e0,a6++E.f.a6.map (under g E.p))
   |none=>none
  |none=>none
 |_,_,_=>none
def lB:List Oper→List ev→List (Oper×ev)
 |o::l,E::m=>(o,E)::lB l m
 |_,_=>[]
def G0(N:Nat)(ops:List Oper)(cC:List ev):Bool:=
 (lB ops cC).all (λx=>gK ops x.1 x.2)&&cC.all (q2 N)&&Ck ops cC&&GV ops 0 (lB ops cC)
section
variable {cd:gD} {tt:dI} {ops:List Oper}
def Xf{Fi:dk→Prop}:∀{l:List Oper} {jP:List (List fu)} {g:dk} {cC:List ev} {e0:dk} {a6:List Prop},vN cd tt ops l jP g=some (cC,e0,a6)→(∀q,q∈a6→q)→Fi e0→
 cC.length=l.length∧(∀E,E∈cC→E.kd=0)∧GW cd tt ops Fi (lB l cC) g
 |[],[],g,cC,e0,a6,h,_,dN=>by
  simp only [vN,Option.some.injEq,Prod.mk.injEq]at h;obtain⟨rfl,rfl,rfl⟩:=h;exact⟨rfl,by simp,dN⟩
 |o::l,rs::jP,g,cC,e0,a6,h,cn,dN=>by
  simp only [vN]at h;split at h
  case h_2=>cases h
  rename_i E b1;split at h
  case h_2=>cases h
  rename_i vO g1 agL Z;simp only [Option.some.injEq,Prod.mk.injEq]at h;obtain⟨rfl,rfl,rfl⟩:=h;obtain⟨aa,agM,aj⟩:=Xf Z (λq ao=>cn q (List.mem_append_left _ ao)) dN
  have agN:E.kd=0:=by
   unfold findD at b1;split at b1
   ·cases b1
   split at b1
   ·cases b1;rfl
   ·cases b1
  refine⟨by simp [aa],λdf su=>?_,?_,aj⟩
  ·rcases List.mem_cons.1 su with rfl|su
   ·exact agN
   ·exact agM df su
  have Og:∀q,q∈E.f.a6→under g E.p q:=λq ao=>cn _ (List.mem_append_right _ (List.mem_map.2 ⟨q,ao,rfl⟩))
  unfold findD at b1;split at b1
  ·cases b1
  rename_i p hp;split at b1
  ·rename_i f aW;cases b1;exact .inr ⟨hp,aW,Og,λ_ h=>h,λh=>by cases h⟩
  ·cases b1
 |[],_::_,_,_,_,_,h,_,_=>by simp [vN]at h
 |_::_,[],_,_,_,_,h,_,_=>by simp [vN]at h
def vP:∀{l:List Oper} {m:List ev},m.length=l.length→∀(j:Nat),((lB l m)[j]?).map (·.1)=l[j]? ∧ ((lB l m)[j]?).map (·.2)=m[j]?
 |[],[],_,j=>by simp [lB]
 |o::l,E::m,h,j=>by
  cases j with
  |zero=>simp [lB]
  |succ j=>simpa [lB]using vP (by simpa using h) j
 |[],_::_,h,_=>by simp at h
 |_::_,[],h,_=>by simp at h
def Oh:∀{l:List Oper} {m:List ev},m.length=l.length→(lB l m).length=l.length
 |[],[],_=>rfl
 |_::l,_::m,h=>by simp [lB,Oh (l:=l) (m:=m) (by simpa using h)]
 |[],_::_,h=>by simp at h
 |_::_,[],h=>by simp at h
end
section
variable {P:Program} {N E:Nat} {st:aK} {tt:dI}
def Alike.bw{K:Ctx}{M:Mem}{β:Nat→Option Nat}{g1 g2:dk}{tmps:Array Value}{w:World}(ha:Alike g1 g2)(h:bN P K M β {env:=g1.env,H:=g1.H,aX:=g1.aX} tmps w):bN P K M β {env:=g2.env,H:=g2.H,aX:=g2.aX} tmps w:=by
 have gl:∀l,({env:=g2.env,H:=g2.H,aX:=g2.aX}:aK).at l=({env:=g1.env,H:=g1.H,aX:=g1.aX}:aK).at l:=by
  intro l;cases l with
  |slot s=>exact(ha.slot s).1.symm
  |cell r i=>simp only [aK.at];rw [←ha.box r]
 have hb:∀r,look g2.H r=look g1.H r:=λr=>(ha.box r).symm
 constructor
 ·intro l e ab;rw [gl]at ab;exact h.fv l e ab
 ·intro l e T ab;rw [gl]at ab;exact h.own l e T ab
 ·intro l cG e bg T T' b ab aG dF;rw [gl]at ab dF;exact h.uniq l cG e bg T T' b ab aG dF
 ·intro l e T b r cs ab aG nn ai;rw [gl]at ab;exact h.unbox l e T b r cs ab aG nn (by rw [←hb r];exact ai)
 ·intro r cs ai;exact h.box r cs (by rw [←hb r];exact ai)
 ·intro r dv b cs cs' ai gc;exact h.inj r dv b cs cs' (by rw [←hb r];exact ai) (by rw [←hb dv];exact gc)
 ·intro r b ai;exact(by have:=h.lt r b ai;simpa [ha.aX]using this)
 ·exact h.mem
 ·exact h.m0
 ·exact h.frame
 ·exact h.iP
 ·exact h.jx
 ·exact h.h7
def bN.drew{K:Ctx}{M:Mem}{β:Nat→Option Nat}{tmps:Array Value}{w:World}(h:bN P K M β st tmps w)(k:Nat):bN P K M β st tmps {w with drawn:=k}:=
 ⟨h.fv,h.own,h.uniq,h.unbox,h.box,h.inj,h.lt,h.mem,h.m0,h.frame,h.iP,h.jx,h.h7⟩
end
def a_.scope{P:Program}{N E:Nat}{c:Code}{Q:cp→aK→Prop}{st:aK}(h:a_ P N E c Q st):a_ P N E (.scope c) Q st:=by
 intro K eF a w hs;refine wp_scope_straight (wp_mono (h K eF a w hs) ?_)
 rintro e d' w' ⟨fO,b8,Z,aa⟩
 cases fO with
 |normal=>obtain⟨rfl,aj⟩:=Z;exact⟨.normal,b8,⟨rfl,aj⟩,aa⟩
 |exit i=>obtain⟨rfl,aj⟩:=Z;exact⟨.exit i,b8,⟨rfl,aj⟩,aa⟩
 |ret=>obtain⟨rfl,aj⟩:=Z;exact⟨.ret,b8,⟨rfl,aj⟩,aa⟩
 |bf x=>obtain⟨v,rfl,aj⟩:=Z;exact⟨.bf x,b8,⟨v,rfl,aj⟩,aa⟩
def ii.on{α β dH:Type}(x:α ⊕ β)(f:α→dH)(g:β→dH):dH:=
 match x with
 |.inl a=>f a
 |.inr b=>g b
def G1.on{α β dH:Type}(x:α×β)(f:α→β→dH):dH:=f x.1 x.2
def G2(P:Program)(w:World):Prop:=(∀g,g∈ML P→∃fM,w.cell? ⟨g,0,none⟩=some fM∧(fM = .nilIface∨∃cf sa,fM = .iface cf sa))∧
 ∀ g, P.globalNamed "internal/strconv.uint64pow10" = some g → ∃ t kS, w.heap[g]? = some (.cells MM t kS)
section
variable {P:Program}
def bN.agO{K:Ctx}{M:Mem}{β:Nat→Option Nat}{st:aK}{tmps:Array Value}{w:World}(h:bN P K M β st tmps w):G2 P w:=⟨λg hg=>by
 obtain⟨cs,t,kS,fM,Z,aa,aj⟩:=h.jx.1 g hg;refine⟨fM,?_,aj⟩
 have:=(h.frame g _ Z).1
 unfold World.cell?;rw [this];exact aa,λg hg=>by
 obtain⟨t,kS,Z⟩:=h.jx.2 g hg;exact⟨t,kS,(h.frame g _ Z).1⟩⟩
def Xg {f : FuncId} {args : List D} {vsOf : World → List Value → Prop} {d : D} {fd : Func} (kb : P.funcs[f]? = some fd) (hb : fd.body.isSome = true) (hn : decide (fd.name = "runtime.NumGoroutine") = false)
 (e7:∀(w:World) (M:Mem) (β:Nat→Option Nat) (vs:List Value),(∀b o v,M b o=some v→w.cell? ⟨b,o,none⟩=some v)→vs.length=args.length→(∀(i:Nat) v a,vs[i]? = some v→args[i]? = some a→cy M β v a)→vsOf w vs)
 (vF:∀(vs:List Value) (w:World),vsOf w vs→G2 P w→Calls P f ⟨vs⟩ w λe w'=>∃v,e = .returned v∧(∀M β,cy M β v d)∧(∀(b:Nat) (a6:Obj),w.heap[b]? = some a6→w'.heap[b]? = some a6)∧(w'.os,w'.output)=(w.os,w.output)):
 gW P f args [] [] (.ret d none) []:=by
 refine⟨⟨fd,kb,hb,by simpa using hn⟩,λK w vs M β hlen hs hC=>?_⟩
 have aw:vsOf w vs:=e7 w M β vs hs.mem hlen λi v a hi ha=>by
  have Z:=hs.fv (.slot i) ⟨a,none⟩ (by
   simp only [aK.at,hV,nr,BV,ha,Option.map_some,look])
  have aa:cu (⟨vs⟩:Array Value) w β (.slot i)=v:=by
   simp [cu,hi]
  rw [aa]at Z;exact Z
 refine(vF vs w aw hs.agO).mono ?_
 rintro e w' ⟨v,rfl,gI,vf,oS⟩
 refine⟨.ret d none,[],v,M,β,⟨rfl,rfl⟩,rfl,?_⟩
 have ih:∀b o v,w.cell? ⟨b,o,none⟩=some v→w'.cell? ⟨b,o,none⟩=some v:=by
  intro b o v h;unfold World.cell? at h ⊢;cases hb:w.heap[b]? with
  |none=>simp [hb]at h
  |some a6=>rw [vf b a6 hb];rw [hb]at h;exact h
 constructor
 ·intro l e ab;cases l with
  |slot s=>
   simp only [aK.at,iv,dX]at ab;split at ab
   ·rename_i h0;subst h0;cases ab;exact gI M β
   ·simp [look]at ab
  |cell r i=>simp [aK.at,cQ,look]at ab
 ·intro l e T ab aG;cases l with
  |slot s=>
   simp only [aK.at,iv,dX]at ab;split at ab
   ·cases ab;cases aG
   ·simp [look]at ab
  |cell r i=>simp [aK.at,cQ,look]at ab
 ·intro l cG e bg T T' b ab aG;cases l with
  |slot s=>
   simp only [aK.at,iv,dX]at ab;split at ab
   ·cases ab;cases aG
   ·simp [look]at ab
  |cell r i=>simp [aK.at,cQ,look]at ab
 ·intro l e T b r cs ab aG hb ai;simp [cQ,look]at ai
 ·intro r cs ai;simp [cQ,look]at ai
 ·intro r dv b cs cs' ai;simp [cQ,look]at ai
 ·exact hs.lt
 ·exact λb o v h=>ih b o v (hs.mem b o v h)
 ·exact hs.m0
 ·exact λb a6 h=>⟨vf b a6 (hs.frame b a6 h).1,(hs.frame b a6 h).2⟩
 ·exact hs.iP
 ·exact hs.jx
 ·exact oS.trans hs.h7
def vQ {f : FuncId} {args : List D} {vsOf : List Value → Prop} {d : D} {fd : Func} (kb : P.funcs[f]? = some fd) (hb : fd.body.isSome = true) (hn : decide (fd.name = "runtime.NumGoroutine") = false)
 (e7:∀(M:Mem) (β:Nat→Option Nat) (vs:List Value),vs.length=args.length→(∀(i:Nat) v a,vs[i]? = some v→args[i]? = some a→cy M β v a)→vsOf vs)
 (vF:∀(vs:List Value) (w:World),vsOf vs→G2 P w→Calls P f ⟨vs⟩ w λe w'=>∃v,e = .returned v∧(∀M β,cy M β v d)∧(∀(b:Nat) (a6:Obj),w.heap[b]? = some a6→w'.heap[b]? = some a6)∧(w'.os,w'.output)=(w.os,w.output)):
 gW P f args [] [] (.ret d none) []:=
 Xg (vsOf:=λ_ vs=>vsOf vs) kb hb hn (λ_ M β vs _=>e7 M β vs) vF
end
def vR(cd:gD)(tt:dI)(N:Nat)(ops:List Oper)(rs:List fu)(st:aK):Option Fin:=
 match tp cd tt N ops ops {env:=st.env,b5:=[],H:=st.H,aX:=st.aX,rs,a6:=[]} with
 |some (.go g)=>match g.rs with
  |[]=>some (.go {env:=g.env,H:=g.H,aX:=g.aX} g.a6)
  |_=>none
 |some (.bf x st a6)=>some (.bf x st a6)
 |none=>none
def vS:List Oper→Nat→List (Nat×Nat)
 |[],_=>[]
 |o::l,n=>match q0 o,o.dst with
  |true,some t=>(t,n)::vS l (n+1)
  |_,_=>vS l n
def G3(ops:List Oper)(st:aK):dk:=
 {env:=st.env,b5:=[],H:=st.H,aX:=st.aX+(vS ops st.aX).length,rs:=[],a6:=[],ids:=vS ops st.aX}
def G4(cd:gD)(tt:dI)(N:Nat)(ops:List Oper)(jP:List (List fu))(st:aK):Option Fin:=
 match vN cd tt ops ops jP (G3 ops st) with
 |some (cC,g,a6)=>bif G0 N ops cC then some (.go {env:=g.env,H:=g.H,aX:=g.aX} a6)else none
 |none=>none
def jQ:Option Fin→aK
 |some (.go st _)=>st
 |some (.bf _ st _)=>st
 |none=>{env:=[],H:=[],aX:=0}
def mr:Option Fin→Option (List Prop)
 |some (.go _ a6)=>some a6
 |_=>none
def Oi:Option Fin→Option (V×List Prop)
 |some (.bf x _ a6)=>some (x,a6)
 |_=>none
def spread:Nat→Nat→List (Nat×List fu)→List (List fu)
 | 0,_,_=>[]
 |n+1,i,l=>(look l i).getD []::spread n (i+1) l
def G5:∀(l:List Oper) (n:Nat) (x:Nat×Nat),x∈vS l n→n≤x.2∧True
 |[],n,x,h=>by simp [vS]at h
 |o::l,n,x,h=>by
  unfold vS at h;split at h
  ·rcases List.mem_cons.1 h with h|h
   ·subst h;exact⟨Nat.le_refl _,trivial⟩
   ·have:=(G5 l (n+1) x h).1;exact⟨by omega,trivial⟩
  ·exact G5 l n x h
def bN.up{P:Program}{K:Ctx}{M:Mem}{β:Nat→Option Nat}{st:aK}{tmps:Array Value}{w:World}(h:bN P K M β st tmps w)(k:Nat):bN P K M β {env:=st.env,H:=st.H,aX:=st.aX+k} tmps w:=
 ⟨h.fv,h.own,h.uniq,h.unbox,h.box,h.inj,(λr b hb=>Nat.lt_of_lt_of_le (h.lt r b hb) (Nat.le_add_right _ _)),h.mem,h.m0,h.frame,h.iP,h.jx,h.h7⟩
section
variable {P:Program} {N E:Nat} {st:aK} {tt:dI}
def a_.rg{id:Nat}{opsA:Array Oper}{Q:cp→aK→Prop}(cz:fB P tt=true)(rs:List fu){b6:List Prop}(ai:mr (vR (jL P) tt N opsA.toList rs st)=some b6)(cn:k0 b6)
 (ei:Q .normal (jQ (vR (jL P) tt N opsA.toList rs st))):a_ P N E (.region id opsA false) Q st:=by
 rintro K eF a w ⟨_,hd,eu,M,β,cN⟩
 obtain⟨tmps,ds⟩:=a;simp only at hd eu
 subst hd;have sv:fX P K N M β {env:=st.env,b5:=[],H:=st.H,aX:=st.aX,rs:=rs,a6:=[]} tmps w:=⟨cN,eu,(λ_ _ h=>by simp [look]at h),λ_ _ _ h=>by simp [look]at h⟩
 refine wp_region ?_;unfold vR at ai ei;have hlen:List.range opsA.size=List.range' 0 opsA.toList.length:=by rw [List.range_eq_range'];simp
 rw [hlen];split at ai
 ·rename_i g fe;split at ai
  case h_2=>cases ai
  rename_i eX;simp only [mr,Option.some.injEq]at ai;subst ai;rw [fe]at ei;simp only [eX,jQ]at ei;refine N3 cz rfl (fin:=.go g) cn.mem ?_ opsA.toList 0 _ tmps w M β (λj=>by simp) sv fe
  intro fW w' M' β' cM;exact⟨.normal,_,⟨rfl,rfl,cM.size,M',β',cM.bw⟩,ei⟩
 ·cases ai
 ·cases ai
def a_.Oj{id:Nat}{opsA:Array Oper}{Q:cp→aK→Prop}(cz:fB P tt=true)(rs:List fu){x:V}{b6:List Prop}(ai:Oi (vR (jL P) tt N opsA.toList rs st)=some (x,b6))(cn:k0 b6)
 (ei:Q (.bf x) (jQ (vR (jL P) tt N opsA.toList rs st))):a_ P N E (.region id opsA false) Q st:=by
 rintro K eF a w ⟨_,hd,eu,M,β,cN⟩
 obtain⟨tmps,ds⟩:=a;simp only at hd eu
 subst hd;have sv:fX P K N M β {env:=st.env,b5:=[],H:=st.H,aX:=st.aX,rs:=rs,a6:=[]} tmps w:=⟨cN,eu,(λ_ _ h=>by simp [look]at h),λ_ _ _ h=>by simp [look]at h⟩
 refine wp_region ?_;unfold vR at ai ei;have hlen:List.range opsA.size=List.range' 0 opsA.toList.length:=by rw [List.range_eq_range'];simp
 rw [hlen];split at ai
 ·split at ai<;>cases ai
 ·rename_i y b8 a6 fe;simp only [Oi,Option.some.injEq,Prod.mk.injEq]at ai;obtain⟨rfl,rfl⟩:=ai;rw [fe]at ei;refine N3 cz rfl (fin:=.bf y b8 a6) cn.mem ?_ opsA.toList 0 _ tmps w M β (λj=>by simp) sv fe
  intro e d' w' cM;exact⟨.bf y,_,cM,ei⟩
 ·cases ai
def a_.G6{id:Nat}{opsA:Array Oper}{Q:cp→aK→Prop}(cz:fB P tt=true)(hm:P.follows .mixedOrders=true)(jP:List (Nat×List fu)){b6:List Prop}(ai:mr (G4 (jL P) tt N opsA.toList (spread opsA.toList.length 0 jP) st)=some b6)(cn:k0 b6)
 (ei:Q .normal (jQ (G4 (jL P) tt N opsA.toList (spread opsA.toList.length 0 jP) st))):a_ P N E (.region id opsA true) Q st:=by
 rintro K eF a w ⟨_,hd,eu,M,β,cN⟩
 obtain⟨tmps,ds⟩:=a;simp only at hd eu
 subst hd;refine wp_region_any hm ?_;unfold G4 at ai ei;split at ai
 case h_2=>cases ai
 rename_i cC g tM fe;rw [fe]at ei
 dsimp only at ei
 rw [Bool.cond_eq_ite]at ai ei;split at ai
 case isFalse=>cases ai
 rename_i hc;rw [if_pos hc]at ei;simp only [mr,Option.some.injEq]at ai;subst ai;simp only [jQ]at ei;obtain⟨hlen,jm,Ok⟩:=Xf (Fi:=λg1=>Alike g g1) fe cn.mem Alike.refl
 simp only [G0,Bool.and_eq_true]at hc;obtain⟨⟨⟨c1,c2⟩,c3⟩,c4⟩:=hc
 have cE:∀(i:Nat) o E,opsA[i]? = some o→cC[i]? = some E→gK opsA.toList o E=true:=by
  intro i o E av b1;obtain⟨kZ,z2⟩:=vP hlen i;have kT:opsA.toList[i]? = some o:=by simpa using av
  rw [kT]at kZ;rw [b1]at z2;cases dw:(lB opsA.toList cC)[i]? with
  |none=>rw [dw]at kZ;simp at kZ
  |some x=>
   rw [dw]at kZ z2;simp at kZ z2
   subst kZ;subst z2;exact List.all_eq_true.1 c1 x (List.mem_of_getElem? dw)
 have aR:∀(i:Nat) E,cC[i]? = some E→q2 N E=true:=λi E b1=>List.all_eq_true.1 c2 E (List.mem_of_getElem? b1)
 have Cl:oi opsA (Array.replicate opsA.size false):=λj o av hj=>by have cX:j<opsA.size:=(Array.getElem?_eq_some_iff.1 av).1;simp [Array.getD_eq_getD_getElem?,cX]at hj
 have Cm:=jA.text cE (λg1 g2 gL Z=>Alike.trans Z gL) (lB opsA.toList cC) 0 (Array.replicate opsA.size false) _ (λj=>by have:=(vP hlen j).1;simpa using this) (λj=>by have:=(vP hlen j).2;simpa using this)
  ⟨by simp,λj hj=>by simp [hj]⟩ Cl c4 Ok
 have vm:(lB opsA.toList cC).length=opsA.size:=by rw [Oh hlen];simp
 rw [vm]at Cm;refine jA.sound (K:=K) cz (λi E b1=>jm E (List.mem_of_getElem? b1)) cE aR c3 ?_ _ _ _ tmps _ M β Cm (by simp) Cl (λx hx=>by cases hx) ⟨(cN.drew _).up _,eu,(λs id h _ b hb=>by have Z:=cN.lt _ _ hb;have aa:=(G5 _ _ _ (sc h)).1;simp only at aa;omega),λ_ _ _ h=>by simp [G3,look]at h⟩
 intro g1 fW w' M' β' agP cM;exact⟨.normal,_,⟨rfl,rfl,cM.size,M',β',Alike.bw agP.symm cM.bw⟩,ei⟩
def a_.Ol{α:Type}{b:Bool}{x y:Option α}{r:Option α}(h:(bif b then x else y)=r){c:Nat}{vT vU:Code}{Q:cp→aK→Prop}(hc:(look st.env c).map (·.d)=some (.v (.bool b)))
 (aF:x=r→a_ P N E vT Q st) (aW:y=r→a_ P N E vU Q st):a_ P N E (.cond (.tmp c) vT vU) Q st:=by
 simp only [Option.map_eq_some_iff]at hc;obtain⟨⟨d,own⟩,he,rfl⟩:=hc;exact a_.cond b own he (λhb=>aF (by subst hb;exact h)) (λhb=>aW (by subst hb;exact h))
def a_.agQ{c:Nat}{vT vU:Code}{Q:cp→aK→Prop}(hc:(look st.env c).map (·.d)=some (.v (.bool true)))(aF:a_ P N E vT Q st):a_ P N E (.cond (.tmp c) vT vU) Q st:=by
 simp only [Option.map_eq_some_iff]at hc;obtain⟨⟨d,own⟩,he,rfl⟩:=hc;exact a_.cond true own he (λ_=>aF) (λhb=>by cases hb)
def a_.Xh{c:Nat}{vT vU:Code}{Q:cp→aK→Prop}(hc:(look st.env c).map (·.d)=some (.v (.bool false)))(aW:a_ P N E vU Q st):a_ P N E (.cond (.tmp c) vT vU) Q st:=by
 simp only [Option.map_eq_some_iff]at hc;obtain⟨⟨d,own⟩,he,rfl⟩:=hc;exact a_.cond false own he (λhb=>by cases hb) (λ_=>aW)
end
def bF{P:Program}{f:FuncId}{args:List D}{eo:List (Nat×TypeId)}{H cJ:List (List a7)}{out:Out}(_:gW P f args eo H out cJ)(os:List Nat):fu:=.call out (some cJ) os
def bd{P:Program}{f:FuncId}{args:List D}{eo:List (Nat×TypeId)}{H cJ:List (List a7)}{out:Out}(_:gW P f args eo H out cJ)(os:List Nat):fu:=.call out none os
def dn{c:Prop}{P:Program}{f:FuncId}{args:List D}{eo:List (Nat×TypeId)}{H cJ:List (List a7)}{out:Out}(_:c→gW P f args eo H out cJ):fu:=.call out none []
def yi{c c2:Prop}{P:Program}{f:FuncId}{args:List D}{eo:List (Nat×TypeId)}{H cJ:List (List a7)}{out:Out}(_:c→c2→gW P f args eo H out cJ):fu:=.call out none []
def gq{raw x:V}(_:hA raw x):fu:=.val x
def ff{α:Type}[Inhabited α]{k:Nat}{e:α→V}(l:List α):hA (.bH k l.length λi=>(l.map e).getD i .eA) (ah k e l):=agq rfl _ rfl
def nv(l:List Int):Bool:=l.all λx=>decide (0≤x)&&decide (x<256)
def jR(l:List Int):atW:=l.map λx=>UInt8.ofNat x.toNat
def Cn{l:List Int}(h:nv l=true):(jR l).length=l.length∧∀i,i<l.length→V.int .u8 (l.getD i default) = .int .u8 (((jR l).getD i 0).toNat:Int):=by
 refine⟨by simp [jR],λi hi=>?_⟩
 unfold nv at h;rw [List.all_eq_true]at h;have:=h l[i] (List.getElem_mem hi)
 simp only [Bool.and_eq_true,decide_eq_true_eq]at this;simp only [jR,List.getD,List.getElem?_map,List.getElem?_eq_getElem hi,Option.getD_some,Option.map_some,UInt8.toNat_ofNat'];rw [Nat.mod_eq_of_lt (by omega)]
 congr 1
 omega
def G7(T:TypeId):V→Option (Int×Int)
 |.iface t (.agg [.int .i64 a,.int .i64 b])=>bif Nat.beq t T then some (a,b)else none
 |_=>none
def Xi{T:TypeId}{x:V}{r:Int×Int}(h:G7 T x=some r):x = .iface T (.agg [.int .i64 r.1,.int .i64 r.2]):=by
 unfold G7 at h;split at h
 ·rw [Bool.cond_eq_ite]at h;split at h
  ·rename_i hb;cases h;rw [Nat.beq_eq]at hb;subst hb;rfl
  ·cases h
 ·cases h
def vV(M:Mem):Option V→FrameMode→Prop
 |none,m=>m = .returning
 |some x,m=>∃v,m = .panicking [{v,recovered:=false}]∧de M v x
def tU(P:Program)(fd:FuncId)(args:List D)(H:List (List a7))(x:Option V)(R:List (List a7)→Prop):Prop:=
 ∀(K:Ctx) (w:World) (vs:List Value) (M:Mem) (β:Nat→Option Nat) (mode:FrameMode),vs.length=args.length→
  bN P K M β {env:=hV args [],H:=cQ 0 H,aX:=H.length} ⟨vs⟩ w→(∀r b,β r=some b→K.lq r=some b)→vV M x mode→
  CallsD P fd ⟨vs⟩ mode w λe nw w'=>∃v bP M' β',e = .returned v∧settle nw = .returning∧R bP∧bN P K M' β' {env:=iv (.ret (.cw []) none),H:=cQ 0 bP,aX:=H.length} #[v] w'
section
variable {P:Program} {K:Ctx} {M:Mem} {β:Nat→Option Nat} {st:aK} {tmps:Array Value} {w:World} {tt:dI}
def vV.agR{x:Option V}{m:FrameMode}(h:vV M x m):m ≠ .run:=by
 cases x with
 |none=>intro hm;rw [hm]at h;cases h
 |some x=>obtain⟨v,Z,_⟩:=h;intro hm;rw [hm]at Z;cases Z
def vV.mono{M':Mem}(cT:M.le M'){x:Option V}{m:FrameMode}(h:vV M x m):vV M' x m:=by
 cases x with
 |none=>exact h
 |some x=>obtain⟨v,Z,aa⟩:=h;exact⟨v,Z,aa.mono cT⟩
def q3(P:Program)(tt:dI)(E:Nat)(rs:List ResultVar)(fd:FuncId)(ds:List D)(R:Out→List (List a7)→Prop)(x:Option V)(st:aK):Prop:=
 ∃(ρ:List Nat) (bs H1:List (List a7)) (jH:List D) (Om:List (List a7)→Prop),nl ρ=true∧boxes st.H ρ=some bs∧j' (idx ρ) bs=some H1∧ln (idx ρ) ds=some jH∧tU P fd jH H1 x Om∧
  ∀cJ,Om cJ→∃iO o bP,cJ.length=ρ.length∧j' (λj=>ρ[j]?) cJ=some iO∧Ab.leave tt E rs {env:=st.env,H:=lp ρ iO++st.H,aX:=st.aX}=some (o,bP)∧R o (oe bP)
def On{fn:Func}{E:Nat}(cz:fB P tt=true)(eF:∀r b,K.lq r=some b→r<E)(hs:bN P K M β st tmps w){fd:FuncId}{ds:List D}{vs:List Value}(hlen:vs.length=ds.length)(aw:∀(i:Nat) v d,vs[i]? = some v→ds[i]? = some d→cy M β v d)
 {x : Option V} {mode : FrameMode} (hm : vV M x mode) {f : Func} (aW : P.funcs[fd]? = some f) (hb : f.body.isSome = true) (jM : decide (f.name = "runtime.NumGoroutine") = false) {R : Out → List (List a7) → Prop} (nt : q3 P tt E fn.results.toList fd ds R x st) :
 Leaves P fn tmps (λe w'=>∃o bP v M' β',R o bP∧e=tE o v∧bN P K M' β' {env:=iv o,H:=cQ 0 bP,aX:=E} #[v] w') [{target:=.fn (.func fd) ⟨vs⟩,args := #[]}] mode w:=by
 obtain⟨ρ,bs,H1,jH,Om,hn,kY,mm,e7,hd,gp⟩:=nt;have qY:f.body≠none:=by intro bm;rw [bm]at hb;cases hb
 have Co : f.name ≠ "runtime.NumGoroutine" := by simpa using jM
 refine leaves_cons (f:=fd) (args:=⟨vs⟩) hm.agR (by simp [invoke,callFunc,aW,qY,Co]) ?_
 have hc:=V4 (hd:=[]) hs hn kY mm hlen aw e7 ⟨by simp,by simp,by simp⟩
 have fk:H1.length=ρ.length:=by rw [(x2 mm).1,(vn kY).1]
 refine(hd (ky M β st tmps w ρ []) w vs M _ mode (by rw [hlen,Wu e7]) hc (λr b h=>h) hm).mono ?_
 rintro e nw w' ⟨v,bP,M',β',rfl,hu,agS,cN⟩
 obtain⟨iO,o,Xj,Z,aa,aj,aC⟩:=gp bP agS;rw [fk]at cN;obtain⟨cT,Oo,_,_⟩:=NB hs hn kY aa Z cN
 dsimp only
 rw [hu];obtain⟨v2,aT,mX,M2,vW,bQ,cK⟩:=Ce cz eF Oo aj;exact⟨v2,aT,o,oe Xj,mX,M2,vW,aC,bQ,cK.era⟩
def pZ(P:Program)(_tt:dI)(fn:Func)(E:Nat)(c:Code)(R:Out→List (List a7)→Prop)(st:aK):Prop:=
 ∀(K:Ctx),K.ds=[]→(∀r b,K.lq r=some b→r<E)→∀(a:Act) (w:World),tL P K fn.ntmps .normal st .normal a w→
  c.wp P (bodyPostD P fn λe w'=>∃o bP v M' β',R o bP∧e=tE o v∧bN P K M' β' {env:=iv o,H:=cQ 0 bP,aX:=E} #[v] w') a w
def Oq(P:Program)(tt:dI)(fn:Func)(E:Nat)(y:Code)(R:Out→List (List a7)→Prop):cp→aK→Prop
 |.normal,st=>pZ P tt fn E y R st
 |.ret,st=>∃o bP,Ab.leave tt E fn.results.toList st=some (o,bP)∧R o (oe bP)
 |_,_=>False
def pZ.seq{fn:Func}{E:Nat}{x y:Code}{R:Out→List (List a7)→Prop}(cz:fB P tt=true)(h:a_ P fn.ntmps E x (Oq P tt fn E y R) st):pZ P tt fn E (.seq x y) R st:=by
 intro K h9 eF a w hs;refine wp_seq (wp_mono (h K eF a w hs) ?_)
 rintro e d' w' ⟨fO,b8,Z,aa⟩
 cases fO with
 |normal=>obtain⟨rfl,aj⟩:=Z;exact aa K h9 eF d' w' ⟨rfl,aj⟩
 |ret=>
  obtain⟨rfl,hd,_,M',β',cN⟩:=Z;obtain⟨o,bP,aj,aC⟩:=aa;obtain⟨v,aT,mX,M2,vW,bQ,cK⟩:=Ce cz eF cN aj;show Leaves P fn d'.tmps _ d'.defers .returning w'
  rw [hd,h9];exact⟨v,aT,o,oe bP,mX,M2,vW,aC,bQ,cK.era⟩
 |exit i=>exact aa.elim
 |bf x=>exact aa.elim
def Ot(P:Program)(tt:dI)(E:Nat)(rs:List ResultVar)(fd:FuncId)(ds:List D)(R:Out→List (List a7)→Prop):cp→aK→Prop
 |.normal,st |.ret,st=>q3 P tt E rs fd ds R none st
 |.bf x,st=>q3 P tt E rs fd ds R (some x) st
 |.exit _,_=>False
def pZ.defer{fn:Func}{E:Nat}{id:Nat}{opsA:Array Oper}{dL ij:Oper}{y:Code}{R:Out→List (List a7)→Prop}(cz:fB P tt=true)(ns:opsA = #[dL,ij]){t:Nat}{fd:FuncId}{fc:Array Operand}{c:Call}
 (Z:dL.op = .makeFunc (.func fd) #[] fc) (aa:dL.dst=some t) (aj:dL.guard=none) (aC:ij.op = .defer c) (aT:ij.dst=none) (bQ:ij.guard=none) (cK:c.callee = .value (.tmp t)) (di:c.args = #[]) (aF:Nat.blt t fn.ntmps=true)
 {ds : List D} (agT : mapM' (rd st.env [] [] tt 0) fc.toList = some ds) (_hE : Nat.ble E st.aX = true) {f : Func} (aW : P.funcs[fd]? = some f) (hb : f.body.isSome = true) (jM : decide (f.name = "runtime.NumGoroutine") = false)
 (h9:u5 st.aX ds=true)
 (h:a_ P fn.ntmps st.aX y (Ot P tt E fn.results.toList fd ds R) {env:=del st.env t,H:=st.H,aX:=st.aX}):pZ P tt fn E (.seq (.region id opsA false) y) R st:=by
 rintro K agU eF a w ⟨_,hd,eu,M,β,cN⟩
 obtain⟨tmps,defers⟩:=a;simp only at hd eu
 rw [agU]at hd;subst hd;have cX:t<tmps.size:=by rw [eu];simpa using aF
 -- ml captured values
 obtain⟨fk,eQ⟩:=tx agT;have sv:fX P K fn.ntmps M β {env:=st.env,b5:=[],H:=st.H,aX:=st.aX,rs:=[],a6:=[]} tmps w:=⟨cN,eu,(λ_ _ h=>by simp [look]at h),λ_ _ _ h=>by simp [look]at h⟩
 have np:∀(i:Nat) v d,(fc.toList.map (⟨tmps,[]⟩:Act).eval)[i]? = some v→ds[i]? = some d→cy M β v d:=by
  intro i v d aw hd;rw [List.getElem?_map,Option.map_eq_some_iff]at aw;obtain⟨x,hx,rfl⟩:=aw;exact eh (ds:=[]) (p:=[]) sv (λx hx=>by cases hx) (eQ i x d hx hd)
 have hlen:(fc.toList.map (⟨tmps,[]⟩:Act).eval).length=ds.length:=by simp at fk ⊢;omega
 -- ml frame behind ml region
 have p0:bN P K M β {env:=del st.env t,H:=st.H,aX:=st.aX} (tmps.setIfInBounds t (.func (.func fd) #[] ⟨fc.toList.map (⟨tmps,[]⟩:Act).eval⟩)) w:=cN.drop
 let q4:Ctx:={BD:=M,F:=K.F,lq:=λr=>if r<st.aX then β r else none,h7:=K.h7,ds:=[{target:=.fn (.func fd) ⟨fc.toList.map (⟨tmps,[]⟩:Act).eval⟩,args := #[]}]}
 have Oo:bN P q4 M β {env:=del st.env t,H:=st.H,aX:=st.aX} (tmps.setIfInBounds t (.func (.func fd) #[] ⟨fc.toList.map (⟨tmps,[]⟩:Act).eval⟩)) w:=
  ⟨p0.fv,p0.own,p0.uniq,p0.unbox,p0.box,p0.inj,p0.lt,p0.mem,Mem.le_refl _,(λb a6 dN=>⟨(p0.frame b a6 dN).1,λ_=>rfl⟩),(λr b hb=>by
   simp only [q4]at hb;split at hb
   ·exact hb
   ·cases hb),p0.jx,p0.h7⟩
 have Ou:∀{M':Mem} {β':Nat→Option Nat} {b8:aK} {fW:Array Value} {w':World},bN P q4 M' β' b8 fW w'→bN P K M' β' b8 fW w':=by
  intro M' β' b8 fW w' cM
  exact⟨cM.fv,cM.own,cM.uniq,cM.unbox,cM.box,cM.inj,cM.lt,cM.mem,Mem.le_trans cN.m0 cM.m0,(λb a6 dN=>⟨(cM.frame b a6 dN).1,λo=>((cM.frame b a6 dN).2 o).trans ((cN.frame b a6 dN).2 o)⟩),(λr b hb=>cM.iP r b (by
   have el:=cN.iP r b hb;have gF:=cN.lt r b el;simp only [q4];rw [if_pos gF];exact el)),cM.jx,cM.h7⟩
 have hC:∀{M':Mem} {β':Nat→Option Nat} {b8:aK} {fW:Array Value} {w':World},bN P q4 M' β' b8 fW w'→∀r,r<st.aX→∀b,β r=some b→β' r=some b:=λcM r ai b hb=>cM.iP r b (by simp only [q4];rw [if_pos ai];exact hb)
 refine wp_seq (wp_region ?_);subst ns
 have e1:(execOp (Act.eval ⟨tmps,[]⟩) dL).run P w = .ok (.value (.func (.func fd) #[] ⟨fc.toList.map (⟨tmps,[]⟩:Act).eval⟩)) w:=by
  simp only [execOp,Z,Instr.makeFunc];refine jy _ ?_;simp
  congr 1
  apply Array.ext';simp
 have e2:(execOp (Act.eval ⟨tmps.setIfInBounds t (.func (.func fd) #[] ⟨fc.toList.map (⟨tmps,[]⟩:Act).eval⟩),[]⟩) ij).run P w = .ok (.defer {target:=.fn (.func fd) ⟨fc.toList.map (⟨tmps,[]⟩:Act).eval⟩,args := #[]}) w:=by
  simp [execOp,aC,resolve,cK,di,Deferred.ofValue,Act.eval,cX]
 show wpOps P #[dL,ij] _ (List.range 2) ⟨tmps,[]⟩ w
 simp only [List.range,List.range.loop,wpOps];have yj:∀kC,Region.wanted dL (yielded #[dL,ij] kC)=true:=λkC=>by simp [Region.wanted,aj]
 have Cp:∀kC,Region.wanted ij (yielded #[dL,ij] kC)=true:=λkC=>by simp [Region.wanted,bQ]
 simp only [show(#[dL,ij]:Array Oper)[0]? = some dL from rfl,show(#[dL,ij]:Array Oper)[1]? = some ij from rfl,yj,Cp,if_true]
 refine .inl ?_;unfold Oper.wp;rw [e1,Oper.upon_value,aa];refine .inl ?_;have agV:(execOp ((⟨tmps,[]⟩:Act).put (some t) (.func (.func fd) #[] ⟨fc.toList.map (⟨tmps,[]⟩:Act).eval⟩)).eval ij).run P w = .ok (.defer {target:=.fn (.func fd) ⟨fc.toList.map (⟨tmps,[]⟩:Act).eval⟩,args := #[]}) w:=e2;rw [agV,Oper.upon_defer,aT];show y.wp P _ ⟨tmps.setIfInBounds t _,[_]⟩ w
 have su:∀r b,q4.lq r=some b→r<st.aX:=by
  intro r b hb;simp only [q4]at hb;split at hb
  ·assumption
  ·cases hb
 refine wp_mono (h q4 su _ w ⟨rfl,rfl,by simpa using eu,M,β,Oo⟩) ?_
 rintro e d' w' ⟨fO,b8,g1,g2⟩
 have oV:∀{M':Mem} {β':Nat→Option Nat} {b8:aK} {fW:Array Value} {w':World},bN P q4 M' β' b8 fW w'→∀(i:Nat) v d,(fc.toList.map (⟨tmps,[]⟩:Act).eval)[i]? = some v→ds[i]? = some d→cy M' β' v d:=by
  intro M' β' b8 fW w' cM i v d aw hd;have cT:M.le M':=cM.m0;exact((np i v d aw hd).mono cT).ad' (λr ai b hb=>hC cM r ai b hb) (tr h9 hd)
 cases fO with
 |normal=>
  obtain⟨rfl,hd,_,M',β',hs⟩:=g1;show Leaves P fn d'.tmps _ d'.defers .returning w'
  rw [hd];exact On cz eF (Ou hs) hlen (oV hs) (x:=none) rfl aW hb jM g2
 |ret=>
  obtain⟨rfl,hd,_,M',β',hs⟩:=g1;show Leaves P fn d'.tmps _ d'.defers .returning w'
  rw [hd];exact On cz eF (Ou hs) hlen (oV hs) (x:=none) rfl aW hb jM g2
 |exit i=>exact g2.elim
 |bf x=>
  obtain⟨v,rfl,hd,M',β',gI,hs⟩:=g1;show Leaves P fn d'.tmps _ d'.defers (.panicking _) w'
  rw [hd];exact On cz eF (Ou hs) hlen (oV hs) (x:=some x) ⟨v,rfl,gI⟩ aW hb jM g2
def qT.agW {f : FuncId} {fn : Func} {c : Code} {args : List D} {eo : List (Nat × TypeId)} {H : List (List a7)} {R : Out → List (List a7) → Prop} (aW : P.funcs[f]? = some fn) (hb : fn.body = some c) (jM : decide (fn.name = "runtime.NumGoroutine") = false)
 (e7:Nat.ble args.length fn.ntmps=true) (h:pZ P tt fn H.length c R {env:=hV args eo,H:=cQ 0 H,aX:=H.length}):qT P f args eo H R:=by
 refine⟨⟨fn,aW,by rw [hb];rfl,by simpa using jM⟩,?_⟩
 intro co w vs M β hlen N5 N6
 suffices key:∀K:Ctx,K.ds=[]→bN P K M β {env:=hV args eo,H:=cQ 0 H,aX:=H.length} ⟨vs⟩ w→(∀r b,β r=some b→K.lq r=some b)→
  Calls P f ⟨vs⟩ w λe w'=>∃o bP v M' β',R o bP∧e=tE o v∧bN P K M' β' {env:=iv o,H:=cQ 0 bP,aX:=H.length} #[v] w' from
  (key {co with ds:=[]} rfl (N5.vG []) N6).mono λe w' ⟨o,bP,v,M',β',Z,aa,aj⟩=>⟨o,bP,v,M',β',Z,aa,aj.vG co.ds⟩
 intro K h9 cN hC;have eF:∀r b,K.lq r=some b→r<H.length:=λr b hb=>cN.lt r b (cN.iP r b hb)
 simp only [Nat.ble_eq]at e7;exact calls_of_wp_defers aW hb (h K h9 eF {tmps:=(⟨vs⟩:Array Value)++Array.replicate (fn.ntmps-(⟨vs⟩:Array Value).size) undef,defers:=[]} w ⟨rfl,h9.symm,by simp;omega,M,β,N4 hlen cN⟩)
def tU.Xk{fd:FuncId}{fn:Func}{i0:Nat}{opsA:Array Oper}{dL ij:Oper}{rest:Code}{r t2:Nat}{c:Call}(cz:fB P tt=true)(aW:P.funcs[fd]? = some fn)(hb:fn.body=some (.seq (.region i0 opsA false) rest))(ns:opsA = #[dL,ij])
 (Z:dL.op = .call c) (aa:dL.dst=some r) (aj:dL.guard=none) (aC:c.callee = .builtin .recover) (aT:c.args = #[]) (bQ:ij.op = .assign (.tmp r)) (cK:ij.dst=some t2) (di:ij.guard=none)
 {args:List D} {H:List (List a7)} {x:Option V} {R:List (List a7)→Prop} (ai:Nat.blt r fn.ntmps=true) (jN:Nat.blt t2 fn.ntmps=true) (e7:Nat.ble args.length fn.ntmps=true)
 (h:a_ P fn.ntmps H.length rest (tN tt H.length fn.results.toList λo bP=>o = .ret (.cw []) none∧R bP) {env:=(t2,{d:=.v (x.getD .ir)})::del (hV args []) r,H:=cQ 0 H,aX:=H.length}):tU P fd args H x R:=by
 intro K w vs M β mode hlen cN hC hm;have eF:∀r b,K.lq r=some b→r<H.length:=λr b hb=>cN.lt r b (cN.iP r b hb)
 simp only [Nat.ble_eq]at e7;simp only [Nat.blt_eq]at ai jN;refine callsD_of_wpS aW hb λtV cs hu=>?_
 apply wpS_seq;apply wpS_region;subst ns;have yj:∀kC,Region.wanted dL (yielded #[dL,ij] kC)=true:=λkC=>by simp [Region.wanted,aj]
 have Cp:∀kC,Region.wanted ij (yielded #[dL,ij] kC)=true:=λkC=>by simp [Region.wanted,di]
 have e1:∀a:Act,(execOp a.eval dL).run P w = .ok .recover w:=λa=>by
  simp [execOp,Z,resolve,aC,aT,invoke,builtin]
 have dx:=N4 (n:=fn.ntmps-(⟨vs⟩:Array Value).size) hlen cN
 -- NC 'recover' afX
 have key:∃(v:Value) (nw:FrameMode),de M v (x.getD .ir)∧settle nw = .returning∧(recoverD (tV::cs)=some (v,{tV with mode:=nw}::cs)∨(recoverD (tV::cs)=none∧v = .nilIface∧({tV with mode:=nw}:Frame)=tV)):=by
  cases x with
  |none=>
   have kg:mode = .returning:=hm;subst kg;exact⟨.nilIface,.returning,.ir,rfl,.inr ⟨by simp [recoverD,hu],rfl,by rw [←hu]⟩⟩
  |some y=>
   obtain⟨v,kg,aw⟩:=hm;subst kg;exact⟨v,.panicking [{v,recovered:=true}],aw,by simp [settle],.inl (by simp [recoverD,hu])⟩
 obtain⟨v,nw,aw,xZ,Cq⟩:=key;show wpOpsS P #[dL,ij] _ (List.range 2) _ (tV::cs) w
 simp only [List.range,List.range.loop,wpOpsS,show(#[dL,ij]:Array Oper)[0]? = some dL from rfl,show(#[dL,ij]:Array Oper)[1]? = some ij from rfl,yj,Cp,if_true,e1]
 have e2:∀kC:Array Value,r<kC.size→(execOp (Act.eval ⟨kC.setIfInBounds r v,[]⟩) ij).run P w = .ok (.value v) w:=λkC aF=>by
  simp [execOp,bQ,Act.eval,aF]
 have eu:((⟨vs⟩:Array Value)++Array.replicate (fn.ntmps-(⟨vs⟩:Array Value).size) undef).size=fn.ntmps:=by simp;omega
 generalize asv:(⟨vs⟩:Array Value)++Array.replicate (fn.ntmps-(⟨vs⟩:Array Value).size) undef=kC at dx eu
 have nt:∀cs',cs'={tV with mode:=nw}::cs→rest.wpS P (bodyPostS P fn tV cs λe nw w'=>∃v bP M' β',e = .returned v∧settle nw = .returning∧R bP∧bN P K M' β' {env:=iv (.ret (.cw []) none),H:=cQ 0 bP,aX:=H.length} #[v] w')
  ⟨(kC.setIfInBounds r v).setIfInBounds t2 v,[]⟩ cs' w:=by
  intro cs' et
  have ol:bN P {K with ds:=[]} M β {env:=(t2,{d:=.v (x.getD .ir)})::del (hV args []) r,H:=cQ 0 H,aX:=H.length} ((kC.setIfInBounds r v).setIfInBounds t2 v) w:=
   ((dx.drop (t:=r) (v:=v)).put (t:=t2) (v:=v) (e:={d:=.v (x.getD .ir)}) (by rw [Array.size_setIfInBounds,eu];exact jN) (.v _ _ aw) (λT aG=>by cases aG)).vG []
  refine wpS_of_wp (wp_mono (h {K with ds:=[]} eF _ w ⟨rfl,rfl,by simpa using eu,M,β,ol⟩) ?_)
  rintro e d' w' ⟨fO,b8,g1,g2⟩
  cases fO with
  |normal=>
   obtain⟨rfl,hd,_,M',β',hs⟩:=g1;obtain⟨o,bP,g3,rfl,g4⟩:=g2;obtain⟨v2,g5,mX,M2,vW,g6,g7⟩:=Ce cz (K:={K with ds:=[]}) eF hs g3;cases g6;exact⟨hd,nw,et,v2,g5,v2,bP,M2,vW,rfl,xZ,g4,g7.vG K.ds⟩
  |ret=>
   obtain⟨rfl,hd,_,M',β',hs⟩:=g1;obtain⟨o,bP,g3,rfl,g4⟩:=g2;obtain⟨v2,g5,mX,M2,vW,g6,g7⟩:=Ce cz (K:={K with ds:=[]}) eF hs g3;cases g6;exact⟨hd,nw,et,v2,g5,v2,bP,M2,vW,rfl,xZ,g4,g7.vG K.ds⟩
  |exit i=>exact g2.elim
  |bf y=>
   obtain⟨bP,_,g4,_⟩:=g2;cases g4
 have e3:(execOp ((({tmps:=kC,defers:=[]}:Act).put dL.dst v).eval) ij).run P w = .ok (.value v) w:=by
  rw [aa];exact e2 kC (by omega)
 rcases Cq with Cq|⟨Cq,rfl,hc0⟩
 ·simp only [Cq,e3];rw [Oper.upon_value,aa,cK];exact nt _ rfl
 ·simp only [Cq,e3];rw [Oper.upon_value,aa,cK];exact nt _ (by rw [hc0])
end
def p1(H:List (Nat×List a7)):Nat→List (Nat×List a7)
 | 0=>[]
 |n+1=>match look H n with
  |some cs=>(n,cs)::p1 H n
  |none=>p1 H n
def Ov{H:List (Nat×List a7)}:∀{n q:Nat} {cs:List a7},look (p1 H n) q=some cs→q<n∧look H q=some cs
 | 0,q,cs,h=>by simp [p1,look]at h
 |n+1,q,cs,h=>by
  unfold p1 at h;split at h
  ·rename_i c hc;rw [dX]at h;split at h
   ·rename_i ao;subst ao;cases h;exact⟨by omega,hc⟩
   ·obtain⟨Z,aa⟩:=Ov h;exact⟨by omega,aa⟩
  ·obtain⟨Z,aa⟩:=Ov h;exact⟨by omega,aa⟩
def Xl(mk:Nat)(ops:List Oper)(o:Oper)(x:V)(hs:List (Nat×List a7))(a6:List Prop)(kh:List Nat)(rs:List fu)(tP:List (Nat×List a7)):ev:=
 {dst:=o.dst,p:=[],f:={e:=none,rs:=[],hs:=[(mk,[])],a6},kh,nu:=pU ops o,pS:=q0 o,rs,kd:=1,vH:=x,pT:=hs,tP}
def Xm(ops:List Oper)(o:Oper):ev:=
 {dst:=o.dst,p:=[],f:={e:=none,rs:=[]},kh:=[],nu:=pU ops o,pS:=q0 o,rs:=[],kd:=2}
def sw(cd:gD)(tt:dI)(ops:List Oper)(gr mk:Nat):Nat→List Oper→List (List fu)→dk→Option (List ev×dk×List Prop×List (V×List (Nat×List a7)))
 |_,[],[],g=>some ([],g,[],[])
 |i,o::l,rs::jP,g=>bif Nat.beq i gr then match pG ops g o with
  |some []=>match step1 cd tt ops {g with rs:=rs} [] o with
   |some (.bf x hs a6)=>match sw cd tt ops gr mk (i+1) l jP (eD (Xl mk ops o x hs a6 (iW tt g [] o++List.range mk) rs g.H) g) with
    |some (cC,e0,tM,xs)=>some (Xl mk ops o x hs a6 (iW tt g [] o++List.range mk) rs g.H::cC,e0,tM++a6,(x,hs++p1 g.H mk)::xs)
    |none=>none
   |_=>none
  |_=>none
  else bif waits ops gr 3 i then match sw cd tt ops gr mk (i+1) l jP (eD (Xm ops o) g) with
   |some (cC,e0,tM,xs)=>some (Xm ops o::cC,e0,tM,xs)
   |none=>none
  else match findD cd tt ops g o rs with
   |some E=>bif E.f.hs.all (λy=>!Nat.beq y.1 mk)then match sw cd tt ops gr mk (i+1) l jP (eD E g) with
    |some (cC,e0,tM,xs)=>some (E::cC,e0,tM++E.f.a6.map (under g E.p),xs)
    |none=>none
    else none
   |none=>none
 |_,_,_,_=>none
def Cr(cd:gD)(tt:dI)(N:Nat)(ops:List Oper)(gr mk:Nat)(jP:List (List fu))(st:aK):Option (V×List (Nat×List a7)×List Prop):=
 match sw cd tt ops gr mk 0 ops jP (G3 ops st) with
 |some (cC,g,a6,[(x,hs)])=>bif G0 N ops cC&&(look g.H mk).isSome&&(look st.H mk).isNone then some (x,hs,a6)else none
 |_=>none
def Ow:Option (V×List (Nat×List a7)×List Prop)→Option (V×List Prop)
 |some (x,_,b6)=>some (x,b6)
 |none=>none
def Ox:Option (V×List (Nat×List a7)×List Prop)→List (Nat×List a7)
 |some (_,H,_)=>H
 |none=>[]
section
variable {P:Program} {K:Ctx} {N E:Nat} {st:aK} {tt:dI} {opsA:Array Oper} {cd:gD}
structure Xn(opsA:Array Oper)(cC:List ev)(gr mk:Nat)(x:V)(hs:List (Nat×List a7)):Prop where
 dead:∀(i:Nat) E,cC[i]? = some E→E.kd=2→waits opsA.toList gr 3 i=true
 bf:∀(i:Nat) E,cC[i]? = some E→E.kd=1→E.p=[]∧E.vH=x∧E.pT++p1 E.tP mk=hs∧∀q,q<mk→q∈E.kh
 go:∀(i:Nat) E,cC[i]? = some E→E.kd=0→i≠gr∧(E.f.hs.all (λy=>!Nat.beq y.1 mk))=true
 kd:∀(i:Nat) E,cC[i]? = some E→E.kd=0∨E.kd=1∨E.kd=2
def agX{listed:Array Bool}(gJ:oi opsA listed){i gr:Nat}(hi:i∈Region.ready .any opsA listed){n:Nat}(hw:waits opsA.toList gr n i=true):listed.getD gr false=true:=by
 cases n with
 |zero=>simp [waits]at hw
 |succ n=>
  obtain⟨_,o,av,pW⟩:=mem_ready.1 hi;rw [waits]at hw;have ab:opsA.toList[i]? = some o:=by simpa using av
  simp only [ab]at hw;obtain⟨e,he,hb⟩:=List.any_eq_true.1 hw;simp only [Bool.and_eq_true,Bool.or_eq_true,Nat.beq_eq]at hb;have Z:=pW e (by simpa using he) hb.1
  rcases hb.2 with rfl|aa
  ·exact Z
  ·exact GR gJ aa Z
def Oy{mk:Nat}:∀{l H:List (Nat×List a7)},(l.all λy=>!Nat.beq y.1 mk)=true→look H mk=none→look (l++H) mk=none
 |[],_,_,h=>h
 |(a,b)::l,H,ab,h=>by
  simp only [List.all_cons,Bool.and_eq_true,Bool.not_eq_true']at ab;rw [List.cons_append,dX];have:a≠mk:=by intro e;subst e;simp at ab
  rw [if_neg this];exact Oy ab.2 h
def agY{E:ev}{g:dk}{mk:Nat}(h:(E.f.hs.all λy=>!Nat.beq y.1 mk)=true)(hg:look g.H mk=none):look (eD E g).H mk=none:=by
 unfold eD;cases E.dst with
 |none=>exact Oy h hg
 |some t=>
  cases E.p with
  |nil=>exact Oy h hg
  |cons x p=>dsimp only;cases E.f.e<;>exact hg
def jA.Xo(cz:fB P tt=true){cC:List ev}{gr mk:Nat}{x:V}{hs:List (Nat×List a7)}(kA:Xn opsA cC gr mk x hs)(cE:∀(i:Nat) o E,opsA[i]? = some o→cC[i]? = some E→gK opsA.toList o E=true)(aR:∀(i:Nat) E,cC[i]? = some E→q2 N E=true)(kx:Ck opsA.toList cC=true){Q:Exit→Act→World→Prop}
 (ei:∀n e d' w',tL P K N (.bf x) {env:=[],H:=hs,aX:=n} e d' w'→Q e d' w'):
 ∀(n:Nat) (listed:Array Bool) (g:dk) (tmps:Array Value) (w:World) (M:Mem) (β:Nat→Option Nat),jA (jL P) tt opsA cC (λg=>(look g.H mk).isSome=true) n listed g→listed.size=opsA.size→oi opsA listed→tT cC listed g→listed.getD gr false=false→look g.H mk=none→fX P K N M β g tmps w→wpAny P .any opsA Q n listed ⟨tmps,K.ds⟩ w
 | 0,_,g,tmps,w,M,β,h,_,_,_,_,fj,_=>by have:(look g.H mk).isSome=true:=h.2;rw [fj]at this;cases this
 |n+1,listed,g,tmps,w,M,β,h,eu,gJ,mS,Xp,fj,ge=>by
  refine⟨(λai=>by have:(look g.H mk).isSome=true:=h.1 ai;rw [fj]at this;cases this),λi hi=>?_⟩
  obtain⟨o,E,av,b1,GZ,hn⟩:=h.2 i hi;have cX:i<listed.size:=by rw [eu];exact(Array.getElem?_eq_some_iff.1 av).1
  have oj:listed.getD i false=false:=by have:=(mem_ready.1 hi).1;simpa [Array.getD_eq_getD_getElem?,cX]using this
  have pR:fX P K N M β {g with rs:=E.rs,a6:=[]} tmps w:=⟨ge.bw,ge.size,ge.fresh,ge.cond⟩;unfold wpOp;simp only [av];rcases kA.kd i E b1 with hk|hk|hk
  ·have jO:=GZ.resolve_left (by rw [hk];simp)
   obtain⟨G8,vE⟩:=kA.go i E b1 hk;have Of:=Xe (N:=N) hk jO b1 (cE i o E av b1) (aR i E b1) kx gJ oj mS;refine N1 pR cz (opsA:=opsA) rfl Of (λq ao=>?_) (λfW w' M' β' cM=>?_)
   ·obtain⟨q',pN,rfl⟩:=List.mem_map.1 ao;exact jO.a6 q' pN
   ·exact jA.Xo cz kA cE aR kx ei n _ (eD E g) fW w' M' β' hn (by simpa using eu) (gJ.set hi) (mS.ap b1 cX) (by rw [getD_set_ne false G8];exact Xp) (agY vE fj) ⟨cM.bw,cM.size,cM.fresh,cM.cond⟩
  ·have jO:=GZ.resolve_left (by rw [hk];simp)
   obtain⟨hp,hx,agZ,oY⟩:=kA.bf i E b1 hk
   have dx:step1 (jL P) tt opsA.toList {g with rs:=E.rs,a6:=[]} [] o=some (.bf x E.pT E.f.a6):=by
    have Z:=jO.st;rw [hk,hp,hx]at Z;refine Eq.trans ?_ Z;exact N_ (g1:={g with rs:=E.rs,a6:=[]}) (g2:={g with rs:=E.rs}) (λ_ _ _ _=>⟨rfl,rfl⟩) rfl rfl (λ_=>rfl) (λ_ _=>rfl)
   have Oz:pG opsA.toList {g with rs:=E.rs,a6:=[]} o=some []:=by rw [←hp];exact jO.GN
   have ag0:n6 (jL P) tt N opsA.toList {g with rs:=E.rs,a6:=[]} o=some (.bf x {env:=pF g.env,H:=E.pT++g.H,aX:=g.aX} (E.f.a6++[])):=by
    unfold n6;rw [Oz]
    dsimp only
    rw [dx];rfl
   refine WJ pR cz (opsA:=opsA) rfl ag0 (λq ao=>?_) (λe d' w' su=>?_)
   ·rw [List.append_nil]at ao;have:=jO.a6 q ao
    rw [hp]at this;exact this
   ·obtain⟨v,Z,aa,BN,BO,aj,aC⟩:=su;have nt:=jO.fin hk
    have l1:∀q cs,look hs q=some cs→look (E.pT++g.H) q=some cs:=by
     intro q cs ao;rw [←agZ,yf]at ao;rw [yf];cases ab:look E.pT q with
     |some c=>rw [ab]at ao;exact ao
     |none=>
      rw [ab]at ao;obtain⟨aT,bQ⟩:=Ov ao;rw [←bQ];exact nt q (oY q aT)
    refine ei g.aX e d' w' ⟨v,Z,aa,BN,BO,aj,(aC.B_ _).sub rfl (λl bg ab=>?_) (λq cs ao=>⟨cs,l1 q cs ao,rfl⟩)⟩
    cases l with
    |slot s=>simp [aK.at,look]at ab
    |cell q i=>
     simp only [aK.at]at ab ⊢;cases ao:look hs q with
     |none=>rw [ao]at ab;simp at ab
     |some cs=>
      rw [ao]at ab;rw [l1 q cs ao];exact⟨bg,ab,rfl,λ_ h=>h⟩
  ·have:=agX gJ hi (kA.dead i E b1 hk)
   rw [Xp]at this;cases this
def G9{ops:List Oper}{gr mk:Nat}{Fi:dk→Prop}:∀{l:List Oper} {i:Nat} {jP:List (List fu)} {g:dk} {cC:List ev} {e0:dk} {a6:List Prop} {xs:List (V×List (Nat×List a7))},sw cd tt ops gr mk i l jP g=some (cC,e0,a6,xs)→(∀q,q∈a6→q)→Fi e0→
 cC.length=l.length∧GW cd tt ops Fi (lB l cC) g∧
 (∀(j:Nat) E,cC[j]? = some E→(E.kd=0∧i+j≠gr∧(E.f.hs.all (λy=>!Nat.beq y.1 mk))=true)∨(E.kd=1∧E.p=[]∧(E.vH,E.pT++p1 E.tP mk)∈xs∧∀q,q<mk→q∈E.kh)∨(E.kd=2∧waits ops gr 3 (i+j)=true))
 |[],i,[],g,cC,e0,a6,xs,h,_,dN=>by
  simp only [sw,Option.some.injEq,Prod.mk.injEq]at h;obtain⟨rfl,rfl,rfl,rfl⟩:=h;exact⟨rfl,dN,by simp⟩
 |[],_,_::_,_,_,_,_,_,h,_,_=>by simp [sw]at h
 |_::_,_,[],_,_,_,_,_,h,_,_=>by simp [sw]at h
 |o::l,i,rs::jP,g,cC,e0,a6,xs,h,cn,dN=>by
  have next:∀{E:ev} {vO:List ev} {yk:List (V×List (Nat×List a7))},(∀(j:Nat) E,vO[j]? = some E→(E.kd=0∧i+1+j≠gr∧(E.f.hs.all (λy=>!Nat.beq y.1 mk))=true)∨(E.kd=1∧E.p=[]∧(E.vH,E.pT++p1 E.tP mk)∈yk∧∀q,q<mk→q∈E.kh)∨(E.kd=2∧waits ops gr 3 (i+1+j)=true))→(∀z,z∈yk→z∈xs)→
   ((E.kd=0∧i≠gr∧(E.f.hs.all (λy=>!Nat.beq y.1 mk))=true)∨(E.kd=1∧E.p=[]∧(E.vH,E.pT++p1 E.tP mk)∈xs∧∀q,q<mk→q∈E.kh)∨(E.kd=2∧waits ops gr 3 i=true))→
   ∀(j:Nat) df,(E::vO)[j]? = some df→(df.kd=0∧i+j≠gr∧(df.f.hs.all (λy=>!Nat.beq y.1 mk))=true)∨(df.kd=1∧df.p=[]∧(df.vH,df.pT++p1 df.tP mk)∈xs∧∀q,q<mk→q∈df.kh)∨(df.kd=2∧waits ops gr 3 (i+j)=true):=by
   intro E vO yk Z hx aa j df hj;cases j with
   |zero=>simp at hj;subst hj;exact aa
   |succ j=>
    have:=Z j df (by simpa using hj)
    rw [show i+1+j=i+(j+1)by omega]at this
    rcases this with aj|⟨aj,aC,aT,bQ⟩|aj
    ·exact .inl aj
    ·exact .inr (.inl ⟨aj,aC,hx _ aT,bQ⟩)
    ·exact .inr (.inr aj)
  simp only [sw]at h;rw [Bool.cond_eq_ite]at h;split at h
  ·rename_i G8;split at h
   case h_2=>cases h
   rename_i Oz;split at h
   case h_2=>cases h
   rename_i x hs agL dx;split at h
   case h_2=>cases h
   rename_i vO g1 Xq yk Z;simp only [Option.some.injEq,Prod.mk.injEq]at h;obtain⟨rfl,rfl,rfl,rfl⟩:=h;obtain⟨aa,aj,aC⟩:=G9 Z (λq ao=>cn q (List.mem_append_left _ ao)) dN
   refine⟨by simp [aa],⟨.inr ⟨Oz,dx,(λq ao=>cn q (List.mem_append_right _ ao)),(λq ao=>List.mem_append_left _ ao),λ_ q _=>rfl⟩,aj⟩,next aC (λz dw=>List.mem_cons_of_mem _ dw) (.inr (.inl ⟨rfl,rfl,List.mem_cons_self ..,λq ao=>List.mem_append_right _ (List.mem_range.2 ao)⟩))⟩
  ·rename_i G8;rw [Bool.cond_eq_ite]at h;split at h
   ·rename_i hw;split at h
    case h_2=>cases h
    rename_i vO g1 Xq yk Z;simp only [Option.some.injEq,Prod.mk.injEq]at h;obtain⟨rfl,rfl,rfl,rfl⟩:=h;obtain⟨aa,aj,aC⟩:=G9 Z cn dN;exact⟨by simp [aa],⟨.inl rfl,aj⟩,next aC (λz dw=>dw) (.inr (.inr ⟨rfl,hw⟩))⟩
   ·split at h
    case h_2=>cases h
    rename_i E b1;rw [Bool.cond_eq_ite]at h;split at h
    case isFalse=>cases h
    rename_i pI;split at h
    case h_2=>cases h
    rename_i vO g1 Xq yk Z;simp only [Option.some.injEq,Prod.mk.injEq]at h;obtain⟨rfl,rfl,rfl,rfl⟩:=h;obtain⟨aa,aj,aC⟩:=G9 Z (λq ao=>cn q (List.mem_append_left _ ao)) dN
    have Og:∀q,q∈E.f.a6→under g E.p q:=λq ao=>cn _ (List.mem_append_right _ (List.mem_map.2 ⟨q,ao,rfl⟩))
    have vE:=pI;unfold findD at b1;split at b1
    ·cases b1
    rename_i p hp;split at b1
    ·rename_i f aW;cases b1;exact⟨by simp [aa],⟨.inr ⟨hp,aW,Og,λ_ h=>h,λh=>by cases h⟩,aj⟩,next aC (λz dw=>dw) (.inl ⟨rfl,(by simpa using G8),vE⟩)⟩
    ·cases b1
def a_.ag1{id:Nat}{Q:cp→aK→Prop}(cz:fB P tt=true)(hm:P.follows .mixedOrders=true)(gr:Nat)(jP:List (Nat×List fu)){x:V}{b6:List Prop}(ai:Ow (Cr (jL P) tt N opsA.toList gr (st.aX+opsA.toList.length) (spread opsA.toList.length 0 jP) st)=some (x,b6))(cn:k0 b6)
 (ei:∀n,Q (.bf x) {env:=[],H:=Ox (Cr (jL P) tt N opsA.toList gr (st.aX+opsA.toList.length) (spread opsA.toList.length 0 jP) st),aX:=n}):a_ P N E (.region id opsA true) Q st:=by
 rintro K eF a w ⟨_,hd,eu,M,β,cN⟩
 obtain⟨tmps,ds⟩:=a;simp only at hd eu
 subst hd;refine wp_region_any hm ?_;cases l2:Cr (jL P) tt N opsA.toList gr (st.aX+opsA.toList.length) (spread opsA.toList.length 0 jP) st with
 |none=>rw [l2]at ai;cases ai
 |some res=>
 obtain⟨fG,l4,asw⟩:=res;rw [l2]at ai ei;simp only [Ow,Option.some.injEq,Prod.mk.injEq]at ai;obtain⟨rfl,rfl⟩:=ai;simp only [Ox]at ei;unfold Cr at l2;split at l2
 case h_2=>cases l2
 rename_i cC g tM gd ge fe;rw [Bool.cond_eq_ite]at l2;split at l2
 case isFalse=>cases l2
 rename_i hc;simp only [Option.some.injEq,Prod.mk.injEq]at l2;obtain⟨rfl,rfl,rfl⟩:=l2;simp only [Bool.and_eq_true,Option.isNone_iff_eq_none]at hc;obtain⟨⟨hc,GO⟩,Xr⟩:=hc;generalize asx:st.aX+opsA.toList.length=mk at fe GO Xr
 obtain⟨hlen,Ok,G'⟩:=G9 (Fi:=λg=>(look g.H mk).isSome=true) fe cn.mem GO
 simp only [G0,Bool.and_eq_true]at hc;obtain⟨⟨⟨c1,c2⟩,c3⟩,c4⟩:=hc
 have cE:∀(i:Nat) o E,opsA[i]? = some o→cC[i]? = some E→gK opsA.toList o E=true:=by
  intro i o E av b1;obtain⟨kZ,z2⟩:=vP hlen i;have kT:opsA.toList[i]? = some o:=by simpa using av
  rw [kT]at kZ;rw [b1]at z2;cases dw:(lB opsA.toList cC)[i]? with
  |none=>rw [dw]at kZ;simp at kZ
  |some x=>
   rw [dw]at kZ z2;simp at kZ z2
   subst kZ;subst z2;exact List.all_eq_true.1 c1 x (List.mem_of_getElem? dw)
 have aR:∀(i:Nat) E,cC[i]? = some E→q2 N E=true:=λi E b1=>List.all_eq_true.1 c2 E (List.mem_of_getElem? b1)
 have Cl:oi opsA (Array.replicate opsA.size false):=λj o av hj=>by have cX:j<opsA.size:=(Array.getElem?_eq_some_iff.1 av).1;simp [Array.getD_eq_getD_getElem?,cX]at hj
 have Cm:=jA.text cE (λg1 g2 gL Z=>by rw [←gL.box mk];exact Z) (lB opsA.toList cC) 0 (Array.replicate opsA.size false) _ (λj=>by have:=(vP hlen j).1;simpa using this) (λj=>by have:=(vP hlen j).2;simpa using this)
  ⟨by simp,λj hj=>by simp [hj]⟩ Cl c4 Ok
 have vm:(lB opsA.toList cC).length=opsA.size:=by rw [Oh hlen];simp
 rw [vm]at Cm
 have kA:Xn opsA cC gr mk gd ge:=by
  constructor
  ·intro i E b1 hk;rcases G' i E b1 with⟨Z,_⟩|⟨Z,_⟩|⟨_,Z⟩
   ·omega
   ·omega
   ·simpa using Z
  ·intro i E b1 hk;rcases G' i E b1 with⟨Z,_⟩|⟨_,Z,aa,aj⟩|⟨Z,_⟩
   ·omega
   ·simp only [List.mem_singleton,Prod.mk.injEq]at aa;exact⟨Z,aa.1,aa.2,aj⟩
   ·omega
  ·intro i E b1 hk;rcases G' i E b1 with⟨_,Z,aa⟩|⟨Z,_⟩|⟨Z,_⟩
   ·exact⟨by simpa using Z,aa⟩
   ·omega
   ·omega
  ·intro i E b1;rcases G' i E b1 with⟨Z,_⟩|⟨Z,_⟩|⟨Z,_⟩
   ·exact .inl Z
   ·exact .inr (.inl Z)
   ·exact .inr (.inr Z)
 refine jA.Xo (K:=K) (mk:=mk) cz kA cE aR c3 (λn e d' w' cM=>⟨_,_,cM,ei n⟩) _ _ _ tmps _ M β Cm (by simp) Cl (λx hx=>by cases hx) ?_ Xr ⟨(cN.drew _).up _,eu,(λs id h _ b hb=>by have Z:=cN.lt _ _ hb;have aa:=(G5 _ _ _ (sc h)).1;simp only at aa;omega),λ_ _ _ h=>by simp [G3,look]at h⟩
 rw [Array.getD_eq_getD_getElem?];by_cases G_:gr<opsA.size
 ·simp [G_]
 ·simp [G_]
end
section
variable {P:Program} {tt:dI} {fn:Func} {E:Nat} {st:aK}
def OA{y:Code}{R:Out→List (List a7)→Prop}(h:pZ P tt fn E y R st):Oq P tt fn E y R .normal st:=h
def ag2{y:Code}{out:Out}{Cs:List (List a7)}(h:(Ab.leave tt E fn.results.toList st).map (λx=>(x.1,oe x.2))=some (out,Cs)):Oq P tt fn E y (λo bP=>o=out∧bP=Cs) .ret st:=by
 rw [Option.map_eq_some_iff]at h;obtain⟨⟨o,bP⟩,Z,aa⟩:=h;cases aa;exact⟨o,bP,Z,rfl,rfl⟩
def Xs(tt:dI)(E:Nat)(rs:List ResultVar)(ds:List D)(ρ:List Nat)(cJ:List (List a7))(st:aK):Option (List (List a7)×List D×Out×List (List a7)):=
 bif !nl ρ then none else match boxes st.H ρ,ln (idx ρ) ds,j' (λj=>ρ[j]?) cJ with
  |some bs,some jH,some iO=>bif Nat.beq cJ.length ρ.length then match j' (idx ρ) bs,Ab.leave tt E rs {env:=st.env,H:=lp ρ iO++st.H,aX:=st.aX} with
   |some H1,some (o,bP)=>some (H1,jH,o,oe bP)
   |_,_=>none
   else none
  |_,_,_=>none
def q3.of{rs:List ResultVar}{fd:FuncId}{ds jH:List D}{x:Option V}(ρ:List Nat){H1 cJ Cs:List (List a7)}{o:Out}(d:tU P fd jH H1 x λbP=>bP=cJ)(hc:Xs tt E rs ds ρ cJ st=some (H1,jH,o,Cs)):
 q3 P tt E rs fd ds (λo' bP=>o'=o∧bP=Cs) x st:=by
 unfold Xs at hc;rw [Bool.cond_eq_ite]at hc;split at hc
 ·cases hc
 rename_i hn;split at hc
 case h_2=>cases hc
 rename_i bs a iO kY ha vu;rw [Bool.cond_eq_ite]at hc;split at hc
 case isFalse=>cases hc
 rename_i ab;split at hc
 case h_2=>cases hc
 rename_i ag3 o' bP mm fY;simp only [Option.some.injEq,Prod.mk.injEq]at hc;obtain⟨rfl,rfl,rfl,rfl⟩:=hc;refine⟨ρ,bs,ag3,a,_,(by simpa using hn),kY,mm,ha,d,λXj aj=>?_⟩
 subst aj;exact⟨iO,o',bP,(by simpa using ab),vu,fY,rfl,rfl⟩
def ag4{rs:List ResultVar}{fd:FuncId}{ds:List D}{R:Out→List (List a7)→Prop}(h:q3 P tt E rs fd ds R none st):Ot P tt E rs fd ds R .ret st:=h
def Xt{rs:List ResultVar}{fd:FuncId}{ds:List D}{R:Out→List (List a7)→Prop}{x:V}(h:q3 P tt E rs fd ds R (some x) st):Ot P tt E rs fd ds R (.bf x) st:=h
end
section
variable {P:Program}
def ag5{w:World}{b off:Nat}{vs:List Value}{T:TypeId}{oR:Nat×Nat}(h:w.heap[b]? = some (.cells ⟨vs⟩ T oR))(u:Value):
 (w.setCell ⟨b,off,none⟩ u).heap[b]? = some (.cells ⟨vs.set off u⟩ T oR):=by
 have cX:=lt_of_heap h;have cM:w.heap[b] = .cells ⟨vs⟩ T oR:=by simpa [Array.getElem?_eq_getElem cX]using h
 show(w.heap.modify b _)[b]? = _
 rw [Array.getElem?_eq_getElem (by simpa using cX),Array.getElem_modify_self,cM]
 simp
def ag6{w:World}{b off:Nat}{u:Value}(k:Nat)(h:k≠b):(w.setCell ⟨b,off,none⟩ u).heap[k]? = w.heap[k]? := Go.RowKit.Below.heap_setCell w ⟨b,off,none⟩ u k h
def Xu {f : FuncId} {fd : Func} {off : Nat} {u : TypeId} (kb : P.funcs[f]? = some fd) (OB : fd.body.isSome = true) (hn : decide (fd.name = "runtime.NumGoroutine") = false)
 (ag7:∀(b:Nat) (w:World),w.cell? ⟨b,off,none⟩=some (.pointer (some ⟨b,off,none⟩))→Calls P f #[.pointer (some ⟨b,off,none⟩)] w λe w'=>e = .returned (.tuple #[])∧w'=w)
 (ag8:∀(b:Nat) (w:World) (T:TypeId) (k:Nat),w.cell? ⟨b,off,none⟩=some (.pointer none)→w.shape? b=some (T,k)→off<k→liesAt P P.depth T (k / P.cellsOf T) off u 1=true→w.frozen? ⟨b,off,none⟩=false→
  Calls P f #[.pointer (some ⟨b,off,none⟩)] w λe w'=>e = .returned (.tuple #[])∧w'=w.setCell ⟨b,off,none⟩ (.pointer (some ⟨b,off,none⟩)))
 {cs:List a7} (et:cs[off]? = some ⟨.ct 0 off u,none⟩):gW P f [.ptr 0 off] [] [cs] (.ret (.cw []) none) [cs]:=by
 refine⟨⟨fd,kb,OB,by simpa using hn⟩,λK w vs M β hlen hs hC=>?_⟩
 obtain⟨v,rfl⟩:∃v,vs=[v]:=by
  match vs,hlen with
  |[v],_=>exact⟨v,rfl⟩
 have sj:=hs.fv (.slot 0) ⟨.ptr 0 off,none⟩ (by simp [aK.at,hV,sl,cQ,look])
 have vz:cu (⟨[v]⟩:Array Value) w β (.slot 0)=v:=by simp [cu]
 rw [vz]at sj;obtain⟨b,hb,rfl⟩:∃b,β 0=some b∧v = .pointer (some ⟨b,off,none⟩):=by cases sj with|ptr r o b h=>exact⟨b,h,rfl⟩
 have hl0:look (cQ 0 [cs]) 0=some cs:=by simp [cQ,look]
 obtain⟨bG,ws,T,bY,bm,Xv,ag9,ag',jg,hlies⟩:=hs.box 0 cs hl0;rw [hb]at bY;cases bY;have tJ:off<cs.length:=(List.getElem?_eq_some_iff.1 et).1;have Ct:ws[off]? = some ws[off]:=List.getElem?_eq_getElem (by omega)
 have ih:w.cell? ⟨b,off,none⟩=some ws[off]:=by rw [cell_of_heap bm,Ct]
 have gI:=hs.fv (.cell 0 off) ⟨.ct 0 off u,none⟩ (by simp [aK.at,hl0,et])
 have cj:cu (⟨[.pointer (some ⟨b,off,none⟩)]⟩:Array Value) w β (.cell 0 off)=ws[off]:=by simp [cu,hb,ih]
 rw [cj]at gI
 have fin:∀w',bN P K M β {env:=[],H:=cQ 0 [cs],aX:=[cs].length} #[.tuple #[]] w'→bN P K M β {env:=iv (.ret (.cw []) none),H:=cQ 0 [cs],aX:=[cs].length} #[.tuple #[]] w':=λw' h=>by
  have:=h.put (t:=0) (v:=.tuple #[]) (e:=⟨.cw [],none⟩) (by simp) (.cw [] [] rfl λi v c aw=>by simp at aw) (λT aG=>by cases aG)
  exact this
 generalize hx:ws[off]=x at ih gI Ct
 cases gI with
 |lW r o nw=>
  have hsh:w.shape? b=some (T,ws.length):=by simp [World.shape?,bm]
  have hfz:w.frozen? ⟨b,off,none⟩=false:=by simp [World.frozen?,bm]
  have mR:=hlies _ (List.mem_of_getElem? et) 0 off u rfl;refine(ag8 b w T ws.length ih hsh (by omega) mR hfz).mono ?_
  rintro e w' ⟨rfl,rfl⟩
  refine⟨_,_,.tuple #[],M,β,⟨rfl,rfl⟩,rfl,fin _ ?_⟩
  have Z:=(hs.B_ #[.tuple #[]]).MQ (r:=0) (b:=b) (cs:=cs) (w':=w.setCell ⟨b,off,none⟩ (.pointer (some ⟨b,off,none⟩))) hl0 hb bm (vs':=ws.set off (.pointer (some ⟨b,off,none⟩))) (cs':=cs) (by simpa using Xv)
   (λy ce=>by
    rcases List.mem_or_eq_of_mem_set ce with h|rfl
    ·exact jg y h
    ·rfl) (λh=>by rw [List.length_set];exact h) rfl (ag5 bm _) (λk hk=>ag6 k hk) cs.length (λi y e ce he=>by
    by_cases hi:off=i
    ·subst hi;rw [List.getElem?_set_self (by omega)]at ce
     cases ce;rw [et]at he;cases he;exact⟨.ct 0 off b u hb,λT aG=>by cases aG⟩
    ·rw [List.getElem?_set_ne hi]at ce;have M7:=(List.getElem?_eq_some_iff.1 he).1;refine⟨?_,λT aG=>.inl ⟨by omega,⟨e,he,aG⟩,ce⟩⟩
     have:=hs.fv (.cell 0 i) e (by simp [aK.at,hl0,he])
     simpa [cu,hb,cell_of_heap bm,ce]using this)
  refine Z.sub rfl (λl e ab=>⟨e,?_,rfl,λ_ h=>h⟩) (λr c ai=>⟨c,?_,rfl⟩)
  ·cases l with
   |slot s=>exact ab
   |cell r i=>
    simp only [aK.at,dX]at ab ⊢;by_cases ai:r=0
    ·subst ai;rw [hl0]at ab;simpa using ab
    ·simp [cQ,dX,Ne.symm ai,look]at ab
  ·simp only [dX]at ai ⊢;by_cases mf:r=0
   ·subst mf;rw [hl0]at ai;simpa using ai
   ·simp [cQ,dX,Ne.symm mf,look]at ai
 |ct r o jj nw fA=>
  rw [hb]at fA;cases fA;refine(ag7 b w ih).mono ?_
  rintro e w' ⟨rfl,rfl⟩
  exact⟨_,_,.tuple #[],M,β,⟨rfl,rfl⟩,rfl,fin _ (hs.B_ _)⟩
end
section
variable {P:Program}
def Xw {f : FuncId} {fd : Func} {T5 : TypeId} (kb : P.funcs[f]? = some fd) (OB : fd.body.isSome = true) (hn : decide (fd.name = "runtime.NumGoroutine") = false) (ag_ : P.cellsOf T5 = 1)
 (pI:∀(b:Nat) (w:World),w.cell? ⟨b,1,none⟩=some (.slice none 0 0)→Calls P f #[.pointer (some ⟨b,0,none⟩)] w λe w'=>e = .returned (.string ⟨#[]⟩)∧w'=w.drew)
 (gm:∀(b g cap:Nat) (w:World),cap≠0→w.cell? ⟨b,1,none⟩=some (.slice (some ⟨g,0,none⟩) 0 cap)→Calls P f #[.pointer (some ⟨b,0,none⟩)] w λe w'=>e = .returned (.string ⟨#[]⟩)∧w'=w.drew)
 (aha:∀(b g:Nat) (w:World) (vs:List Value),w.cell? ⟨b,1,none⟩=some (.slice (some ⟨g,0,none⟩) 0 0)→b<w.heap.size→w.heap[g]? = some (.cells ⟨vs⟩ T5 (0,0))→
  Calls P f #[.pointer (some ⟨b,0,none⟩)] w λe w'=>e = .returned (.string ⟨#[]⟩)∧w'=(w.drew.alloc (.view ⟨g,0,none⟩ T5)))
 (vt:∀(b g cap:Nat) (w:World) (vs:List Value) (l:atW),l≠[]→w.cell? ⟨b,1,none⟩=some (.slice (some ⟨g,0,none⟩) l.length cap)→w.heap[g]? = some (.cells ⟨vs⟩ T5 (0,0))→
  l.length≤cap→cap≤vs.length→l.length≤9223372036854775807→(∀(j:Nat) (x:UInt8),l[j]? = some x→vs[j]? = some (Value.int .u8 x.toNat))→
  Calls P f #[.pointer (some ⟨b,0,none⟩)] w λe w'=>e = .returned (.string ⟨l.toArray⟩)∧w'=w.drew.freeze ⟨g,0,none⟩ l.length)
 {d0:a7} {cs:List a7} {l:atW} {n:Nat} {get:Nat→V} (iT:n=l.length∧∀i,i<l.length→get i = .int .u8 ((l.getD i 0).toNat:Int)) (h63:l.length≤9223372036854775807):
 gW P f [.ptr 0 0] [] [d0::⟨.v (.bH 1 n get),some T5⟩::cs] (.ret (.v (.str l)) none) [d0::⟨.v (.bH 1 n get),none⟩::cs]:=by
 obtain⟨rfl,iT⟩:=iT;refine⟨⟨fd,kb,OB,by simpa using hn⟩,λK w vs M β hlen hs hC=>?_⟩
 obtain⟨v,rfl⟩:∃v,vs=[v]:=by
  match vs,hlen with
  |[v],_=>exact⟨v,rfl⟩
 have sj:=hs.fv (.slot 0) ⟨.ptr 0 0,none⟩ (by simp [aK.at,hV,sl,cQ,look])
 have vz:cu (⟨[v]⟩:Array Value) w β (.slot 0)=v:=by simp [cu]
 rw [vz]at sj;obtain⟨b,hb,rfl⟩:∃b,β 0=some b∧v = .pointer (some ⟨b,0,none⟩):=by cases sj with|ptr r o b h=>exact⟨b,h,rfl⟩
 generalize lX:d0::(⟨.v (.bH 1 l.length get),some T5⟩:a7)::cs=nx at hs
 have kX:nx[1]? = some ⟨.v (.bH 1 l.length get),some T5⟩:=by rw [←lX];rfl
 have hl0:look (cQ 0 [nx]) 0=some nx:=by simp [cQ,look]
 obtain⟨bG,ws,T,bY,bm,Xv,ag9,ag',jg⟩:=hs.box 0 nx hl0;rw [hb]at bY;cases bY;have tJ:1<nx.length:=(List.getElem?_eq_some_iff.1 kX).1;have Ct:ws[1]? = some ws[1]:=List.getElem?_eq_getElem (by omega)
 have ih:w.cell? ⟨b,1,none⟩=some ws[1]:=by rw [cell_of_heap bm,Ct]
 have Xx:({env:=hV [.ptr 0 0] [],H:=cQ 0 [nx],aX:=[nx].length}:aK).at (.cell 0 1)=some ⟨.v (.bH 1 l.length get),some T5⟩:=by simp [aK.at,hl0,kX]
 have gI:=hs.fv _ _ Xx;have gk:=hs.own _ _ T5 Xx rfl;have cj:cu (⟨[.pointer (some ⟨b,0,none⟩)]⟩:Array Value) w β (.cell 0 1)=ws[1]:=by simp [cu,hb,ih]
 rw [cj]at gI gk
 -- ml state behind it
 have vr:∀(j:Nat) bg,(d0::(⟨.v (.bH 1 l.length get),none⟩:a7)::cs)[j]? = some bg→∃b3,nx[j]? = some b3∧b3.d=bg.d∧(∀T,bg.own=some T→b3.own=some T∧j≠1):=by
  intro j bg hj;rw [←lX]
  match j with
  | 0=>simp only [List.getElem?_cons_zero,Option.some.injEq]at hj ⊢;subst hj;exact⟨_,rfl,rfl,λT aG=>⟨aG,by omega⟩⟩
  | 1=>simp only [List.getElem?_cons_succ,List.getElem?_cons_zero,Option.some.injEq]at hj ⊢;subst hj;exact⟨_,rfl,rfl,λT aG=>by cases aG⟩
  |j+2=>simp only [List.getElem?_cons_succ]at hj ⊢;exact⟨bg,hj,rfl,λT aG=>⟨aG,by omega⟩⟩
 obtain⟨pR,oX⟩:=hs.Vq (r:=0) (i:=1) (cs':=d0::⟨.v (.bH 1 l.length get),none⟩::cs) hl0 kX rfl (by rw [←lX];rfl) vr (.slot 0)
 rw [cj]at oX
 have fin:∀w' M',bN P K M' β {env:=hV [.ptr 0 0] [],H:=(0,d0::⟨.v (.bH 1 l.length get),none⟩::cs)::cQ 0 [nx],aX:=[nx].length} ⟨[.pointer (some ⟨b,0,none⟩)]⟩ w'→
  bN P K M' β {env:=iv (.ret (.v (.str l)) none),H:=cQ 0 [d0::⟨.v (.bH 1 l.length get),none⟩::cs],aX:=[nx].length} #[.string ⟨⟨l⟩⟩] w':=λw' M' h=>by
  have Z:=(h.B_ #[.string ⟨⟨l⟩⟩]).put (t:=0) (v:=.string ⟨⟨l⟩⟩) (e:=⟨.v (.str l),none⟩) (by simp) (.v _ _ (.str l)) (λT aG=>by cases aG)
  refine Z.sub rfl (λq e ao=>⟨e,?_,rfl,λ_ h=>h⟩) (λr c ai=>⟨c,?_,rfl⟩)
  ·cases q with
   |slot s=>exact ao
   |cell r i=>
    simp only [aK.at,dX]at ao ⊢;by_cases ai:r=0
    ·subst ai;simpa [cQ,look]using ao
    ·simp [cQ,dX,Ne.symm ai,look]at ao
  ·simp only [dX]at ai ⊢;by_cases mf:r=0
   ·subst mf;simpa [cQ,look]using ai
   ·simp [cQ,dX,Ne.symm mf,look]at ai
 have ahb:b<w.heap.size:=lt_of_heap bm;have Ha:bN P K M β {env:=hV [.ptr 0 0] [],H:=(0,d0::⟨.v (.bH 1 l.length get),none⟩::cs)::cQ 0 [nx],aX:=[nx].length} ⟨[.pointer (some ⟨b,0,none⟩)]⟩ w.drew:=pR.drew _;have Xy:[nx].length=1:=rfl;generalize hx:ws[1]=x at ih gI gk oX Ct
 rcases gk with h0|⟨g,n,cap,us,T',Z,aa,aj,aC,aT,bQ,cK⟩
 ·subst h0;obtain⟨_,ab⟩|⟨_,_,_,_,h,_⟩:=tv gI
  ·obtain rfl:=List.eq_nil_of_length_eq_zero ab;refine(pI b w ih).mono ?_
   rintro e w' ⟨rfl,rfl⟩
   exact⟨_,_,_,M,β,⟨rfl,rfl⟩,rfl,fin _ M Ha⟩
  ·cases h
 ·subst cK
  have ahc:∃(b off cap:Nat) (val:Nat→Nat→Value),x = .slice (some ⟨b,off,none⟩) l.length cap∧l.length≤cap∧(∀i,i<l.length→(get i).cells.length=1)∧(∀i j,i<l.length→j<1→M b (off+i*1+j)=some (val i j))∧
   (∀i j,i<l.length→j<1→(val i j).oneCell'=true)∧(∀(i j:Nat) c,i<l.length→(get i).cells[j]? = some c→de M (val i j) c):=by
   rcases tv gI with⟨h|⟨a,h⟩,dw⟩|hx
   ·rw [Z]at h;cases h
   ·rw [Z]at h;simp only [Value.slice.injEq,Option.some.injEq]at h;obtain⟨rfl,rfl,rfl⟩:=h;exact⟨g,0,0,λ_ _=>undef,Z.trans (by rw [dw]),by omega,λi hi=>by omega,λi j hi=>by omega,λi j hi=>by omega,λi j c hi=>by omega⟩
   ·exact hx
  obtain⟨g2,off,asy,val,aw,hc,hk,cT,asz,iu⟩:=ahc
  focus
  ·rw [Z]at aw;simp only [Value.slice.injEq,Option.some.injEq,Addr.mk.injEq,and_true]at aw;obtain⟨⟨rfl,rfl⟩,rfl,rfl⟩:=aw;rw [ag_,Nat.mul_one]at aC;subst Z;by_cases ab:l=[]
   ·subst ab;by_cases hcap:cap=0
    ·subst hcap;refine(aha b g w us ih ahb aj).mono ?_
     rintro e w' ⟨rfl,rfl⟩
     refine⟨_,_,_,M,β,⟨rfl,rfl⟩,rfl,fin _ M (Ha.grow (λk hk=>?_))⟩
     exact Go.Lib.alloc_old _ _ k hk
    ·refine(gm b g cap w hcap ih).mono ?_
     rintro e w' ⟨rfl,rfl⟩
     exact⟨_,_,_,M,β,⟨rfl,rfl⟩,rfl,fin _ M Ha⟩
   ·have BQ:∀(j:Nat) (x:UInt8),l[j]? = some x→us[j]? = some (Value.int .u8 x.toNat):=by
     intro j x hx;have hj:j<l.length:=(List.getElem?_eq_some_iff.1 hx).1;have e1:=hs.mem _ _ _ (cT j 0 hj (by omega))
     have e2:=iT j hj;have e3:=iu j 0 (.int .u8 ((l.getD j 0).toNat:Int)) hj (by rw [e2];rfl)
     rw [cell_of_heap aj,show 0+j*1+0=j by omega]at e1
     rw [e1];generalize val j 0=y at e3 ⊢
     cases e3;simp [List.getD,hx]
    refine(vt b g cap w us l ab ih aj hc aC h63 BQ).mono ?_
    rintro e w' ⟨rfl,rfl⟩
    refine⟨_,_,.string ⟨⟨l⟩⟩,M,β,⟨rfl,rfl⟩,rfl,fin _ M ?_⟩
    have hfz:(w.drew.freeze ⟨g,0,none⟩ l.length).os=w.drew.os∧(w.drew.freeze ⟨g,0,none⟩ l.length).output=w.drew.output∧(∀k,k≠g→(w.drew.freeze ⟨g,0,none⟩ l.length).heap[k]? = w.drew.heap[k]?)∧∃oR,(w.drew.freeze ⟨g,0,none⟩ l.length).heap[g]? = some (.cells ⟨us⟩ T' oR):=by
     have hg':w.drew.heap[g]? = some (.cells ⟨us⟩ T' (0,0)):=aj;have cX:=lt_of_heap hg';have cM:w.drew.heap[g] = .cells ⟨us⟩ T' (0,0):=by simpa [Array.getElem?_eq_getElem cX]using hg'
     unfold World.freeze;split
     ·exact⟨rfl,rfl,λ_ _=>rfl,_,hg'⟩
     ·refine⟨rfl,rfl,λk hk=>?_,?_⟩
      ·simp only [Array.getElem?_modify];rw [if_neg (by simpa using(Ne.symm hk))]
      ·simp only [Array.getElem?_modify];rw [if_pos trivial,hg'];exact⟨_,rfl⟩
    obtain⟨f1,f2,f3,oR,f4⟩:=hfz;refine Ha.free g bQ (λr c ai mn=>oX.unbox g r c rfl ai mn) (λq e hD ao tD ahd=>?_) (λk hk _=>f3 k hk) (Mem.le_refl _) (λ_ _ _=>rfl) (λo v aw=>?_) (by rw [f1,f2])
    ·refine oX.apart q e hD g ao tD ?_ rfl ahd
     rintro rfl
     simp only [aK.at,hV,sl,cQ,look]at ao;simp at ao;subst ao;cases tD
    ·have:=hs.mem _ _ _ aw
     rw [cell_of_heap aj]at this;rw [cell_of_heap f4,this]
end
def tW(w:World):Mem:=λb o=>w.cell? ⟨b,o,none⟩
def gg(w:World)(vs:List Value)(cs:List V):Prop:=
 vs.length=cs.length∧(∀v,v∈vs→v.oneCell'=true)∧∀(i:Nat) v c,vs[i]? = some v→cs[i]? = some c→de (tW w) v c
def gg.nil{w:World}:gg w [] []:=⟨rfl,(λv h=>by cases h),λi v c h=>by simp at h⟩
def gg.one{w:World}{v:Value}{c:V}(Z:v.oneCell'=true)(h:de (tW w) v c):gg w [v] [c]:=
 ⟨rfl,(λu hu=>by obtain rfl:=List.mem_singleton.1 hu;exact Z),λi u d hu hd=>by
  match i with
  | 0=>cases hu;cases hd;exact h
  |i+1=>simp at hu⟩
def gg.app{w:World}{vs us:List Value}{cs ds:List V}(h:gg w vs cs)(cM:gg w us ds):gg w (vs++us) (cs++ds):=by
 refine⟨by simp [h.1,cM.1],λv aw=>?_,λi v c aw hc=>?_⟩
 ·rcases List.mem_append.1 aw with aw|aw
  ·exact h.2.1 v aw
  ·exact cM.2.1 v aw
 ·by_cases hi:i<vs.length
  ·rw [List.getElem?_append_left hi]at aw;rw [List.getElem?_append_left (by rw [←h.1];exact hi)]at hc
   exact h.2.2 i v c aw hc
  ·rw [List.getElem?_append_right (by omega)]at aw
   rw [List.getElem?_append_right (by rw [←h.1];omega),←h.1]at hc
   exact cM.2.2 _ v c aw hc
def gg.Hb{w:World}{vs:List Value}{cs ds:List V}(h:gg w vs cs)(aw:kB cs ds):gg w vs ds:=by
 refine⟨h.1.trans aw.len,h.2.1,λi v c hi hc=>?_⟩
 obtain⟨x,hx,tB⟩:=aw.at i hc;exact tB _ _ (h.2.2 i v x hi hx)
def gg.agg{w:World}{vs:List Value}{cs:List V}(h:gg w vs cs):de (tW w) (.agg ⟨vs⟩) (.agg cs):=.agg vs cs h.1 h.2.1 h.2.2
def Xz{α:Type}[Inhabited α]:∀(n:Nat) (Q:Nat→α→Prop),(∀i,i<n→∃a,Q i a)→∃l:List α,l.length=n∧∀i,i<n→Q i (l.getD i default)
 | 0,Q,h=>⟨[],rfl,λi hi=>by omega⟩
 |n+1,Q,h=>by
  obtain⟨l,Z,aa⟩:=Xz n Q λi hi=>h i (by omega)
  obtain⟨a,ha⟩:=h n (by omega)
  refine⟨l++[a],by simp [Z],λi hi=>?_⟩
  by_cases hin:i<n
  ·have:=aa i hin
   simpa [List.getD,List.getElem?_append_left (show i<l.length by omega)]using this
  ·obtain rfl:i=n:=by omega
   simpa [List.getD,←Z]using ha
section
variable {H:Type} {enc:TypeId×Value→H} {P:Program} {w:World}
def iX{fuel:Nat}{t:TypeId}{k:IntKind}{cs:List Value}{x:DataW H×List MemPlace}(aF:P.underlying t=some (.int k))(h:DataW.trod enc P w 0 (λ_=>true) true fuel t cs=some x):
 ∃n:Int,(k.min≤n∧n≤k.max)∧gg w cs [.int k n]:=by
 obtain⟨n,rfl,_,hw⟩:=DataW.trod_int aF h;refine⟨n,by simpa [Lit.wf]using hw,.one rfl (.int _ _)⟩
def XA{fuel:Nat}{t:TypeId}{cs:List Value}{x:DataW H×List MemPlace}(aF:P.underlying t=some .bool)(h:DataW.trod enc P w 0 (λ_=>true) true fuel t cs=some x):
 ∃b:Bool,gg w cs [.bool b]:=by
 obtain⟨b,rfl,_⟩:=DataW.trod_bool aF h;exact⟨b,.one rfl (.bool _)⟩
def o3{fuel:Nat}{t:TypeId}{cs:List Value}{x:DataW H×List MemPlace}(aF:P.underlying t=some .string)(h:DataW.trod enc P w 0 (λ_=>true) true fuel t cs=some x):
 ∃s:atW,s.length≤9223372036854775807∧gg w cs [.str s]:=by
 obtain⟨s,rfl,_,hw⟩:=DataW.trod_string aF h;exact⟨s.data.toList,by simpa [maxLen]using hw,.one rfl (.str s.data.toList)⟩
def l5{α:Type}[Inhabited α]{fuel:Nat}{t e:TypeId}{k:Nat}{cs:List Value}{x:DataW H×List MemPlace}{encA:α→V}{ok:α→Prop}(aF:P.underlying t=some (.slice e))(hk:P.cellsOf e=k)(jm:0<k)
 (h:DataW.trod enc P w 0 (λ_=>true) true fuel t cs=some x)
 (ai:∀n cs' gd,n<fuel→DataW.trod enc P w 0 (λ_=>true) true n e cs'=some gd→∃a:α,ok a∧gg w cs' (encA a).cells):
 ∃l:List α,l.length≤9223372036854775807∧(∀i,i<l.length→ok (l.getD i default))∧gg w cs [ah k encA l]:=by
 rcases DataW.trod_slice aF h with⟨rfl,_⟩|⟨a,len,cap,elems,rest,n,rfl,rfl,_,_,Cu,ahe,lz,he,OC,_⟩
 ·exact⟨[],by simp,(λi hi=>by simp at hi),.one rfl (.md _ _)⟩
 ·have pM:∀i,i<len→∃b:α,ok b∧∃cs',w.cells? 0 (a.add (i*k)) k=some cs'∧gg w cs' (encA b).cells:=by
   intro i hi;have Z:=he i hi;rw [List.getElem?_eq_getElem (by omega),Option.bind_eq_some_iff,hk]at Z
   obtain⟨cs',aa,aj⟩:=Z;obtain⟨b,aC,aT⟩:=ai n cs' _ (by omega) aj
   exact⟨b,aC,cs',aa,aT⟩
  obtain⟨l,ab,ei⟩:=Xz len _ pM;subst ab;refine⟨l,by unfold maxLen at ahe;omega,λi hi=>(ei i hi).1,?_⟩
  by_cases hc0:cap=0
  ·obtain rfl:l=[]:=List.eq_nil_of_length_eq_zero (by omega)
   subst hc0;exact .one rfl (.pC _ _ _)
  ·have XB:a.spot=none:=by
    have h0:∃cs',w.cells? 0 (a.add (0*k)) k=some cs':=by
     by_cases hl0:l.length=0
     ·obtain⟨Z,aa⟩:=OC rfl;have aj:=aa 0 (by omega)
      rw [List.getElem?_eq_getElem (by omega),Option.bind_eq_some_iff,hk,hl0]at aj
      obtain⟨cs',aC,_⟩:=aj;exact⟨cs',aC⟩
     ·obtain⟨_,cs',aC,_⟩:=ei 0 (by omega)
      exact⟨cs',aC⟩
    obtain⟨cs',aC⟩:=h0;obtain⟨_,aT,bQ⟩:=World.cells?_some aC;have cK:=bQ 0 jm;rw [List.getElem?_eq_getElem (by omega),Nat.zero_mul]at cK
    have:(a.add 0).add 0=a:=by simp [Addr.add]
    rw [this]at cK;exact World.cell?_spot cK
   obtain⟨b,off,sp⟩:=a;simp only at XB
   subst XB
   have cj:∀i j,i<l.length→j<k→∃cs':List Value,cs'.length=k∧gg w cs' (encA (l.getD i default)).cells∧w.cell? ⟨b,off+i*k+j,none⟩=cs'[j]? := by
    intro i j hi hj;obtain⟨_,cs',Z,aa⟩:=ei i hi;obtain⟨_,aT,bQ⟩:=World.cells?_some Z;refine⟨cs',aT,aa,?_⟩
    rw [←bQ j hj,addr_add,addr_add]
   have XC:∀i,i<l.length→(encA (l.getD i default)).cells.length=k:=by
    intro i hi;obtain⟨cs',Z,aa,_⟩:=cj i 0 hi jm;rw [←aa.1,Z]
   refine .one rfl (.bH b off k l.length cap _ (λi j=>(w.cell? ⟨b,off+i*k+j,none⟩).getD undef) Cu XC (λi j hi hj=>?_) (λi j hi hj=>?_) (λi j c hi hc=>?_))
   ·obtain⟨cs',Z,aa,aj⟩:=cj i j hi hj;unfold tW;rw [aj,List.getElem?_eq_getElem (by omega)];rfl
   ·obtain⟨cs',Z,aa,aj⟩:=cj i j hi hj;rw [aj,List.getElem?_eq_getElem (by omega)]
    exact aa.2.1 _ (List.getElem_mem _)
   ·have hj:j<k:=by rw [←XC i hi];exact(List.getElem?_eq_some_iff.1 hc).1
    obtain⟨cs',Z,aa,aj⟩:=cj i j hi hj;rw [aj,List.getElem?_eq_getElem (by omega)]
    exact aa.2.2 j _ c (List.getElem?_eq_getElem (by omega)) hc
end
section
variable {P:Program} {K:Ctx} {N E:Nat} {M:Mem} {β:Nat→Option Nat} {st b8:aK} {tmps:Array Value} {w:World}
mutual
def q5(r:Nat)(x:V):D→D
 |.v y=>.v y
 |.ptr q off=>bif Nat.beq q r&&Nat.beq off 0 then .e6 x else .ptr q off
 |.ct q off u=>.ct q off u
 |.e6 y=>.e6 y
 |.full k n g=>.full k n g
 |.fn f cs=>.fn f (q6 r x cs)
 |.agg cs=>.agg (q6 r x cs)
 |.cw cs=>.cw (q6 r x cs)
def q6(r:Nat)(x:V):List D→List D
 |[]=>[]
 |d::l=>q5 r x d::q6 r x l
end
def Hc(r:Nat)(x:V):∀(l:List D) (i:Nat),(q6 r x l)[i]? = (l[i]?).map (q5 r x)
 |[],i=>by simp [q6]
 |d::l,0=>by simp [q6]
 |d::l,i+1=>by simp only [q6,List.getElem?_cons_succ];exact Hc r x l i
def Hd(r:Nat)(x:V):∀l:List D,(q6 r x l).length=l.length
 |[]=>rfl
 |d::l=>by simp only [q6,List.length_cons,Hd r x l]
def cy.oR{M':Mem}(cT:M.le M'){r b:Nat}{x:V}{u:Value}(hb:β r=some b)(hx:x.isAgg=false)(hu:M' b 0=some u)(Z:u.oneCell'=true)(ai:de M' u x){v:Value}{d:D}(h:cy M β v d):cy M' β v (q5 r x d):=by
 induction h with
 |v u x h=>exact .v u x (h.mono cT)
 |ptr q off bG h=>
  simp only [q5];cases hc:Nat.beq q r&&Nat.beq off 0 with
  |false=>exact .ptr q off bG h
  |true=>
   simp only [Bool.and_eq_true,Nat.beq_eq]at hc;obtain⟨rfl,rfl⟩:=hc;rw [hb]at h;cases h;have x':=xW hx;refine .e6 b 0 x (λ_=>u) (λj hj=>?_) (λj hj=>Z) (λj c hc=>?_)
   ·rw [x']at hj;simp at hj
    subst hj;exact hu
   ·rw [x']at hc;cases j with
    |zero=>simp at hc;subst hc;exact ai
    |succ j=>simp at hc
 |lW q off t=>exact .lW q off t
 |ct q off bG t h=>exact .ct q off bG t h
 |e6 b off x val hm Z h=>exact .e6 b off x val (λj hj=>cT _ _ _ (hm j hj)) Z (λj c hc=>(h j c hc).mono cT)
 |full base k n get h=>exact .full base k n get (h.mono cT)
 |fn f vs cs hn _ aH=>
  simp only [q5];refine .fn f vs _ (by rw [Hd];exact hn) λi v c aw hc=>?_
  rw [Hc]at hc;simp only [Option.map_eq_some_iff]at hc;obtain⟨c0,h0,rfl⟩:=hc;exact aH i v c0 aw h0
 |agg vs cs hn Z _ aH=>
  simp only [q5];refine .agg vs _ (by rw [Hd];exact hn) Z λi v c aw hc=>?_
  rw [Hc]at hc;simp only [Option.map_eq_some_iff]at hc;obtain⟨c0,h0,rfl⟩:=hc;exact aH i v c0 aw h0
 |cw vs cs hn _ aH=>
  simp only [q5];refine .cw vs _ (by rw [Hd];exact hn) λi v c aw hc=>?_
  rw [Hc]at hc;simp only [Option.map_eq_some_iff]at hc;obtain⟨c0,h0,rfl⟩:=hc;exact aH i v c0 aw h0
def yl(r:Nat)(x:V)(e:a7):a7:={d:=q5 r x e.d,own:=e.own}
def He(r:Nat)(x:V):List (Nat×a7)→List (Nat×a7)
 |[]=>[]
 |(t,e)::l=>(t,yl r x e)::He r x l
def Hf(r:Nat)(x:V):List (Nat×List a7)→List (Nat×List a7)
 |[]=>[]
 |(t,cs)::l=>(t,cs.map (yl r x))::Hf r x l
def XD(r:Nat)(x:V):∀(l:List (Nat×a7)) (s:Nat),look (He r x l) s=(look l s).map (yl r x)
 |[],s=>rfl
 |(t,e)::l,s=>by
  simp only [He,dX];by_cases h:t=s
  ·simp [h]
  ·simp only [h,if_false];exact XD r x l s
def OD(r:Nat)(x:V):∀(l:List (Nat×List a7)) (s:Nat),look (Hf r x l) s=(look l s).map λcs=>cs.map (yl r x)
 |[],s=>rfl
 |(t,cs)::l,s=>by
  simp only [Hf,dX];by_cases h:t=s
  ·simp [h]
  ·simp only [h,if_false];exact OD r x l s
def tX(r:Nat)(x:V)(st:aK):aK:={env:=He r x st.env,H:=Hf r x (del st.H r),aX:=st.aX}
def Cv{r:Nat}{x:V}{l:Loc}{bg:a7}(h:(tX r x st).at l=some bg):∃e,aK.at {env:=st.env,H:=del st.H r,aX:=st.aX} l=some e∧bg=yl r x e:=by
 cases l with
 |slot s=>
  simp only [aK.at,tX,XD,Option.map_eq_some_iff]at h ⊢;obtain⟨e,Z,aa⟩:=h;exact⟨e,Z,aa.symm⟩
 |cell q i=>
  simp only [aK.at,tX,OD,Option.bind_eq_some_iff,Option.map_eq_some_iff]at h ⊢;obtain⟨cs,⟨lA,Z,rfl⟩,aa⟩:=h;rw [List.getElem?_map,Option.map_eq_some_iff]at aa;obtain⟨e,aj,aC⟩:=aa;exact⟨e,⟨lA,Z,aj⟩,aC.symm⟩
def ahf{r:Nat}{x:V}{d:D}{q off:Nat}{u:TypeId}(h:q5 r x d = .ct q off u):d = .ct q off u:=by
 cases d<;>simp only [q5]at h
 case ptr q' o'=>cases hc:Nat.beq q' r&&Nat.beq o' 0<;>rw [hc]at h<;>cases h
 all_goals first|exact h|cases h
def bN.freeze(h:bN P K M β st tmps w){r:Nat}{x:V}{own:Option TypeId}(ai:look st.H r=some [⟨.v x,own⟩])(hx:x.isAgg=false):∃M',bN P K M' β (tX r x st) tmps w:=by
 obtain⟨b,vs,T,hb,bm,hlen,XE,dN,jg,hlies⟩:=h.box r _ ai
 obtain⟨u,rfl⟩:∃u,vs=[u]:=by
  match vs,hlen with
  |[u],_=>exact⟨u,rfl⟩
 have Hg:∀q cs,look (del st.H r) q=some cs→q≠r∧look st.H q=some cs:=by
  intro q cs ao;rw [qN]at ao;split at ao
  ·cases ao
  ·rename_i dh;exact⟨λe=>dh e.symm,ao⟩
 have Z:bN P K M β {env:=st.env,H:=del st.H r,aX:=st.aX} tmps w:=h.sub rfl (λl e ab=>by
  cases l with
  |slot s=>exact⟨e,ab,rfl,λ_ h=>h⟩
  |cell q i=>
   simp only [aK.at,Option.bind_eq_some_iff]at ab ⊢;obtain⟨cs,aa,aj⟩:=ab;exact⟨e,⟨cs,(Hg _ _ aa).2,aj⟩,rfl,λ_ h=>h⟩) (λq cs ao=>⟨cs,(Hg _ _ ao).2,rfl⟩)
 have hle:M.le (ji M b 0 [u]):=Nd λo _=>XE o
 have ih:ji M b 0 [u] b 0=some u:=by simp [ji]
 have aa:bN P K (ji M b 0 [u]) β {env:=st.env,H:=del st.H r,aX:=st.aX} tmps w:=by
  refine Z.free b dN (λq cs ao ahg=>?_) (λl e T' ab aG nn=>?_) (λ_ _ _=>rfl) hle (λbG o dh=>by simp [ji,dh]) (λo v aw=>?_)
  ·obtain⟨aj,aC⟩:=Hg _ _ ao;exact aj (h.inj q r b _ _ aC ai ahg hb)
  ·have hl0:∃b3,st.at l=some b3∧b3.own=some T':=by
    cases l with
    |slot s=>exact⟨e,ab,aG⟩
    |cell q i=>
     simp only [aK.at,Option.bind_eq_some_iff]at ab ⊢;obtain⟨cs,aj,aC⟩:=ab;exact⟨e,⟨cs,(Hg _ _ aj).2,aC⟩,aG⟩
   obtain⟨b3,aj,aC⟩:=hl0;exact h.unbox l b3 T' b r _ aj aC nn ai hb
  ·rw [cell_of_heap bm];unfold ji at aw;split at aw
   ·rename_i hc;simpa using aw
   ·rw [XE o]at aw;cases aw
 have gI:de (ji M b 0 [u]) u x:=by
  have aj:=h.fv (.cell r 0) ⟨.v x,own⟩ (by rw [aK.MN ai];rfl)
  have aC:cu tmps w β (.cell r 0)=u:=by simp only [cu,hb,cell_of_heap bm];simp
  rw [aC]at aj;cases aj with
  |v _ _ aT=>exact aT.mono hle
 refine⟨ji M b 0 [u],?_⟩
 have u7:∀q cs',look (tX r x st).H q=some cs'→∃cs,look (del st.H r) q=some cs∧cs'=cs.map (yl r x):=by
  intro q cs' ao;simp only [tX,OD,Option.map_eq_some_iff]at ao;obtain⟨cs,aj,aC⟩:=ao;exact⟨cs,aj,aC.symm⟩
 constructor
 ·intro l bg ab;obtain⟨e,aj,rfl⟩:=Cv ab;exact(aa.fv l e aj).oR (Mem.le_refl _) hb hx ih (jg u (by simp)) gI
 ·intro l bg T' ab aG;obtain⟨e,aj,rfl⟩:=Cv ab;exact aa.own l e T' aj aG
 ·intro l cG e bg T' ahh bG ab aG dF eg;obtain⟨e1,aj,rfl⟩:=Cv ab;obtain⟨e2,aC,rfl⟩:=Cv dF;exact aa.uniq l cG e1 e2 T' ahh bG aj aG aC eg
 ·intro l e T' bG q cs ab aG nn ao;obtain⟨e1,aj,rfl⟩:=Cv ab;obtain⟨lA,aC,_⟩:=u7 q cs ao;exact aa.unbox l e1 T' bG q lA aj aG nn aC
 ·intro q cs ao;obtain⟨lA,aC,rfl⟩:=u7 q cs ao;obtain⟨bG,vs',T',g1,g2,g3,g4,g5,g6,g7⟩:=aa.box q lA aC;refine⟨bG,vs',T',g1,g2,by simpa using g3,g4,g5,g6,λe he q' off t hd=>?_⟩
  obtain⟨b3,MR,rfl⟩:=List.mem_map.1 he;exact g7 b3 MR q' off t (ahf hd)
 ·intro q q' bG cs cs' ao pN c' fA;obtain⟨c1,aj,_⟩:=u7 q cs ao;obtain⟨c2,aC,_⟩:=u7 q' cs' pN;exact aa.inj q q' bG c1 c2 aj aC c' fA
 ·exact aa.lt
 ·exact aa.mem
 ·exact aa.m0
 ·exact aa.frame
 ·exact aa.iP
 ·exact aa.jx
 ·exact aa.h7
def Cw(H:List (Nat×List a7))(r:Nat):Option V:=
 match look H r with
 |some [⟨.v x,_⟩]=>bif x.isAgg then none else some x
 |_=>none
def a_.freeze{c:Code}{Q:cp→aK→Prop}(r:Nat)(x:V)(ai:Cw st.H r=some x)(h:a_ P N E c Q (tX r x st)):a_ P N E c Q st:=by
 rintro K eF a w ⟨he,hd,eu,M,β,cN⟩
 unfold Cw at ai;split at ai
 ·rename_i y own ab;rw [Bool.cond_eq_ite]at ai;split at ai
  ·cases ai
  ·rename_i hx;cases ai;obtain⟨M',hs⟩:=cN.freeze ab (by simpa using hx)
   exact h K eF a w ⟨he,hd,eu,M',β,hs⟩
 ·cases ai
def Cx(r:Nat)(st:aK):aK:=match Cw st.H r with
 |some x=>tX r x st
 |none=>st
def OE(r:Nat)(Q:cp→aK→Prop):cp→aK→Prop
 |.normal,st=>Q .normal (Cx r st)
 |.ret,st=>Q .ret (Cx r st)
 |e,st=>Q e st
def XF{K:Ctx}{M:Mem}{β:Nat→Option Nat}{tmps:Array Value}{w:World}(r:Nat)(h:bN P K M β st tmps w):∃M',bN P K M' β (Cx r st) tmps w:=by
 unfold Cx;cases hx:Cw st.H r with
 |none=>exact⟨M,h⟩
 |some x=>
  unfold Cw at hx;split at hx
  ·rename_i y own ab;rw [Bool.cond_eq_ite]at hx;split at hx
   ·cases hx
   ·rename_i ahi;cases hx;exact h.freeze ab (by simpa using ahi)
  ·cases hx
def a_.oR{x:Code}{Q:cp→aK→Prop}(r:Nat)(h:a_ P N E x (OE r Q) st):a_ P N E x Q st:=by
 intro K eF a w hs;refine wp_mono (h K eF a w hs) ?_
 rintro e d' w' ⟨fO,b8,Z,aa⟩
 cases fO with
 |normal=>
  obtain⟨g1,g2,g3,M,β,g4⟩:=Z;obtain⟨M',g5⟩:=XF r g4;exact⟨.normal,_,⟨g1,g2,g3,M',β,g5⟩,aa⟩
 |ret=>
  obtain⟨g1,g2,g3,M,β,g4⟩:=Z;obtain⟨M',g5⟩:=XF r g4;exact⟨.ret,_,⟨g1,g2,g3,M',β,g5⟩,aa⟩
 |exit i=>exact⟨.exit i,b8,Z,aa⟩
 |bf x=>exact⟨.bf x,b8,Z,aa⟩
def Cy(s e:a7):a7:=match s.own with|none=>{d:=e.d} |some _=>e
def ym:List (Nat×a7)→List (Nat×a7)→List (Nat×a7)
 |(_,s)::l,(t,e)::m=>(t,Cy s e)::ym l m
 |_,m=>m
def om:List a7→List a7→List a7
 |s::l,e::m=>Cy s e::om l m
 |_,m=>m
def yn:List (Nat×List a7)→List (Nat×List a7)→List (Nat×List a7)
 |(_,s)::l,(t,cs)::m=>(t,om s cs)::yn l m
 |_,m=>m
def fit(s st:aK):aK:={env:=ym s.env st.env,H:=yn s.H st.H,aX:=st.aX}
def Hh(s e:a7):(Cy s e).d=e.d∧∀T,(Cy s e).own=some T→e.own=some T:=by
 unfold Cy;split
 ·exact⟨rfl,λT h=>by cases h⟩
 ·exact⟨rfl,λT h=>h⟩
def XG:∀(l m:List (Nat×a7)) (t:Nat) (bg:a7),look (ym l m) t=some bg→∃e,look m t=some e∧e.d=bg.d∧∀T,bg.own=some T→e.own=some T
 |[],m,t,bg,h=>⟨bg,by simpa [ym]using h,rfl,λ_ h=>h⟩
 |(a,s)::l,[],t,bg,h=>by simp [ym,look]at h
 |(a,s)::l,(q,e)::m,t,bg,h=>by
  simp only [ym,dX]at h ⊢;split at h
  ·rename_i ao;rw [if_pos ao];cases h;exact⟨e,rfl,(Hh s e).1.symm,(Hh s e).2⟩
  ·rename_i ao;rw [if_neg ao];exact XG l m t bg h
def XH:∀(l m:List a7) (i:Nat) (bg:a7),(om l m)[i]? = some bg→∃e,m[i]? = some e∧e.d=bg.d∧∀T,bg.own=some T→e.own=some T
 |[],m,i,bg,h=>⟨bg,by simpa [om]using h,rfl,λ_ h=>h⟩
 |s::l,[],i,bg,h=>by simp [om]at h
 |s::l,e::m,0,bg,h=>by
  simp only [om,List.getElem?_cons_zero,Option.some.injEq]at h;subst h;exact⟨e,rfl,(Hh s e).1.symm,(Hh s e).2⟩
 |s::l,e::m,i+1,bg,h=>by
  simp only [om,List.getElem?_cons_succ]at h ⊢;exact XH l m i bg h
def XI:∀l m:List a7,(om l m).length=m.length
 |[],m=>by simp [om]
 |s::l,[]=>by simp [om]
 |s::l,e::m=>by simp only [om,List.length_cons,XI l m]
def OF:∀(l m:List (Nat×List a7)) (t:Nat) (cs':List a7),look (yn l m) t=some cs'→∃cs s,look m t=some cs∧cs'=om s cs
 |[],m,t,cs',h=>⟨cs',[],by simpa [yn]using h,by simp [om]⟩
 |(a,s)::l,[],t,cs',h=>by simp [yn,look]at h
 |(a,s)::l,(q,cs)::m,t,cs',h=>by
  simp only [yn,dX]at h ⊢;split at h
  ·rename_i ao;rw [if_pos ao];cases h;exact⟨cs,s,rfl,rfl⟩
  ·rename_i ao;rw [if_neg ao];exact OF l m t cs' h
def bN.fit(h:bN P K M β st tmps w)(s:aK):bN P K M β (fit s st) tmps w:=
 h.sub rfl (λl bg ab=>by
  cases l with
  |slot t=>exact XG _ _ _ _ ab
  |cell q i=>
   simp only [aK.at,Ab.fit,Option.bind_eq_some_iff]at ab;obtain⟨cs',Z,aa⟩:=ab;obtain⟨cs,z,aj,rfl⟩:=OF _ _ _ _ Z;obtain⟨e,aC,aT⟩:=XH _ _ _ _ aa;exact⟨e,by simp only [aK.at,aj,Option.bind_some];exact aC,aT⟩) (λq cs' ao=>by
   obtain⟨cs,z,aj,rfl⟩:=OF _ _ _ _ ao;exact⟨cs,aj,(XI _ _).symm⟩)
def a_.fit{c:Code}{Q:cp→aK→Prop}(s:aK)(h:a_ P N E c Q (Ab.fit s st)):a_ P N E c Q st:=by
 rintro K eF a w ⟨he,hd,eu,M,β,cN⟩
 exact h K eF a w ⟨he,hd,eu,M,β,cN.fit s⟩
def a_.q7{c:Code}{Q:cp→aK→Prop}(s:aK)(live xS:List Nat)(n:Nat)(ai:(u6 live xS n st.env st.H st.aX).map (Ab.fit s)=some b8)(b1:Nat.ble E n=true)(h:a_ P N E c Q b8):a_ P N E c Q st:=by
 simp only [Option.map_eq_some_iff]at ai;obtain⟨asA,Z,rfl⟩:=ai;exact a_.drop live xS n Z b1 (h.fit s)
def forget(oo:List Nat):List (Nat×a7)→List (Nat×a7)
 |[]=>[]
 |(t,e)::l=>(t,bif oo.any (Nat.beq t)then {d:=e.d}else e)::forget oo l
def XJ(oo:List Nat):∀(m:List (Nat×a7)) (t:Nat) (bg:a7),look (forget oo m) t=some bg→∃e,look m t=some e∧e.d=bg.d∧∀T,bg.own=some T→e.own=some T
 |[],t,bg,h=>by simp [forget,look]at h
 |(q,e)::m,t,bg,h=>by
  simp only [forget,dX]at h ⊢;split at h
  ·rename_i ao;rw [if_pos ao];cases h;refine⟨e,rfl,?_⟩
   cases oo.any (Nat.beq q)
   ·exact⟨rfl,λ_ h=>h⟩
   ·exact⟨rfl,λT h=>by cases h⟩
  ·rename_i ao;rw [if_neg ao];exact XJ oo m t bg h
def a_.forget{c:Code}{Q:cp→aK→Prop}(oo:List Nat)(h:a_ P N E c Q {env:=Ab.forget oo st.env,H:=st.H,aX:=st.aX}):a_ P N E c Q st:=by
 rintro K eF a w ⟨he,hd,eu,M,β,cN⟩
 refine h K eF a w ⟨he,hd,eu,M,β,cN.sub rfl (λl bg ab=>?_) (λq cs ao=>⟨cs,ao,rfl⟩)⟩
 cases l with
 |slot t=>exact XJ _ _ _ _ ab
 |cell q i=>exact⟨bg,ab,rfl,λ_ h=>h⟩
end
end Go.Ab

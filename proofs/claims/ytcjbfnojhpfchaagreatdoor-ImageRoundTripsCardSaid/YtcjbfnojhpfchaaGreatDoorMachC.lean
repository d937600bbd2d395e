/- The abstract machine: a step of code over plain data, proved against the model. -/
import Derived.Orders
import Derived.Scope
import Derived.Recover
import Derived.Lib.Builder
import Derived.Lib.UnsafeStr
import Derived.ChangeSame
import Derived.OpenShut
import Derived.ReadAgain
import Derived.Test.YtcjbfnojhpfchaaGreatDoorMachB
set_option linter.all false
namespace Go.Ab
section
variable {P:Program} {N E:Nat} {st bO:aD}
def aV.drop{c:Code}{Q:b'→aD→Prop}(live wI:List Nat)(n:Nat)(ah:tN live wI n st.env st.H st.aL=some bO)(bH:Nat.ble E n=true)(h:aV P N E c Q bO):aV P N E c Q st:=by
 rintro K ei a w ⟨he,hd,dW,M,β,cw⟩
 obtain⟨AC,hs⟩:=cw.tN ah (λr b hb=>Nat.lt_of_lt_of_le (ei r b hb) (by simpa using bH))
 exact h K ei a w ⟨he,hd,dW,M,AC,hs⟩
end
def all_nil:km []:=trivial
def all_cons{p:Prop}{l:List Prop}(h:p)(ab:km l):km (p::l):=⟨h,ab⟩
inductive ax(α β:Type) where
 |ret (a:α) (b:β)
 |a8 (x:V) (b:β)
def ax.on{α β dm:Type}(x:ax α β)(f:α→β→dm)(g:V→β→dm):dm:=
 match x with
 |.ret a b=>f a b
 |.a8 x b=>g x b
def gP{b:Bool}(h:b=false):(!b)=true:=by subst h;rfl
def KS{a b:Bool}(h:a=true)(aa:b=true):(a&&b)=true:=by subst h;subst aa;rfl
inductive jQ:List V→List V→Prop where
 |nil:jQ [] []
 |cons {x y:V} {xs ys:List V} (h:gL x y) (ab:jQ xs ys):jQ (x::xs) (y::ys)
def jQ.len:∀{xs ys:List V},jQ xs ys→xs.length=ys.length
 |_,_,.nil=>rfl
 |_,_,.cons _ ab=>by simp [ab.len]
def jQ.at:∀{xs ys:List V},jQ xs ys→∀(i:Nat) {y:V},ys[i]? = some y→∃x,xs[i]? = some x∧gL x y
 |_,_,.nil,i,y,h=>by simp at h
 |_,_,.cons h ab,i,y,bY=>by
  cases i with
  |zero=>simp at bY;subst bY;exact⟨_,rfl,h⟩
  |succ i=>simp at bY;simpa using ab.at i bY
def Su{xs ys:List V}(h:jQ xs ys):gL (.agg xs) (.agg ys):=by
 intro M v an;cases an with
 |agg vs cs hn Z ah=>
  refine .agg vs ys (hn.trans h.len) Z (λi v c an hc=>?_)
  obtain⟨x,hx,hi⟩:=h.at i hc;exact hi M v (ah i v x an hx)
def abB{k n:Nat}{g eG:Nat→V}(h:∀i,i<n→jQ (g i).cells (eG i).cells):gL (.br k n g) (.br k n eG):=by
 intro M v an;cases an with
 |lC=>exact .lC _ _
 |oP=>exact .oP _ _ _
 |br b off k n cap g val hc hk cI Z ah=>
  refine .br b off k n cap eG val hc (λi hi=>by rw [←(h i hi).len];exact hk i hi) cI Z (λi j c hi lf=>?_)
  obtain⟨x,hx,abC⟩:=(h i hi).at j lf;exact abC M _ (ah i j x hi hx)
inductive lk{α:Type}(e:α→V):List V→List α→Prop where
 |nil:lk e [] []
 |cons {x:V} {y:α} {xs:List V} {ys:List α} (h:jQ x.cells (e y).cells) (ab:lk e xs ys):lk e (x::xs) (y::ys)
def lk.len{α:Type}{e:α→V}:∀{xs:List V} {ys:List α},lk e xs ys→xs.length=ys.length
 |_,_,.nil=>rfl
 |_,_,.cons _ ab=>by simp [ab.len]
def lk.at{α:Type}[Inhabited α]{e:α→V}:∀{xs:List V} {ys:List α},lk e xs ys→∀(i:Nat),i<ys.length→jQ (xs.getD i .d').cells (e (ys.getD i default)).cells
 |_,_,.nil,i,h=>by simp at h
 |_,_,.cons h ab,i,bY=>by
  cases i with
  |zero=>simpa using h
  |succ i=>simpa using ab.at i (by simpa using bY)
def Eg{α:Type}[Inhabited α]{k:Nat}{e:α→V}{xs:List V}{l:List α}(h:lk e xs l)(n:Nat)(hn:n=l.length):gL (.br k n λi=>xs.getD i .d') (af k e l):=by
 subst hn;exact abB λi hi=>h.at i hi
section
variable {tt:dq} {g1 g2:c6} {p:Path} {o:Oper} {ops:List Oper} {bX:gf}
def KT{x:Operand}(h:∀t,x = .tmp t→look g1.env t=look g2.env t∧look g1.bL t=look g2.bL t)(p:Path)(ty:TypeId):rd g1.env g1.bL p tt ty x=rd g2.env g2.bL p tt ty x:=by
 cases x with
 |tmp t=>
  obtain⟨Z,aa⟩:=h t rfl;simp only [rd,Z,aa]
 |const v=>cases v with
  |slice a n c=>cases a<;>cases n<;>cases c<;>rfl
  |_=>rfl
 |global _=>rfl
 |func _=>rfl
def abD{x:Operand}(h:∀t,x = .tmp t→look g1.env t=look g2.env t):oR g1 x=oR g2 x:=by
 cases x with
 |tmp t=>simp only [oR,h t rfl]
 |_=>rfl
def AD{α β:Type}{f su:α→Option β}:∀{l:List α},(∀x,x∈l→f x=su x)→mapM' f l=mapM' su l
 |[],_=>rfl
 |x::l,h=>by simp only [mapM',h x (by simp),AD (l:=l) λy bY=>h y (by simp [bY])]
def KU{f su:TypeId→Operand→Option D}:∀{l:List Operand} {ts:List TypeId},(∀x,x∈l→∀t,f t x=su t x)→lb f l ts=lb su l ts
 |[],_,_=>by simp [lb]
 |x::l,[],_=>by simp [lb]
 |x::l,t::ts,h=>by simp only [lb,h x (by simp) t,KU (l:=l) (ts:=ts) λy bY=>h y (by simp [bY])]
def im(tt:dq)(g:c6)(p:Path)(o:Oper):List Nat:=
 match o.op with
 |.alloc _ |.box _ _=>match o.dst.bind (look g.ids)with |some id=>[id] |none=>[]
 |.load _ a=>match rd g.env g.bL p tt o.type a with |some (.ptr q _)=>[q] |_=>[]
 |.store _ a _=>match rd g.env g.bL p tt o.type a with |some (.ptr q _)=>[q] |_=>[]
 |.call c=>match c.callee with
  |.value x=>match rd g.env g.bL p tt o.type x,lb (rd g.env g.bL p tt) c.args.toList c.argTypes.toList with
   |some (.fn _ eT),some ds=>n1 g.H 2 (dedup ((ds++eT).flatMap refs))
   |_,_=>[]
  |_=>[]
 |_=>[]
def Eh{x:Nat}:∀{l:List Nat},x∈l→x∈dedup l
 |y::l,h=>by
  simp only [dedup];rw [Bool.cond_eq_ite];split
  ·rename_i bY;rcases List.mem_cons.1 h with rfl|h
   ·obtain⟨z,dJ,abE⟩:=List.any_eq_true.1 bY;have:x=z:=by simpa using abE
    subst this;exact dJ
   ·exact Eh h
  ·rcases List.mem_cons.1 h with rfl|h
   ·simp
   ·exact List.mem_cons_of_mem _ (Eh h)
def Sv{H:List (Nat×List aP)}:∀{n:Nat} {l:List Nat} {x:Nat},x∈l→x∈n1 H n l
 | 0,_,_,h=>h
 |n+1,_,_,h=>Sv (n:=n) (Eh (List.mem_append_left _ h))
def Sw{α β:Type}{f su:α→List β}:∀{l:List α},(∀x,x∈l→f x=su x)→l.flatMap f=l.flatMap su
 |[],_=>rfl
 |x::l,h=>by simp only [List.flatMap_cons,h x (by simp),Sw (l:=l) λy bY=>h y (by simp [bY])]
def KV{H1 ct:List (Nat×List aP)}:∀{n:Nat} {l:List Nat},(∀q,q∈n1 H1 n l→look H1 q=look ct q)→n1 H1 n l=n1 ct n l
 | 0,_,_=>rfl
 |n+1,l,h=>by
  simp only [n1]at h ⊢
  have:(l.flatMap λr=>((look H1 r).getD []).flatMap λe=>refs e.d)=l.flatMap λr=>((look ct r).getD []).flatMap λe=>refs e.d:=
   Sw λr ah=>by rw [h r (Sv (Eh (List.mem_append_left _ ah)))]
  rw [←this];exact KV h
def Sx{H1 ct:List (Nat×List aP)}:∀{l:List Nat},(∀q,q∈l→look H1 q=look ct q)→boxes H1 l=boxes ct l
 |[],_=>rfl
 |r::l,h=>by simp only [boxes,h r (by simp),Sx (l:=l) λq al=>h q (by simp [al])]
def Sy{xs:List Operand}{ts:List TypeId}(hs:∀t,Operand.tmp t∈xs→look g1.env t=look g2.env t∧look g1.bL t=look g2.bL t):∀os:List Nat,handed tt g1 xs ts os=handed tt g2 xs ts os
 |[]=>rfl
 |i::os=>by
  simp only [handed,Sy hs os];split
  ·rename_i t l hx ab;obtain⟨Z,aa⟩:=hs t (List.mem_of_getElem? hx);rw [Z,aa]
  ·rfl
  ·rfl
def abF{xs:List Operand}{ts:List TypeId}{f:FuncId}{args:List D}(hs:∀t,Operand.tmp t∈xs→look g1.env t=look g2.env t∧look g1.bL t=look g2.bL t)(eC:g1.rs=g2.rs)(eZ:∀q,q∈n1 g1.H 2 (dedup (args.flatMap refs))→look g1.H q=look g2.H q):wA bX tt g1 p xs ts f args=wA bX tt g2 p xs ts f args:=by
 have Z:n1 g1.H 2 (dedup (args.flatMap refs))=n1 g2.H 2 (dedup (args.flatMap refs)):=KV eZ;unfold wA;simp only [←Z,←eC,←Sx eZ,←λos=>Sy (tt:=tt) (ts:=ts) hs os]
def p6(o:Oper):Bool:=
 match o.op with
 |.alloc _ |.box _ _=>true
 |_=>false
def Sz(p7:g1.ids=g2.ids)(hn:g1.aL=g2.aL)(eZ:∀id,o.dst.bind (look g1.ids)=some id→look g1.H id=look g2.H id):nk g1 o=nk g2 o:=by
 unfold nk;rw [←p7,←hn];split
 ·rename_i id h;rw [eZ id h]
 ·rfl
def KW(hs:∀x,x∈o.op.operands.toList→∀t,x = .tmp t→look g1.env t=look g2.env t∧look g1.bL t=look g2.bL t)(eC:g1.rs=g2.rs)(p7:g1.ids=g2.ids)
 (hn:p6 o=true→g1.aL=g2.aL) (eZ:∀q,q∈im tt g1 p o→look g1.H q=look g2.H q):step1 bX tt ops g1 p o=step1 bX tt ops g2 p o:=by
 have R:∀x,x∈o.op.operands.toList→∀p ty,rd g1.env g1.bL p tt ty x=rd g2.env g2.bL p tt ty x:=λx hx p ty=>KT (hs x hx) p ty
 have O:∀x,x∈o.op.operands.toList→oR g1 x=oR g2 x:=λx hx=>abD λt aC=>(hs x hx t aC).1
 cases am:o.op with
 |move x=>simp only [am,Op.operands]at R O;simp only [step1,am,R x (by simp),O x (by simp),eC]
 |assign x=>simp only [am,Op.operands]at R O;simp only [step1,am,R x (by simp),O x (by simp),eC]
 |pick c a b=>
  simp only [am,Op.operands]at R O;cases c with
  |tmp c=>simp only [step1,am,R (.tmp c) (by simp),R a (by simp),R b (by simp),eC]
  |_=>simp only [step1,am]
 |alloc t=>
  have hi:nk g1 o=nk g2 o:=Sz p7 (hn (by simp [p6,am])) λid hid=>eZ id (by simp [im,am,hid])
  simp only [step1,am,eC,hi]
 |box t x=>
  have hi:nk g1 o=nk g2 o:=Sz p7 (hn (by simp [p6,am])) λid hid=>eZ id (by simp [im,am,hid])
  simp only [am,Op.operands]at R O;simp only [step1,am,R x (by simp),eC,hi]
 |build t parts=>
  simp only [am,Op.operands]at R O
  have:mapM' (fun(i,x)=>(rd g1.env g1.bL p tt (q1 tt t i) x).map λd=>(i,d)) parts.toList=mapM' (fun(i,x)=>(rd g2.env g2.bL p tt (q1 tt t i) x).map λd=>(i,d)) parts.toList:=
   AD λy bY=>by
    obtain⟨i,x⟩:=y;simp only [R x (List.mem_map.2 ⟨(i,x),bY,rfl⟩)]
  simp only [step1,am,this,eC]
 |buildSlice t len parts=>
  simp only [am,Op.operands]at R O
  have:mapM' (fun(i,x)=>(rd g1.env g1.bL p tt (q1 tt t i) x).map λd=>(i,d)) parts.toList=mapM' (fun(i,x)=>(rd g2.env g2.bL p tt (q1 tt t i) x).map λd=>(i,d)) parts.toList:=
   AD λy bY=>by
    obtain⟨i,x⟩:=y;simp only [R x (List.mem_map.2 ⟨(i,x),bY,rfl⟩)]
  simp only [step1,am,this,eC]
 |load t a=>
  simp only [am,Op.operands]at R O;simp only [im,am,R a (by simp)]at eZ
  simp only [step1,am,R a (by simp),eC]
  split
  ·rename_i q off aF ha D6;simp only [ha]at eZ;simp only [eZ q (by simp)]
  ·rfl
  ·rfl
 |store t a x=>
  simp only [am,Op.operands]at R O;simp only [im,am,R a (by simp)]at eZ
  simp only [step1,am,R a (by simp),R x (by simp),O x (by simp),eC]
  split
  ·rename_i q off d aF ha hd D6;simp only [ha]at eZ;simp only [eZ q (by simp)]
  ·rfl
 |nilCheck x=>simp only [am,Op.operands]at R O;simp only [step1,am,R x (by simp),eC]
 |binOp op t x y t2=>simp only [am,Op.operands]at R O;simp only [step1,am,R x (by simp),R y (by simp),eC]
 |unOp op t x=>simp only [am,Op.operands]at R O;simp only [step1,am,R x (by simp),eC]
 |convert s t x=>simp only [am,Op.operands]at R O;simp only [step1,am,R x (by simp),eC]
 |makeInterface t x=>simp only [am,Op.operands]at R O;simp only [step1,am,R x (by simp),eC]
 |makeFunc fn first eT=>
  simp only [am,Op.operands]at R O;cases fn with
  |func f=>
   have:mapM' (rd g1.env g1.bL p tt o.type) eT.toList=mapM' (rd g2.env g2.bL p tt o.type) eT.toList:=AD λx hx=>R x (by rw [Array.toList_append];exact List.mem_append_right _ hx) _ _
   simp only [step1,am,this,eC]
  |_=>simp only [step1,am]
 |slice t x lo hi lD=>
  simp only [am,Op.operands]at R O
  have jz:lo.map (rd g1.env g1.bL p tt o.type)=lo.map (rd g2.env g2.bL p tt o.type):=by
   cases lo with
   |none=>rfl
   |some l=>simp [R l (by simp)]
  have iT:hi.map (rd g1.env g1.bL p tt o.type)=hi.map (rd g2.env g2.bL p tt o.type):=by
   cases hi with
   |none=>rfl
   |some l=>simp [R l (by simp)]
  have abG:lD.map (rd g1.env g1.bL p tt o.type)=lD.map (rd g2.env g2.bL p tt o.type):=by
   cases lD with
   |none=>rfl
   |some m=>simp [R m (by simp)]
  simp only [step1,am,R x (by simp),jz,iT,abG,eC]
 |fieldAddr s x f=>simp only [am,Op.operands]at R O;simp only [step1,am,R x (by simp),eC]
 |field s x f=>simp only [am,Op.operands]at R O;simp only [step1,am,R x (by simp),eC]
 |indexAddr t x i=>simp only [am,Op.operands]at R O;simp only [step1,am,R x (by simp),R i (by simp),eC]
 |index t x i=>simp only [am,Op.operands]at R O;simp only [step1,am,R x (by simp),R i (by simp),eC]
 |typeAssert x a t ok=>simp only [am,Op.operands]at R O;simp only [step1,am,R x (by simp),eC]
 |extract x i=>simp only [am,Op.operands]at R O;simp only [step1,am,R x (by simp),eC]
 |panic x=>simp only [am,Op.operands]at R O;simp only [step1,am,R x (by simp)]
 |call c=>
  simp only [am,Op.operands,Call.operands]at R O hs;cases hc:c.callee with
  |value x=>
   have hx:=R x (by simp [hc])
   have ha:lb (rd g1.env g1.bL p tt) c.args.toList c.argTypes.toList=lb (rd g2.env g2.bL p tt) c.args.toList c.argTypes.toList:=KU λy bY t=>R y (by rw [Array.toList_append];exact List.mem_append_right _ bY) p t
   simp only [im,am,hc,hx,ha]at eZ;simp only [step1,am,hc,hx,ha];split
   ·rename_i f eT ds Z aa;simp only [Z,aa]at eZ;exact abF (λt aC=>hs (.tmp t) (by rw [Array.toList_append];exact List.mem_append_right _ aC) t rfl) eC eZ
   ·rfl
  |invoke x m=>simp only [step1,am,hc]
  |builtin b=>
   have ha:mapM' (λy=>rd g1.env g1.bL p tt o.type y) c.args.toList=mapM' (λy=>rd g2.env g2.bL p tt o.type y) c.args.toList:=AD λx hx=>R x (by rw [Array.toList_append];exact List.mem_append_right _ hx) _ _
   cases b with
   |len=>simp only [step1,am,hc,ha,eC]
   |min=>simp only [step1,am,hc,ha,eC]
   |max=>simp only [step1,am,hc,ha,eC]
   |append=>
    simp only [step1,am,hc,eC];split
    ·rename_i t x e fw amk aml _ t2 ab _ _;have hm:∀y,y∈[Operand.tmp t,x]→y∈(match c.callee with|.value f => #[f] |.invoke r _ => #[r] |.builtin _ => #[]:Array Operand).toList++c.args.toList:=λy bY=>by rw [ab];exact List.mem_append_right _ bY
     have jA:∀y,y∈[Operand.tmp t,x]→y∈((match c.callee with|.value f => #[f] |.invoke r _ => #[r] |.builtin _ => #[]:Array Operand)++c.args).toList:=λy bY=>by rw [Array.toList_append];exact hm y bY
     simp only [R (.tmp t) (jA _ (by simp)),R x (jA _ (by simp)),(hs (.tmp t) (jA _ (by simp)) t rfl).1]
    ·rfl
   |_=>simp only [step1,am,hc]
 |_=>simp only [step1,am]
end
structure dX where
 dst:Option Nat
 p:Path
 f:kE
 jB:List Nat
 mI:List Nat
 o4:Bool
 rs:List e8
 kd:Nat:=0
 uy:V:=.d'
 o5:List (Nat×List aP):=[]
 sv:List (Nat×List aP):=[]
 ny:Nat:=0
def o6(ops:List Oper)(o:Oper):List Nat:=
 (o.op.operands.toList.filterMap fun|.tmp t=>some t|_=>none)++(match o.guard with
  |some (j,_)=>((ops[j]?).bind (·.dst)).toList
  |none=>[])
def ec(E:dX)(g:c6):c6:=
 match E.dst with
 |none=>{g with env:=gM E.f.gY g.env,H:=E.f.hs++g.H,aL:=g.aL+E.f.e6}
 |some t=>match E.p with
  |[]=>{g with
   env:=match E.f.e with|some e=>(t,e)::gM E.f.gY g.env|none=>del (gM E.f.gY g.env) t
   bL:=del g.bL t,H:=E.f.hs++g.H,aL:=g.aL+E.f.e6}
  |_::_=>match E.f.e with
   |some e=>{g with env:=del g.env t,bL:=(t,E.p,e.d)::del g.bL t}
   |none=>g
def nz(E:dX):List Nat:=E.dst.toList++E.f.gY
def ob(E:dX):List Nat:=E.f.hs.map (·.1)
def w6{α:Type}:∀(a b:List (Nat×α)) (q:Nat),look (a++b) q=(match look a q with|some x=>some x|none=>look b q)
 |[],_,_=>rfl
 |(j,x)::a,b,q=>by
  simp only [List.cons_append,dB,w6 a b q];by_cases h:j=q<;>simp [h]
def SA{α:Type}:∀{a:List (Nat×α)} {q:Nat},q∉a.map (·.1)→look a q=none
 |[],_,_=>rfl
 |(j,x)::a,q,h=>by
  simp only [List.map_cons,List.mem_cons,not_or]at h;rw [dB,if_neg (Ne.symm h.1)];exact SA h.2
section
variable {E:dX} {g g1 g2:c6}
def mg(g1 g2:c6)(t:Nat):Prop:=look g1.env t=look g2.env t∧look g1.bL t=look g2.bL t
def uz(g1 g2:c6)(q:Nat):Prop:=look g1.H q=look g2.H q
def uA{t:Nat}(h:t∉nz E):mg (ec E g) g t:=by
 simp only [nz,List.mem_append,not_or]at h;unfold mg ec;cases hd:E.dst with
 |none=>simp only [np,if_neg h.2,and_self]
 |some u=>
  have hu:u≠t:=by rintro rfl;simp [hd]at h
  cases hp:E.p with
  |nil=>
   dsimp only
   cases he:E.f.e with
   |some e=>simp only [dB,if_neg hu,np,if_neg h.2,pT,and_self]
   |none=>simp only [np,if_neg h.2,pT,if_neg hu,and_self]
  |cons x p=>
   dsimp only
   cases he:E.f.e with
   |some e=>simp only [dB,if_neg hu,pT,and_self]
   |none=>exact⟨rfl,rfl⟩
def KX{t:Nat}(h:mg g1 g2 t):mg (ec E g1) (ec E g2) t:=by
 obtain⟨Z,aa⟩:=h;unfold mg ec;cases hd:E.dst with
 |none=>simp only [np,Z,aa,and_self]
 |some u=>
  cases hp:E.p with
  |nil=>
   dsimp only
   cases he:E.f.e with
   |some e=>simp only [dB,np,Z,aa,pT,and_self]
   |none=>simp only [np,pT,Z,aa,and_self]
  |cons x p=>
   dsimp only
   cases he:E.f.e with
   |some e=>simp only [dB,pT,Z,aa,and_self]
   |none=>exact⟨Z,aa⟩
def KY:(ec E g).H=E.f.hs++g.H∨(ec E g).H=g.H:=by
 unfold ec;cases E.dst with
 |none=>exact .inl rfl
 |some u=>
  cases E.p with
  |nil=>exact .inl rfl
  |cons x p=>dsimp only;cases E.f.e<;>exact .inr rfl
def w7{q:Nat}(h:q∉ob E):uz (ec E g) g q:=by
 unfold uz;rcases KY (E:=E) (g:=g)with Z|Z<;>rw [Z]
 rw [w6,SA h]
def KZ{q:Nat}(h:uz g1 g2 q):uz (ec E g1) (ec E g2) q:=by
 unfold uz at *;unfold ec;cases E.dst with
 |none=>simp only [w6,h]
 |some u=>
  cases E.p with
  |nil=>simp only [w6,h]
  |cons x p=>dsimp only;cases E.f.e<;>exact h
def w8(E:dX):Nat:=
 match E.dst with
 |none=>E.f.e6
 |some _=>match E.p with
  |[]=>E.f.e6
  |_::_=>0
def Ei:(ec E g).aL=g.aL+w8 E:=by
 unfold ec w8;cases E.dst with
 |none=>rfl
 |some u=>
  cases E.p with
  |nil=>rfl
  |cons x p=>dsimp only;cases E.f.e<;>rfl
structure Alike(g1 g2:c6):Prop where
 slot:∀t,mg g1 g2 t
 box:∀q,uz g1 g2 q
 aL:g1.aL=g2.aL
 ids:g1.ids=g2.ids
def Ej:(ec E g).ids=g.ids:=by
 unfold ec;cases E.dst with
 |none=>rfl
 |some u=>
  cases E.p with
  |nil=>rfl
  |cons x p=>dsimp only;cases E.f.e<;>rfl
def Alike.refl:Alike g g:=⟨λ_=>⟨rfl,rfl⟩,λ_=>rfl,rfl,rfl⟩
def Alike.symm(h:Alike g1 g2):Alike g2 g1:=⟨λt=>⟨(h.slot t).1.symm,(h.slot t).2.symm⟩,λq=>(h.box q).symm,h.aL.symm,h.ids.symm⟩
def Alike.trans{g3:c6}(h:Alike g1 g2)(cv:Alike g2 g3):Alike g1 g3:=⟨λt=>⟨(h.slot t).1.trans (cv.slot t).1,(h.slot t).2.trans (cv.slot t).2⟩,λq=>(h.box q).trans (cv.box q),h.aL.trans cv.aL,h.ids.trans cv.ids⟩
def Alike.ap(h:Alike g1 g2):Alike (ec E g1) (ec E g2):=
 ⟨λt=>KX (h.slot t),λq=>KZ (h.box q),(by simp only [Ei,h.aL]),by simp only [Ej,h.ids]⟩
def sep(a b:List Nat):Bool:=a.all λx=>!b.any (Nat.beq x)
def uB{a b:List Nat}(h:sep a b=true){x:Nat}(ha:x∈a):x∉b:=by
 intro hb;have:=List.all_eq_true.1 h x ha
 simp only [Bool.not_eq_true',List.any_eq_false]at this;exact this x hb (by simp)
def AE(E cV:dX):Bool:=
 sep (nz E) cV.mI&&sep (nz E) (nz cV)&&sep (nz cV) E.mI&&(sep (ob E) cV.jB||Nat.beq E.ny 2&&Nat.beq cV.ny 1)&&sep (ob E) (ob cV)&&(sep (ob cV) E.jB||Nat.beq cV.ny 2&&Nat.beq E.ny 1)&&(!E.o4||Nat.beq (w8 cV) 0)&&(!cV.o4||Nat.beq (w8 E) 0)
def abH{E cV:dX}(Z:sep (nz E) (nz cV)=true)(aa:sep (ob E) (ob cV)=true):Alike (ec E (ec cV g)) (ec cV (ec E g)):=by
 refine⟨λt=>?_,λq=>?_,?_,by simp only [Ej]⟩
 ·by_cases aC:t∈nz E
  ·have en:=uB Z aC;have a:mg (ec E (ec cV g)) (ec E g) t:=KX (uA en);have b:mg (ec cV (ec E g)) (ec E g) t:=uA en;exact⟨a.1.trans b.1.symm,a.2.trans b.2.symm⟩
  ·have a:mg (ec E (ec cV g)) (ec cV g) t:=uA aC;have b:mg (ec cV (ec E g)) (ec cV g) t:=KX (uA aC);exact⟨a.1.trans b.1.symm,a.2.trans b.2.symm⟩
 ·by_cases aC:q∈ob E
  ·have en:=uB aa aC;exact(KZ (E:=E) (w7 (E:=cV) (g:=g) en)).trans (w7 (E:=cV) (g:=ec E g) en).symm
  ·exact(w7 (E:=E) (g:=ec cV g) aC).trans (KZ (E:=cV) (w7 (E:=E) (g:=g) aC)).symm
 ·simp only [Ei];omega
end
section
variable {tt:dq} {ops:List Oper} {bX:gf} {o:Oper} {E:dX} {g g1 g2:c6}
def SB(h:∀t,t∈o6 ops o→mg g1 g2 t):oT ops g1 o=oT ops g2 o:=by
 unfold oT;split
 ·rfl
 ·rename_i j w hg;cases aC:(ops[j]?).bind (·.dst) with
  |none=>rfl
  |some t=>
   have:=h t (by simp [o6,hg,aC])
   simp only [this.1,this.2]
def Ek:∀{p:Path} {q:Prop},(∀x,x∈p→mg g1 g2 x.1)→under g1 p q=under g2 p q
 |[],_,_=>rfl
 |(t,w)::p,q,h=>by
  have aC:=h (t,w) (by simp)
  have aG:=Ek (p:=p) (q:=q) λx hx=>h x (by simp [hx])
  have:zJ g1.env g1.bL t=zJ g2.env g2.bL t:=by unfold zJ;rw [aC.1,aC.2]
  simp only [under,this,aG]
def abI{p:Path}(hs:∀x,x∈o.op.operands.toList→∀t,x = .tmp t→look g1.env t=look g2.env t∧look g1.bL t=look g2.bL t)(p7:g1.ids=g2.ids)(eZ:∀q,q∈im tt g1 p o→look g1.H q=look g2.H q):im tt g1 p o=im tt g2 p o:=by
 have R:∀x,x∈o.op.operands.toList→∀p ty,rd g1.env g1.bL p tt ty x=rd g2.env g2.bL p tt ty x:=λx hx p ty=>KT (hs x hx) p ty
 cases am:o.op with
 |alloc t=>simp only [im,am,p7]
 |box t x=>simp only [im,am,p7]
 |load t a=>simp only [am,Op.operands]at R;simp only [im,am,R a (by simp)]
 |store t a x=>simp only [am,Op.operands]at R;simp only [im,am,R a (by simp)]
 |call c=>
  simp only [am,Op.operands,Call.operands]at R;cases hc:c.callee with
  |value x=>
   have hx:=R x (by simp [hc])
   have ha:lb (rd g1.env g1.bL p tt) c.args.toList c.argTypes.toList=lb (rd g2.env g2.bL p tt) c.args.toList c.argTypes.toList:=KU λy bY t=>R y (by rw [Array.toList_append];exact List.mem_append_right _ bY) p t
   simp only [im,am,hc,hx,ha]at eZ ⊢;split
   ·rename_i f eT ds Z aa;simp only [Z,aa]at eZ;exact KV eZ
   ·rfl
  |_=>simp only [im,am,hc]
 |_=>simp only [im,am]
structure K0(bX:gf)(tt:dq)(ops:List Oper)(o:Oper)(E:dX)(g:c6):Prop where
 El:oT ops g o=some E.p
 st:step1 bX tt ops {g with rs:=E.rs} E.p o=some (bif Nat.beq E.kd 0 then .go E.f else .a8 E.uy E.o5 E.f.aO)
 aO:∀q,q∈E.f.aO→under g E.p q
 jB:∀q,q∈im tt g E.p o→q∈E.jB
 fin:E.kd=1→∀q,q∈E.jB→look g.H q=look E.sv q
def Can(bX:gf)(tt:dq)(ops:List Oper)(o:Oper)(E:dX)(g:c6):Prop:=E.kd=2∨K0 bX tt ops o E g
def Can.congr(h:Can bX tt ops o E g1)(uC:∀t,t∈o6 ops o++E.p.map (·.1)→t∈E.mI)(Em:p6 o=E.o4)(hs:∀t,t∈E.mI→mg g1 g2 t)(hb:∀q,q∈E.jB→uz g1 g2 q)(hn:E.o4=true→g1.aL=g2.aL)(p7:g1.ids=g2.ids):Can bX tt ops o E g2:=by
 rcases h with h|h
 ·exact .inl h
 right
 have eo:∀x,x∈o.op.operands.toList→∀t,x = .tmp t→look g1.env t=look g2.env t∧look g1.bL t=look g2.bL t:=by
  rintro x hx t rfl
  exact hs t (uC t (List.mem_append_left _ (by simp only [o6,List.mem_append,List.mem_filterMap];exact .inl ⟨_,hx,rfl⟩)))
 have lj:im tt g1 E.p o=im tt g2 E.p o:=abI eo p7 (λq al=>hb q (h.jB q al))
 refine⟨?_,?_,λq al=>?_,(by rw [←lj];exact h.jB),λhk q al=>(hb q al).symm.trans (h.fin hk q al)⟩
 ·rw [←SB (g1:=g1) (g2:=g2) λt aC=>hs t (uC t (List.mem_append_left _ aC))];exact h.El
 ·rw [←h.st];refine(KW (g1:={g1 with rs:=E.rs}) (g2:={g2 with rs:=E.rs}) eo rfl p7 (λhm=>hn (by rw [←Em];exact hm)) (λq al=>hb q ?_)).symm
  exact h.jB q al
 ·rw [←Ek (g1:=g1) (g2:=g2) λx hx=>hs x.1 (uC _ (List.mem_append_right _ (List.mem_map.2 ⟨x,hx,rfl⟩)))]
  exact h.aO q al
def uD(o:Oper)(rs:List e8):Nat:=
 match o.op with
 |.load _ _=>match rs with
  |.own::_=>2
  |_=>1
 |_=>0
def sw(g1 g2:c6)(q:Nat):Prop:=(look g1.H q).map (·.map (·.d))=(look g2.H q).map (·.map (·.d))
def SC:∀(cs:List aP) (off:Nat) (e:aP),cs[off]? = some e→(setAt cs off [{d:=e.d}]).map (·.d)=cs.map (·.d)
 |[],off,e,h=>by simp at h
 |c::cs,0,e,h=>by
  simp only [List.getElem?_cons_zero,Option.some.injEq]at h;subst h;simp [setAt]
 |c::cs,off+1,e,h=>by
  simp only [List.getElem?_cons_succ]at h;simp only [setAt,List.map_cons,SC cs off e h]
def abJ(h:K0 bX tt ops o E g)(ab:uD o E.rs=2)(hk:E.kd=0)(q:Nat):sw (ec E g) g q:=by
 have ea:=h.st;rw [hk]at ea;unfold uD at ab;split at ab
 case h_2=>cases ab
 rename_i t a am;simp only [step1,am,show Nat.beq 0 0=true from rfl,cond_true]at ea
 have nil:E.f.hs=[]→sw (ec E g) g q:=by
  intro bf;unfold sw;rcases KY (E:=E) (g:=g)with Z|Z<;>rw [Z]
  rw [bf];rfl
 split at ea
 ·rename_i abK off aF ah cK;split at ea
  ·rename_i cs dV;rw [Bool.cond_eq_ite]at ea;split at ea
   ·rw [Bool.cond_eq_ite]at ea;split at ea
    ·simp only [Option.map_some,Option.some.injEq,nj.go.injEq]at ea;exact nil (by rw [←ea])
    ·cases ea
   ·split at ea
    ·rename_i e he;split at ea
     ·rw [Bool.cond_eq_ite]at ea;split at ea
      ·simp only [Option.some.injEq,nj.go.injEq]at ea;unfold sw;rcases KY (E:=E) (g:=g)with Z|Z<;>rw [Z]
       rw [←ea];simp only [List.cons_append,List.nil_append,dB];split
       ·rename_i al;subst al;rw [dV];simp only [Option.map_some,SC cs off e he]
       ·rfl
      ·cases ea
     ·simp only [Option.map_some,Option.some.injEq,nj.go.injEq]at ea;exact nil (by rw [←ea])
    ·cases ea
  ·cases ea
 ·rename_i x aF ah cK;rw [Bool.cond_eq_ite]at ea;split at ea
  ·simp only [Option.map_some,Option.some.injEq,nj.go.injEq]at ea;exact nil (by rw [←ea])
  ·cases ea
 ·cases ea
def abL{p:Path}{rs:List e8}{t:TypeId}{a:Operand}(am:o.op = .load t a)(eC:∀l,rs ≠ .own::l)(R:rd g1.env g1.bL p tt o.type a=rd g2.env g2.bL p tt o.type a)(K1:∀q off,rd g2.env g2.bL p tt o.type a=some (.ptr q off)→sw g1 g2 q):
 step1 bX tt ops {g1 with rs:=rs} p o=step1 bX tt ops {g2 with rs:=rs} p o:=by
 simp only [step1,am,R];split
 ·rename_i q off aF ah cK;have hd:=K1 q off ah;unfold sw at hd;cases Z:look g1.H q with
  |none=>
   rw [Z]at hd;cases aa:look g2.H q with
   |none=>rfl
   |some c2=>rw [aa]at hd;cases hd
  |some c1=>
   rw [Z]at hd;cases aa:look g2.H q with
   |none=>rw [aa]at hd;cases hd
   |some c2=>
    rw [aa]at hd;simp only [Option.map_some,Option.some.injEq]at hd;have hlen:c1.length=c2.length:=by have:=congrArg List.length hd;simpa using this
    have abM:((c1.drop off).take aF.size).map (·.d)=((c2.drop off).take aF.size).map (·.d):=by rw [List.map_take,List.map_drop,hd,←List.map_drop,←List.map_take]
    have ij:(c1[off]?).map (·.d)=(c2[off]?).map (·.d):=by rw [←List.getElem?_map,hd,List.getElem?_map]
    simp only [hlen,abM];cases aF.k.isAgg with
    |true=>rfl
    |false=>
     simp only [cond_false];cases SD:c1[off]? with
     |none=>
      rw [SD]at ij;cases En:c2[off]? with
      |none=>rfl
      |some e2=>rw [En]at ij;cases ij
     |some e1=>
      rw [SD]at ij;cases En:c2[off]? with
      |none=>rw [En]at ij;cases ij
      |some e2=>
       rw [En]at ij;simp only [Option.map_some,Option.some.injEq]at ij;cases rs with
       |nil=>cases e1.own<;>cases e2.own<;>simp [ij]
       |cons r l=>
        cases r with
        |own=>exact absurd rfl (eC l)
        |val x=>cases e1.own<;>cases e2.own<;>simp [ij]
        |raw=>cases e1.own<;>cases e2.own<;>simp [ij]
        |call u v z=>cases e1.own<;>cases e2.own<;>simp [ij]
 ·rfl
 ·rfl
def Can.SE(h:Can bX tt ops o E g1)(ab:uD o E.rs=1)(hk:E.kd=0)(uC:∀t,t∈o6 ops o++E.p.map (·.1)→t∈E.mI)(hs:∀t,t∈E.mI→mg g1 g2 t)(hb:∀q,sw g1 g2 q):Can bX tt ops o E g2:=by
 rcases h with h|h
 ·exact .inl h
 right
 have eo:∀x,x∈o.op.operands.toList→∀t,x = .tmp t→look g1.env t=look g2.env t∧look g1.bL t=look g2.bL t:=by
  rintro x hx t rfl
  exact hs t (uC t (List.mem_append_left _ (by simp only [o6,List.mem_append,List.mem_filterMap];exact .inl ⟨_,hx,rfl⟩)))
 unfold uD at ab;split at ab
 case h_2=>cases ab
 rename_i t a am
 have eC:∀l,E.rs ≠ .own::l:=by
  intro l e;rw [e]at ab;cases ab
 have R:rd g1.env g1.bL E.p tt o.type a=rd g2.env g2.bL E.p tt o.type a:=KT (eo a (by simp [am,Op.operands])) _ _
 have lj:im tt g1 E.p o=im tt g2 E.p o:=by simp only [im,am,R]
 refine⟨?_,?_,λq al=>?_,(by rw [←lj];exact h.jB),λrj=>by rw [hk]at rj;cases rj⟩
 ·rw [←SB (g1:=g1) (g2:=g2) λt aC=>hs t (uC t (List.mem_append_left _ aC))];exact h.El
 ·rw [←h.st];exact(abL am eC R λq off _=>hb q).symm
 ·rw [←Ek (g1:=g1) (g2:=g2) λx hx=>hs x.1 (uC _ (List.mem_append_right _ (List.mem_map.2 ⟨x,hx,rfl⟩)))]
  exact h.aO q al
end
def gt(ops:List Oper)(o:Oper)(E:dX):Bool:=abN (o6 ops o++E.p.map (·.1)) E.mI&&(p6 o == E.o4)&&decide (E.dst=o.dst)&&(match E.f.rs with|[]=>true|_=>false)&&(Nat.beq E.ny 0||Nat.beq E.ny (uD o E.rs)&&Nat.beq E.kd 0)
where abN (a b:List Nat):Bool:=a.all λx=>b.any (Nat.beq x)
def Eo{ops:List Oper}{o:Oper}{E:dX}(h:gt ops o E=true):(∀t,t∈o6 ops o++E.p.map (·.1)→t∈E.mI)∧p6 o=E.o4∧E.dst=o.dst∧E.f.rs=[]:=by
 simp only [gt,Bool.and_eq_true,beq_iff_eq,decide_eq_true_eq]at h;obtain⟨⟨⟨⟨Z,aa⟩,ai⟩,ay⟩,_⟩:=h;refine⟨λt aC=>?_,aa,ai,?_⟩
 ·obtain⟨y,bY,gv⟩:=List.any_eq_true.1 (List.all_eq_true.1 Z t aC);have:t=y:=by simpa using gv
  rw [this];exact bY
 ·split at ay
  ·assumption
  ·cases ay
def waits(ops:List Oper)(i:Nat):Nat→Nat→Bool
 | 0,_=>false
 |n+1,j=>match ops[j]? with
  |some o=>o.after.toList.any λe=>Region.binds .any e&&(Nat.beq e.on i||waits ops i n e.on)
  |none=>false
def nA(opsA:Array Oper)(listed:Array Bool):Prop:=∀(j:Nat) o,opsA[j]? = some o→listed.getD j false=true→∀e,e∈o.after→Region.binds .any e=true→listed.getD e.on false=true
def Ep{opsA:Array Oper}{listed:Array Bool}(hc:nA opsA listed){i:Nat}:∀{n j:Nat},waits opsA.toList i n j=true→listed.getD j false=true→listed.getD i false=true
 | 0,_,h,_=>by simp [waits]at h
 |n+1,j,h,hj=>by
  simp only [waits]at h;split at h
  ·rename_i o am;obtain⟨e,he,hb⟩:=List.any_eq_true.1 h;simp only [Bool.and_eq_true,Bool.or_eq_true,Nat.beq_eq]at hb;have Z:=hc j o (by simpa using am) hj e (by simpa using he) hb.1
   rcases hb.2 with rfl|aa
   ·exact Z
   ·exact Ep hc aa Z
  ·cases h
def nA.set{opsA:Array Oper}{listed:Array Bool}(hc:nA opsA listed){i:Nat}(ah:i∈Region.ready .any opsA listed):nA opsA (listed.setIfInBounds i true):=by
 intro j o am hj e he hb;by_cases o7:i=j
 ·subst o7;obtain⟨_,o',ke,o8⟩:=mem_ready.1 ah;rw [am]at ke;cases ke;exact getD_set_true (o8 e he hb)
 ·rw [getD_set_ne false o7]at hj;exact getD_set_true (hc j o am hj e he hb)
section
variable {bX:gf} {tt:dq} {opsA:Array Oper} {ci:List dX} {Fi:c6→Prop} {g g1 g2:c6}
def iU(bX:gf)(tt:dq)(opsA:Array Oper)(ci:List dX)(Fi:c6→Prop):Nat→Array Bool→c6→Prop
 | 0,listed,g=>Region.ready .any opsA listed=[]∧Fi g
 |n+1,listed,g=>(Region.ready .any opsA listed=[]→Fi g)∧∀i,i∈Region.ready .any opsA listed→∃o E,opsA[i]? = some o∧ci[i]? = some E∧Can bX tt opsA.toList o E g∧
  iU bX tt opsA ci Fi n (listed.setIfInBounds i true) (ec E g)
def iU.alike(cG:∀(i:Nat) o E,opsA[i]? = some o→ci[i]? = some E→gt opsA.toList o E=true)(dw:∀g1 g2,Alike g1 g2→Fi g1→Fi g2):∀{n:Nat} {listed:Array Bool} {g1 g2:c6},Alike g1 g2→iU bX tt opsA ci Fi n listed g1→iU bX tt opsA ci Fi n listed g2
 | 0,_,_,_,ha,h=>⟨h.1,dw _ _ ha h.2⟩
 |n+1,_,_,_,ha,h=>⟨λah=>dw _ _ ha (h.1 ah),λi hi=>by
  obtain⟨o,E,am,bH,ji,hn⟩:=h.2 i hi;obtain⟨cP,aq,_,_⟩:=Eo (cG i o E am bH);exact⟨o,E,am,bH,ji.congr cP aq (λt _=>ha.slot t) (λq _=>ha.box q) (λ_=>ha.aL) ha.ids,iU.alike cG dw ha.ap hn⟩⟩
def AF{ops:List Oper}{o:Oper}{E:dX}{n:Nat}(h:gt ops o E=true)(ab:E.ny=n+1):uD o E.rs=n+1∧E.kd=0:=by
 simp only [gt,Bool.and_eq_true,Bool.or_eq_true,Nat.beq_eq]at h;rcases h.2 with h|h
 ·rw [ab]at h;cases h
 ·exact⟨h.1.symm.trans ab,h.2⟩
def Can.data{bX:gf}{tt:dq}{ops:List Oper}{o:Oper}{E:dX}{g:c6}(h:Can bX tt ops o E g)(cG:gt ops o E=true)(ab:E.ny=2)(q:Nat):sw (ec E g) g q:=by
 obtain⟨Z,aa⟩:=AF cG ab;rcases h with h|h
 ·rw [aa]at h;cases h
 ·exact abJ h Z aa q
def abO{E cV:dX}(h:AE E cV=true):sep (nz E) cV.mI=true∧sep (nz E) (nz cV)=true∧sep (nz cV) E.mI=true∧(sep (ob E) cV.jB=true∨E.ny=2∧cV.ny=1)∧sep (ob E) (ob cV)=true∧(sep (ob cV) E.jB=true∨cV.ny=2∧E.ny=1)∧(E.o4=true→w8 cV=0)∧(cV.o4=true→w8 E=0):=by
 simp only [AE,Bool.and_eq_true,Bool.or_eq_true,Bool.not_eq_true',Nat.beq_eq]at h;obtain⟨⟨⟨⟨⟨⟨⟨Z,aa⟩,ai⟩,ay⟩,aJ⟩,bE⟩,cz⟩,dh⟩:=h;exact⟨Z,aa,ai,ay,aJ,bE,λhm=>cz.resolve_left (by simp [hm]),λhm=>dh.resolve_left (by simp [hm])⟩
def iU.first(cG:∀(i:Nat) o E,opsA[i]? = some o→ci[i]? = some E→gt opsA.toList o E=true)(dw:∀g1 g2,Alike g1 g2→Fi g1→Fi g2){i:Nat}{o:Oper}{E:dX}(hi:opsA[i]? = some o)(bH:ci[i]? = some E):
 ∀(fuel:Nat) (listed:Array Bool) (g:c6),
  (∀(j:Nat) o9 lN,opsA[j]? = some o9→ci[j]? = some lN→j≠i→listed.getD j true=false→waits opsA.toList i 3 j=false→AE E lN=true)→nA opsA listed→
  i∈Region.ready .any opsA listed→Can bX tt opsA.toList o E g→iU bX tt opsA ci Fi fuel (listed.setIfInBounds i true) (ec E g)→iU bX tt opsA ci Fi (fuel+1) listed g:=by
 intro fuel;induction fuel with
 |zero=>
  intro listed g _ _ ah ji H;refine⟨λh=>(by rw [h]at ah;cases ah),λj hj=>?_⟩
  by_cases o7:j=i
  ·subst o7;exact⟨o,E,hi,bH,ji,H⟩
  ·have:=ready_mono hj o7
   rw [H.1]at this;cases this
 |succ fuel aG=>
  intro listed g jM gn ah ji H;refine⟨λh=>(by rw [h]at ah;cases ah),λj hj=>?_⟩
  by_cases o7:j=i
  ·subst o7;exact⟨o,E,hi,bH,ji,H⟩
  obtain⟨o9,lN,o_,sx,SF,abP⟩:=H.2 j (ready_mono hj o7);obtain⟨SG,amm,SH,o8⟩:=mem_ready.1 hj;rw [o_]at SH;cases SH
  have nB:listed.getD i false=false:=by
   have h0:=(mem_ready.1 ah).1;rcases Nat.lt_or_ge i listed.size with cv|cv
   ·simpa [Array.getD_eq_getD_getElem?,cv]using h0
   ·simp [Array.getD_eq_getD_getElem?,Array.getElem?_eq_none cv]
  have abQ:waits opsA.toList i 3 j=false:=by
   rw [Bool.eq_false_iff];intro hw;rw [waits]at hw;have ab:opsA.toList[j]? = some o9:=by simpa using o_
   simp only [ab]at hw;obtain⟨e,he,hb⟩:=List.any_eq_true.1 hw;simp only [Bool.and_eq_true,Bool.or_eq_true,Nat.beq_eq]at hb;have Z:=o8 e (by simpa using he) hb.1
   rcases hb.2 with rfl|aa
   ·rw [nB]at Z;cases Z
   ·rw [Ep gn aa Z]at nB;cases nB
  obtain⟨d1,d2,d3,d4,d5,d6,d7,d8⟩:=abO (jM j o9 lN o_ sx o7 SG abQ);obtain⟨cP,aq,_,_⟩:=Eo (cG i o E hi bH);obtain⟨gZ,jy,_,_⟩:=Eo (cG j o9 lN o_ sx)
  have c1:Can bX tt opsA.toList o9 lN g:=by
   rcases d4 with d4|⟨e1,e2⟩
   ·exact SF.congr gZ jy (λt aC=>uA λhw=>uB d1 hw aC) (λq al=>w7 λhw=>uB d4 hw al) (λhm=>by rw [Ei,d8 hm];rfl) Ej
   ·exact SF.SE (AF (cG j o9 lN o_ sx) e2).1 (AF (cG j o9 lN o_ sx) e2).2 gZ (λt aC=>uA λhw=>uB d1 hw aC) (ji.data (cG i o E hi bH) e1)
  have c2:Can bX tt opsA.toList o E (ec lN g):=by
   have SI:∀t,t∈E.mI→mg g (ec lN g) t:=λt aC=>by have:=uA (E:=lN) (g:=g) (t:=t) λhw=>uB d3 hw aC;exact⟨this.1.symm,this.2.symm⟩
   rcases d6 with d6|⟨e1,e2⟩
   ·exact ji.congr cP aq SI (λq al=>(w7 (E:=lN) (g:=g) (q:=q) λhw=>uB d6 hw al).symm) (λhm=>by rw [Ei,d7 hm];rfl) Ej.symm
   ·exact ji.SE (AF (cG i o E hi bH) e2).1 (AF (cG i o E hi bH) e2).2 cP SI (λq=>(c1.data (cG j o9 lN o_ sx) e1 q).symm)
  refine⟨o9,lN,o_,sx,c1,aG (listed.setIfInBounds j true) (ec lN g) ?_ (gn.set hj) (ready_mono ah (Ne.symm o7)) c2 ?_⟩
  ·intro k ok abR hk abS abT nB n8;refine jM k ok abR hk abS abT ?_ n8;by_cases sy:j=k
   ·subst sy;exact SG
   ·rw [getD_set_ne true sy]at nB;exact nB
  ·rw [Array.setIfInBounds_comm _ _ o7];exact iU.alike cG dw (abH d2 d5).symm abP
structure Er(n k:Nat)(listed:Array Bool):Prop where
 size:listed.size=n
 at':∀j,j<n→listed[j]? = some (decide (j<k))
def Er.set{n k:Nat}{listed:Array Bool}(h:Er n k listed):Er n (k+1) (listed.setIfInBounds k true):=by
 refine⟨by simp [h.size],λj hj=>?_⟩
 by_cases sy:k=j
 ·subst sy;simp [h.size,hj]
 ·rw [Array.getElem?_setIfInBounds_ne sy,h.at' j hj]
  congr 1
  have:(j<k)=(j<k+1):=by apply propext;omega
  simp [this]
def abU(o:Oper)(k:Nat):Bool:=o.after.toList.all λe=>!Region.binds .any e||Nat.blt e.on k
def Es(ops:List Oper)(E:dX)(k:Nat):Nat→List (Oper×dX)→Bool
 |_,[]=>true
 |j,(_,cV)::l=>(AE E cV||waits ops k 3 j)&&Es ops E k (j+1) l
def Et(ops:List Oper):Nat→List (Oper×dX)→Bool
 |_,[]=>true
 |k,(o,E)::l=>abU o k&&Es ops E k (k+1) l&&Et ops (k+1) l
def Eu(bX:gf)(tt:dq)(ops:List Oper)(Fi:c6→Prop):List (Oper×dX)→c6→Prop
 |[],g=>Fi g
 |(o,E)::l,g=>Can bX tt ops o E g∧Eu bX tt ops Fi l (ec E g)
def SJ{ops:List Oper}{E:dX}{k:Nat}:∀{l:List (Oper×dX)} {n:Nat},Es ops E k n l=true→∀(j:Nat) o cV,l[j]? = some (o,cV)→waits ops k 3 (n+j)=false→AE E cV=true
 |[],_,_,j,o,cV,hj,_=>by simp at hj
 |(dt,bn)::l,n,h,j,o,cV,hj,n8=>by
  simp only [Es,Bool.and_eq_true,Bool.or_eq_true]at h;cases j with
  |zero=>
   simp at hj
   obtain⟨rfl,rfl⟩:=hj;exact h.1.resolve_right (by rw [Nat.add_zero]at n8;rw [n8];simp)
  |succ j=>exact SJ h.2 j o cV (by simpa using hj) (by rwa [show n+1+j=n+(j+1)by omega])
def iU.text(cG:∀(i:Nat) o E,opsA[i]? = some o→ci[i]? = some E→gt opsA.toList o E=true)(dw:∀g1 g2,Alike g1 g2→Fi g1→Fi g2):
 ∀(l:List (Oper×dX)) (k:Nat) (listed:Array Bool) (g:c6),(∀j:Nat,(l[j]?).map (·.1)=opsA[k+j]?)→(∀j:Nat,(l[j]?).map (·.2)=ci[k+j]?)→Er opsA.size k listed→nA opsA listed→Et opsA.toList k l=true→Eu bX tt opsA.toList Fi l g→
  iU bX tt opsA ci Fi l.length listed g
 |[],k,listed,g,Z,_,cL,_,_,hc=>by
  refine⟨?_,hc⟩
  have hk:opsA[k]? = none:=by have:=Z 0;simpa using this.symm
  have rj:opsA.size≤k:=by simpa using hk
  refine List.eq_nil_iff_forall_not_mem.2 λj hj=>?_
  obtain⟨hu,o,am,_⟩:=mem_ready.1 hj;have cK:j<opsA.size:=(Array.getElem?_eq_some_iff.1 am).1;have:=cL.at' j cK
  rw [Array.getD_eq_getD_getElem?,this]at hu;have sy:j<k:=by omega
  simp [sy]at hu
 |(o,E)::l,k,listed,g,Z,aa,cL,gn,hx,hc=>by
  have am:opsA[k]? = some o:=by have:=Z 0;simpa using this.symm
  have bH:ci[k]? = some E:=by have:=aa 0;simpa using this.symm
  have cK:k<opsA.size:=(Array.getElem?_eq_some_iff.1 am).1;simp only [Et,Bool.and_eq_true]at hx;obtain⟨⟨ah,aN⟩,hx⟩:=hx
  have SK:k∈Region.ready .any opsA listed:=by
   refine mem_ready.2 ⟨?_,o,am,λe he hb=>?_⟩
   ·rw [Array.getD_eq_getD_getElem?,cL.at' k cK];simp
   ·have:=List.all_eq_true.1 ah e (by simpa using he)
    simp only [hb,Bool.not_true,Bool.false_or,Nat.blt_eq]at this;rw [Array.getD_eq_getD_getElem?,cL.at' e.on (by omega)]
    simp [this]
  refine iU.first cG dw am bH l.length listed g ?_ gn SK hc.1 (iU.text cG dw l (k+1) _ _ (λj=>?_) (λj=>?_) cL.set (gn.set SK) hx hc.2)
  ·intro j o9 lN o_ sx cW nB n8;have uf:j<opsA.size:=(Array.getElem?_eq_some_iff.1 o_).1
   have sy:k<j:=by
    rw [Array.getD_eq_getD_getElem?,cL.at' j uf]at nB;simp at nB
    omega
   have e1:=Z (j-k);have e2:=aa (j-k);have SL:k+(j-k)=j:=by omega
   rw [SL,o_]at e1;rw [SL,sx]at e2
   have e3:(((o,E)::l)[j-k]?)=l[j-k-1]? := by
    have:j-k=(j-k-1)+1:=by omega
    rw [this];simp
   rw [e3]at e1 e2;cases ab:l[j-k-1]? with
   |none=>rw [ab]at e1;simp at e1
   |some x=>
    rw [ab]at e1 e2;simp at e1 e2
    obtain⟨dG,eL⟩:=x;simp only at e1 e2
    subst e1;subst e2;exact SJ aN _ _ _ ab (by rwa [show k+1+(j-k-1)=j by omega])
  ·have:=Z (j+1);simpa [Nat.add_assoc,Nat.add_comm 1 j]using this
  ·have:=aa (j+1);simpa [Nat.add_assoc,Nat.add_comm 1 j]using this
end
def p8(N:Nat)(E:dX):Bool:=
 match E.dst with
 |none=>E.p.isEmpty
 |some t=>Nat.blt t N&&match E.p with
  |[]=>true
  |p=>E.f.e.isSome&&E.f.hs.isEmpty&&E.f.gY.isEmpty&&p.all (λy=>!Nat.beq y.1 t)&&Nat.beq E.f.e6 0
def AG(ops:List Oper)(i:Nat)(t:Nat):Nat→List dX→Bool
 |_,[]=>true
 |j,cV::l=>(match cV.p with
  |[]=>true
  |p=>(match cV.dst with |some bC=>Nat.beq bC t |none=>false)||p.all (λy=>!Nat.beq y.1 t)||waits ops i 3 j)&&AG ops i t (j+1) l
def Ev(ops:List Oper)(ci:List dX):Nat→List dX→Bool
 |_,[]=>true
 |i,E::l=>(match E.dst with
  |none=>true
  |some t=>AG ops i t 0 ci)&&Ev ops ci (i+1) l
def AH(ops:List Oper)(ci:List dX):Bool:=Ev ops ci 0 ci
def SM{ops:List Oper}{i t:Nat}:∀{l:List dX} {k:Nat},AG ops i t k l=true→∀(j:Nat) (cV:dX),l[j]? = some cV→cV.p≠[]→
 ((match cV.dst with|some bC=>Nat.beq bC t|none=>false)||cV.p.all (λy=>!Nat.beq y.1 t))=true∨waits ops i 3 (k+j)=true
 |[],_,_,j,cV,h,_=>by simp at h
 |bn::l,k,h,j,cV,hj,cW=>by
  simp only [AG,Bool.and_eq_true]at h;cases j with
  |zero=>
   simp at hj
   subst hj;have Z:=h.1;split at Z
   ·rename_i oV;exact absurd oV cW
   ·rw [Bool.or_eq_true]at Z;exact Z
  |succ j=>
   have:=SM h.2 j cV (by simpa using hj) cW
   rwa [show k+(j+1)=k+1+j by omega]
def SN{ops:List Oper}{ci:List dX}:∀{l:List dX} {k:Nat},Ev ops ci k l=true→∀(i:Nat) (E:dX) (t:Nat),l[i]? = some E→E.dst=some t→AG ops (k+i) t 0 ci=true
 |[],_,_,i,E,t,h,_=>by simp at h
 |bn::l,k,h,i,E,t,hi,hd=>by
  simp only [Ev,Bool.and_eq_true]at h;cases i with
  |zero=>
   simp at hi
   subst hi;have Z:=h.1;rw [hd]at Z;exact Z
  |succ i=>
   have:=SN h.2 i E t (by simpa using hi) hd
   rwa [show k+(i+1)=k+1+i by omega]
section
variable {P:Program} {K:Ctx} {N:Nat} {M:Mem} {β:Nat→Option Nat} {tt:dq} {opsA:Array Oper} {ci:List dX} {g:c6} {w:World} {tmps:Array Value}
def sz(ci:List dX)(listed:Array Bool)(g:c6):Prop:=∀x,x∈g.bL→∃(i:Nat) (E:dX),ci[i]? = some E∧listed.getD i false=true∧E.dst=some x.1∧E.p=x.2.1∧E.p≠[]
def Ew{α:Type}:∀{l:List (Nat×α)} {t:Nat} {x:Nat×α},x∈del l t→x∈l
 |[],_,_,h=>by simp [del]at h
 |(j,y)::l,t,x,h=>by
  simp only [del]at h;rw [Bool.cond_eq_ite]at h;split at h
  ·exact List.mem_cons_of_mem _ (Ew h)
  ·rcases List.mem_cons.1 h with rfl|h
   ·simp
   ·exact List.mem_cons_of_mem _ (Ew h)
def sz.ap{listed:Array Bool}{i:Nat}{E:dX}(bH:ci[i]? = some E)(hi:i<listed.size)(h:sz ci listed g):sz ci (listed.setIfInBounds i true) (ec E g):=by
 have cv:sz ci (listed.setIfInBounds i true) g:=λx hx=>by
  obtain⟨j,cV,Z,aa,ai⟩:=h x hx;exact⟨j,cV,Z,getD_set_true aa,ai⟩
 intro x hx;unfold ec at hx;cases hd:E.dst with
 |none=>simp only [hd]at hx;exact cv x hx
 |some t=>
  simp only [hd]at hx;cases hp:E.p with
  |nil=>simp only [hp]at hx;exact cv x (Ew hx)
  |cons y p=>
   simp only [hp]at hx;cases he:E.f.e with
   |none=>simp only [he]at hx;exact cv x hx
   |some e=>
    simp only [he]at hx;rcases List.mem_cons.1 hx with rfl|hx
    ·exact⟨i,E,bH,by simp [hi],by simp [hd],by simp [hp],by simp [hp]⟩
    ·exact cv x (Ew hx)
def abV{listed:Array Bool}{i:Nat}{E:dX}{t:Nat}(jM:AH opsA.toList ci=true)(bH:ci[i]? = some E)(hd:E.dst=some t)(hc:nA opsA listed)(hi:listed.getD i false=false)(h:sz ci listed g):wC g.bL t=true:=by
 unfold wC;rw [List.all_eq_true];intro x hx;obtain⟨j,cV,rl,ab,jJ,w3,cW⟩:=h x hx;have Z:=SN jM i E t bH hd;rw [Nat.zero_add]at Z;rcases SM Z j cV rl cW with aa|aa
 ·rw [jJ,w3]at aa;exact aa
 ·rw [Nat.zero_add]at aa;have:=Ep hc aa ab
  rw [hi]at this;cases this
def SO{listed:Array Bool}{bX:gf}{o:Oper}{E:dX}{i:Nat}(iK:E.kd=0)(ji:K0 bX tt opsA.toList o E g)(bH:ci[i]? = some E)(cG:gt opsA.toList o E=true)(aQ:p8 N E=true)(jM:AH opsA.toList ci=true)(hc:nA opsA listed)(hi:listed.getD i false=false)(l':sz ci listed g):
 nl bX tt N opsA.toList {g with rs:=E.rs,aO:=[]} o=some (.go {ec E g with rs:=[],aO:=E.f.aO.map (under g E.p)}):=by
 obtain⟨_,_,eb,dS⟩:=Eo cG;have hg:oT opsA.toList {g with rs:=E.rs,aO:=[]} o=some E.p:=ji.El
 have hs:step1 bX tt opsA.toList {g with rs:=E.rs,aO:=[]} E.p o=some (.go E.f):=by
  have ea:=ji.st;rw [iK]at ea;refine Eq.trans ?_ ea;exact KW (g1:={g with rs:=E.rs,aO:=[]}) (g2:={g with rs:=E.rs}) (λ_ _ _ _=>⟨rfl,rfl⟩) rfl rfl (λ_=>rfl) (λ_ _=>rfl)
 have hu:∀q,under {g with rs:=E.rs,aO:=[]} E.p q=under g E.p q:=λq=>Ek λ_ _=>⟨rfl,rfl⟩
 unfold nl;rw [hg]
 dsimp only
 rw [hs]
 dsimp only
 rw [←eb];have cg:E.f.aO.map (under {g with rs:=E.rs,aO:=[]} E.p)++[]=E.f.aO.map (under g E.p):=by rw [List.append_nil];exact List.map_congr_left λq _=>hu q
 rw [cg,dS];unfold p8 at aQ;unfold ec;cases hd:E.dst with
 |none=>
  rw [hd]at aQ
  dsimp only at aQ ⊢
  rw [aQ];rfl
 |some t=>
  rw [hd]at aQ;have aN:=abV jM bH hd hc hi l';simp only [Bool.and_eq_true]at aQ;obtain⟨cK,aQ⟩:=aQ
  dsimp only
  rw [cK,aN];cases hp:E.p with
  |nil=>rfl
  |cons x p=>
   rw [hp]at aQ;simp only [Bool.and_eq_true,List.isEmpty_iff,Nat.beq_eq,Option.isSome_iff_exists]at aQ;obtain⟨⟨⟨⟨⟨e,he⟩,bf⟩,hc⟩,o8⟩,hn⟩:=aQ;simp only [he,bf,hc,hn,o8];rfl
def iU.sound(cf:fe P tt=true)(iK:∀(i:Nat) E,ci[i]? = some E→E.kd=0)(cG:∀(i:Nat) o E,opsA[i]? = some o→ci[i]? = some E→gt opsA.toList o E=true)(aQ:∀(i:Nat) E,ci[i]? = some E→p8 N E=true)(jM:AH opsA.toList ci=true){Fi:c6→Prop}{Q:Exit→Act→World→Prop}
 (dL:∀g fx w' M' β',Fi g→fy P K N M' β' g fx w'→Q .normal ⟨fx,K.ds⟩ w'):
 ∀(n:Nat) (listed:Array Bool) (g:c6) (tmps:Array Value) (w:World) (M:Mem) (β:Nat→Option Nat),iU (je P) tt opsA ci Fi n listed g→listed.size=opsA.size→nA opsA listed→sz ci listed g→fy P K N M β g tmps w→wpAny P .any opsA Q n listed ⟨tmps,K.ds⟩ w
 | 0,_,g,tmps,w,M,β,h,_,_,_,hs=>⟨h.1,dL g tmps w M β h.2 hs⟩
 |n+1,listed,g,tmps,w,M,β,h,dW,gn,l',hs=>by
  refine⟨λah=>dL g tmps w M β (h.1 ah) hs,λi hi=>?_⟩
  obtain⟨o,E,am,bH,Ex,hn⟩:=h.2 i hi;have ji:=Ex.resolve_left (by rw [iK i E bH];simp)
  have cK:i<listed.size:=by rw [dW];exact(Array.getElem?_eq_some_iff.1 am).1
  have nB:listed.getD i false=false:=by have:=(mem_ready.1 hi).1;simpa [Array.getD_eq_getD_getElem?,cK]using this
  have K2:=SO (N:=N) (iK i E bH) ji bH (cG i o E am bH) (aQ i E bH) jM gn nB l';have fO:fy P K N M β {g with rs:=E.rs,aO:=[]} tmps w:=⟨hs.bj,hs.size,hs.fresh,hs.cond⟩;unfold wpOp;simp only [am];refine KL fO cf (opsA:=opsA) rfl K2 (λq al=>?_) (λfx w' M' β' cv=>?_)
  ·obtain⟨q',o0,rfl⟩:=List.mem_map.1 al;exact ji.aO q' o0
  ·exact iU.sound cf iK cG aQ jM dL n _ (ec E g) fx w' M' β' hn (by simpa using dW) (gn.set hi) (l'.ap bH cK) ⟨cv.bj,cv.size,cv.fresh,cv.cond⟩
end
def findD(bX:gf)(tt:dq)(ops:List Oper)(g:c6)(o:Oper)(rs:List e8):Option dX:=
 match oT ops g o with
 |none=>none
 |some p=>match step1 bX tt ops {g with rs:=rs} p o with
  |some (.go f)=>some {dst:=o.dst,p,f,jB:=im tt g p o,mI:=o6 ops o++p.map (·.1),o4:=p6 o,rs,ny:=uD o rs}
  |_=>none
def uE(bX:gf)(tt:dq)(ops:List Oper):List Oper→List (List e8)→c6→Option (List dX×c6×List Prop)
 |[],[],g=>some ([],g,[])
 |o::l,rs::jj,g=>match findD bX tt ops g o rs with
  |some E=>match uE bX tt ops l jj (ec E g) with
   |some (ci,eG,aO)=>some (E::ci,eG,aO++E.f.aO.map (under g E.p))
   |none=>none
  |none=>none
 |_,_,_=>none
def kR:List Oper→List dX→List (Oper×dX)
 |o::l,E::m=>(o,E)::kR l m
 |_,_=>[]
def Ey(N:Nat)(ops:List Oper)(ci:List dX):Bool:=
 (kR ops ci).all (λx=>gt ops x.1 x.2)&&ci.all (p8 N)&&AH ops ci&&Et ops 0 (kR ops ci)
section
variable {bX:gf} {tt:dq} {ops:List Oper}
def SP{Fi:c6→Prop}:∀{l:List Oper} {jj:List (List e8)} {g:c6} {ci:List dX} {eG:c6} {aO:List Prop},uE bX tt ops l jj g=some (ci,eG,aO)→(∀q,q∈aO→q)→Fi eG→
 ci.length=l.length∧(∀E,E∈ci→E.kd=0)∧Eu bX tt ops Fi (kR l ci) g
 |[],[],g,ci,eG,aO,h,_,dw=>by
  simp only [uE,Option.some.injEq,Prod.mk.injEq]at h;obtain⟨rfl,rfl,rfl⟩:=h;exact⟨rfl,by simp,dw⟩
 |o::l,rs::jj,g,ci,eG,aO,h,cg,dw=>by
  simp only [uE]at h;split at h
  case h_2=>cases h
  rename_i E bH;split at h
  case h_2=>cases h
  rename_i uF g1 abW Z;simp only [Option.some.injEq,Prod.mk.injEq]at h;obtain⟨rfl,rfl,rfl⟩:=h;obtain⟨aa,abX,ai⟩:=SP Z (λq al=>cg q (List.mem_append_left _ al)) dw
  have abY:E.kd=0:=by
   unfold findD at bH;split at bH
   ·cases bH
   split at bH
   ·cases bH;rfl
   ·cases bH
  refine⟨by simp [aa],λcV rl=>?_,?_,ai⟩
  ·rcases List.mem_cons.1 rl with rfl|rl
   ·exact abY
   ·exact abX cV rl
  have K3:∀q,q∈E.f.aO→under g E.p q:=λq al=>cg _ (List.mem_append_right _ (List.mem_map.2 ⟨q,al,rfl⟩))
  unfold findD at bH;split at bH
  ·cases bH
  rename_i p hp;split at bH
  ·rename_i f aN;cases bH;exact .inr ⟨hp,aN,K3,λ_ h=>h,λh=>by cases h⟩
  ·cases bH
 |[],_::_,_,_,_,_,h,_,_=>by simp [uE]at h
 |_::_,[],_,_,_,_,h,_,_=>by simp [uE]at h
def uG:∀{l:List Oper} {m:List dX},m.length=l.length→∀(j:Nat),((kR l m)[j]?).map (·.1)=l[j]? ∧ ((kR l m)[j]?).map (·.2)=m[j]?
 |[],[],_,j=>by simp [kR]
 |o::l,E::m,h,j=>by
  cases j with
  |zero=>simp [kR]
  |succ j=>simpa [kR]using uG (by simpa using h) j
 |[],_::_,h,_=>by simp at h
 |_::_,[],h,_=>by simp at h
def K4:∀{l:List Oper} {m:List dX},m.length=l.length→(kR l m).length=l.length
 |[],[],_=>rfl
 |_::l,_::m,h=>by simp [kR,K4 (l:=l) (m:=m) (by simpa using h)]
 |[],_::_,h=>by simp at h
 |_::_,[],h=>by simp at h
end
section
variable {P:Program} {N E:Nat} {st:aD} {tt:dq}
def Alike.bj{K:Ctx}{M:Mem}{β:Nat→Option Nat}{g1 g2:c6}{tmps:Array Value}{w:World}(ha:Alike g1 g2)(h:bv P K M β {env:=g1.env,H:=g1.H,aL:=g1.aL} tmps w):bv P K M β {env:=g2.env,H:=g2.H,aL:=g2.aL} tmps w:=by
 have f0:∀l,({env:=g2.env,H:=g2.H,aL:=g2.aL}:aD).at l=({env:=g1.env,H:=g1.H,aL:=g1.aL}:aD).at l:=by
  intro l;cases l with
  |slot s=>exact(ha.slot s).1.symm
  |cell r i=>simp only [aD.at];rw [←ha.box r]
 have hb:∀r,look g2.H r=look g1.H r:=λr=>(ha.box r).symm
 constructor
 ·intro l e ab;rw [f0]at ab;exact h.e9 l e ab
 ·intro l e T ab;rw [f0]at ab;exact h.own l e T ab
 ·intro l co e a' T T' b ab az dj;rw [f0]at ab dj;exact h.uniq l co e a' T T' b ab az dj
 ·intro l e T b r cs ab az mA ah;rw [f0]at ab;exact h.unbox l e T b r cs ab az mA (by rw [←hb r];exact ah)
 ·intro r cs ah;exact h.box r cs (by rw [←hb r];exact ah)
 ·intro r dd b cs cs' ah fM;exact h.inj r dd b cs cs' (by rw [←hb r];exact ah) (by rw [←hb dd];exact fM)
 ·intro r b ah;exact(by have:=h.lt r b ah;simpa [ha.aL]using this)
 ·exact h.mem
 ·exact h.m0
 ·exact h.frame
 ·exact h.ie
 ·exact h.iR
 ·exact h.hE
def bv.drew{K:Ctx}{M:Mem}{β:Nat→Option Nat}{tmps:Array Value}{w:World}(h:bv P K M β st tmps w)(k:Nat):bv P K M β st tmps {w with drawn:=k}:=
 ⟨h.e9,h.own,h.uniq,h.unbox,h.box,h.inj,h.lt,h.mem,h.m0,h.frame,h.ie,h.iR,h.hE⟩
end
def aV.scope{P:Program}{N E:Nat}{c:Code}{Q:b'→aD→Prop}{st:aD}(h:aV P N E c Q st):aV P N E (.scope c) Q st:=by
 intro K ei a w hs;refine wp_scope_straight (wp_mono (h K ei a w hs) ?_)
 rintro e dD w' ⟨fm,bO,Z,aa⟩
 cases fm with
 |normal=>obtain⟨rfl,ai⟩:=Z;exact⟨.normal,bO,⟨rfl,ai⟩,aa⟩
 |exit i=>obtain⟨rfl,ai⟩:=Z;exact⟨.exit i,bO,⟨rfl,ai⟩,aa⟩
 |ret=>obtain⟨rfl,ai⟩:=Z;exact⟨.ret,bO,⟨rfl,ai⟩,aa⟩
 |a8 x=>obtain⟨v,rfl,ai⟩:=Z;exact⟨.a8 x,bO,⟨v,rfl,ai⟩,aa⟩
def hQ.on{α β dm:Type}(x:α ⊕ β)(f:α→dm)(g:β→dm):dm:=
 match x with
 |.inl a=>f a
 |.inr b=>g b
def Ez.on{α β dm:Type}(x:α×β)(f:α→β→dm):dm:=f x.1 x.2
def EA(P:Program)(w:World):Prop:=(∀g,g∈Jz P→∃fk,w.cell? ⟨g,0,none⟩=some fk∧(fk = .nilIface∨∃b1 q3,fk = .iface b1 q3))∧
 ∀ g, P.globalNamed "internal/strconv.uint64pow10" = some g → ∃ t kc, w.heap[g]? = some (.cells JA t kc)
section
variable {P:Program}
def bv.abZ{K:Ctx}{M:Mem}{β:Nat→Option Nat}{st:aD}{tmps:Array Value}{w:World}(h:bv P K M β st tmps w):EA P w:=⟨λg hg=>by
 obtain⟨cs,t,kc,fk,Z,aa,ai⟩:=h.iR.1 g hg;refine⟨fk,?_,ai⟩
 have:=(h.frame g _ Z).1
 unfold World.cell?;rw [this];exact aa,λg hg=>by
 obtain⟨t,kc,Z⟩:=h.iR.2 g hg;exact⟨t,kc,(h.frame g _ Z).1⟩⟩
def SQ {f : FuncId} {args : List D} {vsOf : World → List Value → Prop} {d : D} {fd : Func} (jw : P.funcs[f]? = some fd) (hb : fd.body.isSome = true) (hn : decide (fd.name = "runtime.NumGoroutine") = false)
 (ff:∀(w:World) (M:Mem) (β:Nat→Option Nat) (vs:List Value),(∀b o v,M b o=some v→w.cell? ⟨b,o,none⟩=some v)→vs.length=args.length→(∀(i:Nat) v a,vs[i]? = some v→args[i]? = some a→ce M β v a)→vsOf w vs)
 (uw:∀(vs:List Value) (w:World),vsOf w vs→EA P w→Calls P f ⟨vs⟩ w λe w'=>∃v,e = .returned v∧(∀M β,ce M β v d)∧(∀(b:Nat) (aO:Obj),w.heap[b]? = some aO→w'.heap[b]? = some aO)∧(w'.os,w'.output)=(w.os,w.output)):
 gw P f args [] [] (.ret d none) []:=by
 refine⟨⟨fd,jw,hb,by simpa using hn⟩,λK w vs M β hlen hs gN=>?_⟩
 have an:vsOf w vs:=ff w M β vs hs.mem hlen λi v a hi ha=>by
  have Z:=hs.e9 (.slot i) ⟨a,none⟩ (by
   simp only [aD.at,hy,mE,Af,ha,Option.map_some,look])
  have aa:cb (⟨vs⟩:Array Value) w β (.slot i)=v:=by
   simp [cb,hi]
  rw [aa]at Z;exact Z
 refine(uw vs w an hs.abZ).mono ?_
 rintro e w' ⟨v,rfl,gm,tX,n3⟩
 refine⟨.ret d none,[],v,M,β,⟨rfl,rfl⟩,rfl,?_⟩
 have hO:∀b o v,w.cell? ⟨b,o,none⟩=some v→w'.cell? ⟨b,o,none⟩=some v:=by
  intro b o v h;unfold World.cell? at h ⊢;cases hb:w.heap[b]? with
  |none=>simp [hb]at h
  |some aO=>rw [tX b aO hb];rw [hb]at h;exact h
 constructor
 ·intro l e ab;cases l with
  |slot s=>
   simp only [aD.at,hZ,dB]at ab;split at ab
   ·rename_i h0;subst h0;cases ab;exact gm M β
   ·simp [look]at ab
  |cell r i=>simp [aD.at,cB,look]at ab
 ·intro l e T ab az;cases l with
  |slot s=>
   simp only [aD.at,hZ,dB]at ab;split at ab
   ·cases ab;cases az
   ·simp [look]at ab
  |cell r i=>simp [aD.at,cB,look]at ab
 ·intro l co e a' T T' b ab az;cases l with
  |slot s=>
   simp only [aD.at,hZ,dB]at ab;split at ab
   ·cases ab;cases az
   ·simp [look]at ab
  |cell r i=>simp [aD.at,cB,look]at ab
 ·intro l e T b r cs ab az hb ah;simp [cB,look]at ah
 ·intro r cs ah;simp [cB,look]at ah
 ·intro r dd b cs cs' ah;simp [cB,look]at ah
 ·exact hs.lt
 ·exact λb o v h=>hO b o v (hs.mem b o v h)
 ·exact hs.m0
 ·exact λb aO h=>⟨tX b aO (hs.frame b aO h).1,(hs.frame b aO h).2⟩
 ·exact hs.ie
 ·exact hs.iR
 ·exact n3.trans hs.hE
def uH {f : FuncId} {args : List D} {vsOf : List Value → Prop} {d : D} {fd : Func} (jw : P.funcs[f]? = some fd) (hb : fd.body.isSome = true) (hn : decide (fd.name = "runtime.NumGoroutine") = false)
 (ff:∀(M:Mem) (β:Nat→Option Nat) (vs:List Value),vs.length=args.length→(∀(i:Nat) v a,vs[i]? = some v→args[i]? = some a→ce M β v a)→vsOf vs)
 (uw:∀(vs:List Value) (w:World),vsOf vs→EA P w→Calls P f ⟨vs⟩ w λe w'=>∃v,e = .returned v∧(∀M β,ce M β v d)∧(∀(b:Nat) (aO:Obj),w.heap[b]? = some aO→w'.heap[b]? = some aO)∧(w'.os,w'.output)=(w.os,w.output)):
 gw P f args [] [] (.ret d none) []:=
 SQ (vsOf:=λ_ vs=>vsOf vs) jw hb hn (λ_ M β vs _=>ff M β vs) uw
end
def uI(bX:gf)(tt:dq)(N:Nat)(ops:List Oper)(rs:List e8)(st:aD):Option Fin:=
 match r9 bX tt N ops ops {env:=st.env,bL:=[],H:=st.H,aL:=st.aL,rs,aO:=[]} with
 |some (.go g)=>match g.rs with
  |[]=>some (.go {env:=g.env,H:=g.H,aL:=g.aL} g.aO)
  |_=>none
 |some (.a8 x st aO)=>some (.a8 x st aO)
 |none=>none
def uJ:List Oper→Nat→List (Nat×Nat)
 |[],_=>[]
 |o::l,n=>match p6 o,o.dst with
  |true,some t=>(t,n)::uJ l (n+1)
  |_,_=>uJ l n
def EB(ops:List Oper)(st:aD):c6:=
 {env:=st.env,bL:=[],H:=st.H,aL:=st.aL+(uJ ops st.aL).length,rs:=[],aO:=[],ids:=uJ ops st.aL}
def EC(bX:gf)(tt:dq)(N:Nat)(ops:List Oper)(jj:List (List e8))(st:aD):Option Fin:=
 match uE bX tt ops ops jj (EB ops st) with
 |some (ci,g,aO)=>bif Ey N ops ci then some (.go {env:=g.env,H:=g.H,aL:=g.aL} aO)else none
 |none=>none
def jk:Option Fin→aD
 |some (.go st _)=>st
 |some (.a8 _ st _)=>st
 |none=>{env:=[],H:=[],aL:=0}
def lO:Option Fin→Option (List Prop)
 |some (.go _ aO)=>some aO
 |_=>none
def K5:Option Fin→Option (V×List Prop)
 |some (.a8 x _ aO)=>some (x,aO)
 |_=>none
def spread:Nat→Nat→List (Nat×List e8)→List (List e8)
 | 0,_,_=>[]
 |n+1,i,l=>(look l i).getD []::spread n (i+1) l
def ED:∀(l:List Oper) (n:Nat) (x:Nat×Nat),x∈uJ l n→n≤x.2∧True
 |[],n,x,h=>by simp [uJ]at h
 |o::l,n,x,h=>by
  unfold uJ at h;split at h
  ·rcases List.mem_cons.1 h with h|h
   ·subst h;exact⟨Nat.le_refl _,trivial⟩
   ·have:=(ED l (n+1) x h).1;exact⟨by omega,trivial⟩
  ·exact ED l n x h
def bv.up{P:Program}{K:Ctx}{M:Mem}{β:Nat→Option Nat}{st:aD}{tmps:Array Value}{w:World}(h:bv P K M β st tmps w)(k:Nat):bv P K M β {env:=st.env,H:=st.H,aL:=st.aL+k} tmps w:=
 ⟨h.e9,h.own,h.uniq,h.unbox,h.box,h.inj,(λr b hb=>Nat.lt_of_lt_of_le (h.lt r b hb) (Nat.le_add_right _ _)),h.mem,h.m0,h.frame,h.ie,h.iR,h.hE⟩
section
variable {P:Program} {N E:Nat} {st:aD} {tt:dq}
def aV.rg{id:Nat}{opsA:Array Oper}{Q:b'→aD→Prop}(cf:fe P tt=true)(rs:List e8){bM:List Prop}(ah:lO (uI (je P) tt N opsA.toList rs st)=some bM)(cg:km bM)
 (dL:Q .normal (jk (uI (je P) tt N opsA.toList rs st))):aV P N E (.region id opsA false) Q st:=by
 rintro K ei a w ⟨_,hd,dW,M,β,cw⟩
 obtain⟨tmps,ds⟩:=a;simp only at hd dW
 subst hd;have rm:fy P K N M β {env:=st.env,bL:=[],H:=st.H,aL:=st.aL,rs:=rs,aO:=[]} tmps w:=⟨cw,dW,(λ_ _ h=>by simp [look]at h),λ_ _ _ h=>by simp [look]at h⟩
 refine wp_region ?_;unfold uI at ah dL;have hlen:List.range opsA.size=List.range' 0 opsA.toList.length:=by rw [List.range_eq_range'];simp
 rw [hlen];split at ah
 ·rename_i g eV;split at ah
  case h_2=>cases ah
  rename_i eC;simp only [lO,Option.some.injEq]at ah;subst ah;rw [eV]at dL;simp only [eC,jk]at dL;refine KN cf rfl (fin:=.go g) cg.mem ?_ opsA.toList 0 _ tmps w M β (λj=>by simp) rm eV
  intro fx w' M' β' cv;exact⟨.normal,_,⟨rfl,rfl,cv.size,M',β',cv.bj⟩,dL⟩
 ·cases ah
 ·cases ah
def aV.K6{id:Nat}{opsA:Array Oper}{Q:b'→aD→Prop}(cf:fe P tt=true)(rs:List e8){x:V}{bM:List Prop}(ah:K5 (uI (je P) tt N opsA.toList rs st)=some (x,bM))(cg:km bM)
 (dL:Q (.a8 x) (jk (uI (je P) tt N opsA.toList rs st))):aV P N E (.region id opsA false) Q st:=by
 rintro K ei a w ⟨_,hd,dW,M,β,cw⟩
 obtain⟨tmps,ds⟩:=a;simp only at hd dW
 subst hd;have rm:fy P K N M β {env:=st.env,bL:=[],H:=st.H,aL:=st.aL,rs:=rs,aO:=[]} tmps w:=⟨cw,dW,(λ_ _ h=>by simp [look]at h),λ_ _ _ h=>by simp [look]at h⟩
 refine wp_region ?_;unfold uI at ah dL;have hlen:List.range opsA.size=List.range' 0 opsA.toList.length:=by rw [List.range_eq_range'];simp
 rw [hlen];split at ah
 ·split at ah<;>cases ah
 ·rename_i y bO aO eV;simp only [K5,Option.some.injEq,Prod.mk.injEq]at ah;obtain⟨rfl,rfl⟩:=ah;rw [eV]at dL;refine KN cf rfl (fin:=.a8 y bO aO) cg.mem ?_ opsA.toList 0 _ tmps w M β (λj=>by simp) rm eV
  intro e dD w' cv;exact⟨.a8 y,_,cv,dL⟩
 ·cases ah
def aV.EE{id:Nat}{opsA:Array Oper}{Q:b'→aD→Prop}(cf:fe P tt=true)(hm:P.follows .mixedOrders=true)(jj:List (Nat×List e8)){bM:List Prop}(ah:lO (EC (je P) tt N opsA.toList (spread opsA.toList.length 0 jj) st)=some bM)(cg:km bM)
 (dL:Q .normal (jk (EC (je P) tt N opsA.toList (spread opsA.toList.length 0 jj) st))):aV P N E (.region id opsA true) Q st:=by
 rintro K ei a w ⟨_,hd,dW,M,β,cw⟩
 obtain⟨tmps,ds⟩:=a;simp only at hd dW
 subst hd;refine wp_region_any hm ?_;unfold EC at ah dL;split at ah
 case h_2=>cases ah
 rename_i ci g sr eV;rw [eV]at dL
 dsimp only at dL
 rw [Bool.cond_eq_ite]at ah dL;split at ah
 case isFalse=>cases ah
 rename_i hc;rw [if_pos hc]at dL;simp only [lO,Option.some.injEq]at ah;subst ah;simp only [jk]at dL;obtain⟨hlen,iK,K7⟩:=SP (Fi:=λg1=>Alike g g1) eV cg.mem Alike.refl
 simp only [Ey,Bool.and_eq_true]at hc;obtain⟨⟨⟨c1,c2⟩,c3⟩,c4⟩:=hc
 have cG:∀(i:Nat) o E,opsA[i]? = some o→ci[i]? = some E→gt opsA.toList o E=true:=by
  intro i o E am bH;obtain⟨kl,z2⟩:=uG hlen i;have ke:opsA.toList[i]? = some o:=by simpa using am
  rw [ke]at kl;rw [bH]at z2;cases dJ:(kR opsA.toList ci)[i]? with
  |none=>rw [dJ]at kl;simp at kl
  |some x=>
   rw [dJ]at kl z2;simp at kl z2
   subst kl;subst z2;exact List.all_eq_true.1 c1 x (List.mem_of_getElem? dJ)
 have aQ:∀(i:Nat) E,ci[i]? = some E→p8 N E=true:=λi E bH=>List.all_eq_true.1 c2 E (List.mem_of_getElem? bH)
 have AI:nA opsA (Array.replicate opsA.size false):=λj o am hj=>by have cK:j<opsA.size:=(Array.getElem?_eq_some_iff.1 am).1;simp [Array.getD_eq_getD_getElem?,cK]at hj
 have AJ:=iU.text cG (λg1 g2 kn Z=>Alike.trans Z kn) (kR opsA.toList ci) 0 (Array.replicate opsA.size false) _ (λj=>by have:=(uG hlen j).1;simpa using this) (λj=>by have:=(uG hlen j).2;simpa using this)
  ⟨by simp,λj hj=>by simp [hj]⟩ AI c4 K7
 have uc:(kR opsA.toList ci).length=opsA.size:=by rw [K4 hlen];simp
 rw [uc]at AJ;refine iU.sound (K:=K) cf (λi E bH=>iK E (List.mem_of_getElem? bH)) cG aQ c3 ?_ _ _ _ tmps _ M β AJ (by simp) AI (λx hx=>by cases hx) ⟨(cw.drew _).up _,dW,(λs id h _ b hb=>by have Z:=cw.lt _ _ hb;have aa:=(ED _ _ _ (q5 h)).1;simp only at aa;omega),λ_ _ _ h=>by simp [EB,look]at h⟩
 intro g1 fx w' M' β' ab0 cv;exact⟨.normal,_,⟨rfl,rfl,cv.size,M',β',Alike.bj ab0.symm cv.bj⟩,dL⟩
def aV.K8{α:Type}{b:Bool}{x y:Option α}{r:Option α}(h:(bif b then x else y)=r){c:Nat}{uK uL:Code}{Q:b'→aD→Prop}(hc:(look st.env c).map (·.d)=some (.v (.bool b)))
 (aC:x=r→aV P N E uK Q st) (aN:y=r→aV P N E uL Q st):aV P N E (.cond (.tmp c) uK uL) Q st:=by
 simp only [Option.map_eq_some_iff]at hc;obtain⟨⟨d,own⟩,he,rfl⟩:=hc;exact aV.cond b own he (λhb=>aC (by subst hb;exact h)) (λhb=>aN (by subst hb;exact h))
def aV.ab1{c:Nat}{uK uL:Code}{Q:b'→aD→Prop}(hc:(look st.env c).map (·.d)=some (.v (.bool true)))(aC:aV P N E uK Q st):aV P N E (.cond (.tmp c) uK uL) Q st:=by
 simp only [Option.map_eq_some_iff]at hc;obtain⟨⟨d,own⟩,he,rfl⟩:=hc;exact aV.cond true own he (λ_=>aC) (λhb=>by cases hb)
def aV.SR{c:Nat}{uK uL:Code}{Q:b'→aD→Prop}(hc:(look st.env c).map (·.d)=some (.v (.bool false)))(aN:aV P N E uL Q st):aV P N E (.cond (.tmp c) uK uL) Q st:=by
 simp only [Option.map_eq_some_iff]at hc;obtain⟨⟨d,own⟩,he,rfl⟩:=hc;exact aV.cond false own he (λhb=>by cases hb) (λ_=>aN)
end
def bl{P:Program}{f:FuncId}{args:List D}{dU:List (Nat×TypeId)}{H ct:List (List aP)}{out:Out}(_:gw P f args dU H out ct)(os:List Nat):e8:=.call out (some ct) os
def bm{P:Program}{f:FuncId}{args:List D}{dU:List (Nat×TypeId)}{H ct:List (List aP)}{out:Out}(_:gw P f args dU H out ct)(os:List Nat):e8:=.call out none os
def dY{c:Prop}{P:Program}{f:FuncId}{args:List D}{dU:List (Nat×TypeId)}{H ct:List (List aP)}{out:Out}(_:c→gw P f args dU H out ct):e8:=.call out none []
def K9{c c2:Prop}{P:Program}{f:FuncId}{args:List D}{dU:List (Nat×TypeId)}{H ct:List (List aP)}{out:Out}(_:c→c2→gw P f args dU H out ct):e8:=.call out none []
def jC{raw x:V}(_:gL raw x):e8:=.val x
def fz{α:Type}[Inhabited α]{k:Nat}{e:α→V}(l:List α):gL (.br k l.length λi=>(l.map e).getD i .d') (af k e l):=abA rfl _ rfl
def oc(l:List Int):Bool:=l.all λx=>decide (0≤x)&&decide (x<256)
def kS(l:List Int):anT:=l.map λx=>UInt8.ofNat x.toNat
def EF{l:List Int}(h:oc l=true):(kS l).length=l.length∧∀i,i<l.length→V.int .u8 (l.getD i default) = .int .u8 (((kS l).getD i 0).toNat:Int):=by
 refine⟨by simp [kS],λi hi=>?_⟩
 unfold oc at h;rw [List.all_eq_true]at h;have:=h l[i] (List.getElem_mem hi)
 simp only [Bool.and_eq_true,decide_eq_true_eq]at this;simp only [kS,List.getD,List.getElem?_map,List.getElem?_eq_getElem hi,Option.getD_some,Option.map_some,UInt8.toNat_ofNat'];rw [Nat.mod_eq_of_lt (by omega)]
 congr 1
 omega
def EG(T:TypeId):V→Option (Int×Int)
 |.iface t (.agg [.int .i64 a,.int .i64 b])=>bif Nat.beq t T then some (a,b)else none
 |_=>none
def SS{T:TypeId}{x:V}{r:Int×Int}(h:EG T x=some r):x = .iface T (.agg [.int .i64 r.1,.int .i64 r.2]):=by
 unfold EG at h;split at h
 ·rw [Bool.cond_eq_ite]at h;split at h
  ·rename_i hb;cases h;rw [Nat.beq_eq]at hb;subst hb;rfl
  ·cases h
 ·cases h
def uM(M:Mem):Option V→FrameMode→Prop
 |none,m=>m = .returning
 |some x,m=>∃v,m = .panicking [{v,recovered:=false}]∧cU M v x
def sA(P:Program)(fd:FuncId)(args:List D)(H:List (List aP))(x:Option V)(R:List (List aP)→Prop):Prop:=
 ∀(K:Ctx) (w:World) (vs:List Value) (M:Mem) (β:Nat→Option Nat) (mode:FrameMode),vs.length=args.length→
  bv P K M β {env:=hy args [],H:=cB 0 H,aL:=H.length} ⟨vs⟩ w→(∀r b,β r=some b→K.kH r=some b)→uM M x mode→
  CallsD P fd ⟨vs⟩ mode w λe mJ w'=>∃v bA M' β',e = .returned v∧settle mJ = .returning∧R bA∧bv P K M' β' {env:=hZ (.ret (.cm []) none),H:=cB 0 bA,aL:=H.length} #[v] w'
section
variable {P:Program} {K:Ctx} {M:Mem} {β:Nat→Option Nat} {st:aD} {tmps:Array Value} {w:World} {tt:dq}
def uM.ab2{x:Option V}{m:FrameMode}(h:uM M x m):m ≠ .run:=by
 cases x with
 |none=>intro hm;rw [hm]at h;cases h
 |some x=>obtain⟨v,Z,_⟩:=h;intro hm;rw [hm]at Z;cases Z
def uM.mono{M':Mem}(cI:M.le M'){x:Option V}{m:FrameMode}(h:uM M x m):uM M' x m:=by
 cases x with
 |none=>exact h
 |some x=>obtain⟨v,Z,aa⟩:=h;exact⟨v,Z,aa.mono cI⟩
def p9(P:Program)(tt:dq)(E:Nat)(rs:List ResultVar)(fd:FuncId)(ds:List D)(R:Out→List (List aP)→Prop)(x:Option V)(st:aD):Prop:=
 ∃(ρ:List Nat) (bs H1:List (List aP)) (ja:List D) (K':List (List aP)→Prop),my ρ=true∧boxes st.H ρ=some bs∧ju (idx ρ) bs=some H1∧kF (idx ρ) ds=some ja∧sA P fd ja H1 x K'∧
  ∀ct,K' ct→∃ic o bA,ct.length=ρ.length∧ju (λj=>ρ[j]?) ct=some ic∧Ab.leave tt E rs {env:=st.env,H:=kG ρ ic++st.H,aL:=st.aL}=some (o,bA)∧R o (nx bA)
def K_{fn:Func}{E:Nat}(cf:fe P tt=true)(ei:∀r b,K.kH r=some b→r<E)(hs:bv P K M β st tmps w){fd:FuncId}{ds:List D}{vs:List Value}(hlen:vs.length=ds.length)(an:∀(i:Nat) v d,vs[i]? = some v→ds[i]? = some d→ce M β v d)
 {x : Option V} {mode : FrameMode} (hm : uM M x mode) {f : Func} (aN : P.funcs[fd]? = some f) (hb : f.body.isSome = true) (jf : decide (f.name = "runtime.NumGoroutine") = false) {R : Out → List (List aP) → Prop} (mH : p9 P tt E fn.results.toList fd ds R x st) :
 Leaves P fn tmps (λe w'=>∃o bA v M' β',R o bA∧e=si o v∧bv P K M' β' {env:=hZ o,H:=cB 0 bA,aL:=E} #[v] w') [{target:=.fn (.func fd) ⟨vs⟩,args := #[]}] mode w:=by
 obtain⟨ρ,bs,H1,ja,K',hn,kj,lK,ff,hd,f8⟩:=mH;have p2:f.body≠none:=by intro bf;rw [bf]at hb;cases hb
 have ab3 : f.name ≠ "runtime.NumGoroutine" := by simpa using jf
 refine leaves_cons (f:=fd) (args:=⟨vs⟩) hm.ab2 (by simp [invoke,callFunc,aN,p2,ab3]) ?_
 have hc:=RC (hd:=[]) hs hn kj lK hlen an ff ⟨by simp,by simp,by simp⟩
 have e0:H1.length=ρ.length:=by rw [(wS lK).1,(ud kj).1]
 refine(hd (jO M β st tmps w ρ []) w vs M _ mode (by rw [hlen,R4 ff]) hc (λr b h=>h) hm).mono ?_
 rintro e mJ w' ⟨v,bA,M',β',rfl,hu,ab4,cw⟩
 obtain⟨ic,o,ST,Z,aa,ai,ay⟩:=f8 bA ab4;rw [e0]at cw;obtain⟨cI,La,_,_⟩:=Kl hs hn kj aa Z cw
 dsimp only
 rw [hu];obtain⟨v2,aJ,md,M2,uN,bE,cz⟩:=AB cf ei La ai;exact⟨v2,aJ,o,nx ST,md,M2,uN,ay,bE,cz.era⟩
def pb(P:Program)(_tt:dq)(fn:Func)(E:Nat)(c:Code)(R:Out→List (List aP)→Prop)(st:aD):Prop:=
 ∀(K:Ctx),K.ds=[]→(∀r b,K.kH r=some b→r<E)→∀(a:Act) (w:World),sq P K fn.ntmps .normal st .normal a w→
  c.wp P (bodyPostD P fn λe w'=>∃o bA v M' β',R o bA∧e=si o v∧bv P K M' β' {env:=hZ o,H:=cB 0 bA,aL:=E} #[v] w') a w
def Lb(P:Program)(tt:dq)(fn:Func)(E:Nat)(y:Code)(R:Out→List (List aP)→Prop):b'→aD→Prop
 |.normal,st=>pb P tt fn E y R st
 |.ret,st=>∃o bA,Ab.leave tt E fn.results.toList st=some (o,bA)∧R o (nx bA)
 |_,_=>False
def pb.seq{fn:Func}{E:Nat}{x y:Code}{R:Out→List (List aP)→Prop}(cf:fe P tt=true)(h:aV P fn.ntmps E x (Lb P tt fn E y R) st):pb P tt fn E (.seq x y) R st:=by
 intro K hG ei a w hs;refine wp_seq (wp_mono (h K ei a w hs) ?_)
 rintro e dD w' ⟨fm,bO,Z,aa⟩
 cases fm with
 |normal=>obtain⟨rfl,ai⟩:=Z;exact aa K hG ei dD w' ⟨rfl,ai⟩
 |ret=>
  obtain⟨rfl,hd,_,M',β',cw⟩:=Z;obtain⟨o,bA,ai,ay⟩:=aa;obtain⟨v,aJ,md,M2,uN,bE,cz⟩:=AB cf ei cw ai;show Leaves P fn dD.tmps _ dD.defers .returning w'
  rw [hd,hG];exact⟨v,aJ,o,nx bA,md,M2,uN,ay,bE,cz.era⟩
 |exit i=>exact aa.elim
 |a8 x=>exact aa.elim
def Lc(P:Program)(tt:dq)(E:Nat)(rs:List ResultVar)(fd:FuncId)(ds:List D)(R:Out→List (List aP)→Prop):b'→aD→Prop
 |.normal,st |.ret,st=>p9 P tt E rs fd ds R none st
 |.a8 x,st=>p9 P tt E rs fd ds R (some x) st
 |.exit _,_=>False
def pb.defer{fn:Func}{E:Nat}{id:Nat}{opsA:Array Oper}{dt hR:Oper}{y:Code}{R:Out→List (List aP)→Prop}(cf:fe P tt=true)(mG:opsA = #[dt,hR]){t:Nat}{fd:FuncId}{eT:Array Operand}{c:Call}
 (Z:dt.op = .makeFunc (.func fd) #[] eT) (aa:dt.dst=some t) (ai:dt.guard=none) (ay:hR.op = .defer c) (aJ:hR.dst=none) (bE:hR.guard=none) (cz:c.callee = .value (.tmp t)) (dh:c.args = #[]) (aC:Nat.blt t fn.ntmps=true)
 {ds : List D} (ab5 : mapM' (rd st.env [] [] tt 0) eT.toList = some ds) (_hE : Nat.ble E st.aL = true) {f : Func} (aN : P.funcs[fd]? = some f) (hb : f.body.isSome = true) (jf : decide (f.name = "runtime.NumGoroutine") = false)
 (hG:tM st.aL ds=true)
 (h:aV P fn.ntmps st.aL y (Lc P tt E fn.results.toList fd ds R) {env:=del st.env t,H:=st.H,aL:=st.aL}):pb P tt fn E (.seq (.region id opsA false) y) R st:=by
 rintro K ab6 ei a w ⟨_,hd,dW,M,β,cw⟩
 obtain⟨tmps,defers⟩:=a;simp only at hd dW
 rw [ab6]at hd;subst hd;have cK:t<tmps.size:=by rw [dW];simpa using aC
 -- lJ captured values
 obtain⟨e0,eu⟩:=sd ab5;have rm:fy P K fn.ntmps M β {env:=st.env,bL:=[],H:=st.H,aL:=st.aL,rs:=[],aO:=[]} tmps w:=⟨cw,dW,(λ_ _ h=>by simp [look]at h),λ_ _ _ h=>by simp [look]at h⟩
 have mB:∀(i:Nat) v d,(eT.toList.map (⟨tmps,[]⟩:Act).eval)[i]? = some v→ds[i]? = some d→ce M β v d:=by
  intro i v d an hd;rw [List.getElem?_map,Option.map_eq_some_iff]at an;obtain⟨x,hx,rfl⟩:=an;exact dK (ds:=[]) (p:=[]) rm (λx hx=>by cases hx) (eu i x d hx hd)
 have hlen:(eT.toList.map (⟨tmps,[]⟩:Act).eval).length=ds.length:=by simp at e0 ⊢;omega
 -- lJ frame behind lJ region
 have pc:bv P K M β {env:=del st.env t,H:=st.H,aL:=st.aL} (tmps.setIfInBounds t (.func (.func fd) #[] ⟨eT.toList.map (⟨tmps,[]⟩:Act).eval⟩)) w:=cw.drop
 let p':Ctx:={zQ:=M,F:=K.F,kH:=λr=>if r<st.aL then β r else none,hE:=K.hE,ds:=[{target:=.fn (.func fd) ⟨eT.toList.map (⟨tmps,[]⟩:Act).eval⟩,args := #[]}]}
 have La:bv P p' M β {env:=del st.env t,H:=st.H,aL:=st.aL} (tmps.setIfInBounds t (.func (.func fd) #[] ⟨eT.toList.map (⟨tmps,[]⟩:Act).eval⟩)) w:=
  ⟨pc.e9,pc.own,pc.uniq,pc.unbox,pc.box,pc.inj,pc.lt,pc.mem,Mem.le_refl _,(λb aO dw=>⟨(pc.frame b aO dw).1,λ_=>rfl⟩),(λr b hb=>by
   simp only [p']at hb;split at hb
   ·exact hb
   ·cases hb),pc.iR,pc.hE⟩
 have Ld:∀{M':Mem} {β':Nat→Option Nat} {bO:aD} {fx:Array Value} {w':World},bv P p' M' β' bO fx w'→bv P K M' β' bO fx w':=by
  intro M' β' bO fx w' cv
  exact⟨cv.e9,cv.own,cv.uniq,cv.unbox,cv.box,cv.inj,cv.lt,cv.mem,Mem.le_trans cw.m0 cv.m0,(λb aO dw=>⟨(cv.frame b aO dw).1,λo=>((cv.frame b aO dw).2 o).trans ((cw.frame b aO dw).2 o)⟩),(λr b hb=>cv.ie r b (by
   have eH:=cw.ie r b hb;have gi:=cw.lt r b eH;simp only [p'];rw [if_pos gi];exact eH)),cv.iR,cv.hE⟩
 have gN:∀{M':Mem} {β':Nat→Option Nat} {bO:aD} {fx:Array Value} {w':World},bv P p' M' β' bO fx w'→∀r,r<st.aL→∀b,β r=some b→β' r=some b:=λcv r ah b hb=>cv.ie r b (by simp only [p'];rw [if_pos ah];exact hb)
 refine wp_seq (wp_region ?_);subst mG
 have e1:(execOp (Act.eval ⟨tmps,[]⟩) dt).run P w = .ok (.value (.func (.func fd) #[] ⟨eT.toList.map (⟨tmps,[]⟩:Act).eval⟩)) w:=by
  simp only [execOp,Z,Instr.makeFunc];refine iS _ ?_;simp
  congr 1
  apply Array.ext';simp
 have e2:(execOp (Act.eval ⟨tmps.setIfInBounds t (.func (.func fd) #[] ⟨eT.toList.map (⟨tmps,[]⟩:Act).eval⟩),[]⟩) hR).run P w = .ok (.defer {target:=.fn (.func fd) ⟨eT.toList.map (⟨tmps,[]⟩:Act).eval⟩,args := #[]}) w:=by
  simp [execOp,ay,resolve,cz,dh,Deferred.ofValue,Act.eval,cK]
 show wpOps P #[dt,hR] _ (List.range 2) ⟨tmps,[]⟩ w
 simp only [List.range,List.range.loop,wpOps];have AK:∀jR,Region.wanted dt (yielded #[dt,hR] jR)=true:=λjR=>by simp [Region.wanted,ai]
 have AL:∀jR,Region.wanted hR (yielded #[dt,hR] jR)=true:=λjR=>by simp [Region.wanted,bE]
 simp only [show(#[dt,hR]:Array Oper)[0]? = some dt from rfl,show(#[dt,hR]:Array Oper)[1]? = some hR from rfl,AK,AL,if_true]
 refine .inl ?_;unfold Oper.wp;rw [e1,Oper.upon_value,aa];refine .inl ?_;have ab7:(execOp ((⟨tmps,[]⟩:Act).put (some t) (.func (.func fd) #[] ⟨eT.toList.map (⟨tmps,[]⟩:Act).eval⟩)).eval hR).run P w = .ok (.defer {target:=.fn (.func fd) ⟨eT.toList.map (⟨tmps,[]⟩:Act).eval⟩,args := #[]}) w:=e2;rw [ab7,Oper.upon_defer,aJ];show y.wp P _ ⟨tmps.setIfInBounds t _,[_]⟩ w
 have rl:∀r b,p'.kH r=some b→r<st.aL:=by
  intro r b hb;simp only [p']at hb;split at hb
  ·assumption
  ·cases hb
 refine wp_mono (h p' rl _ w ⟨rfl,rfl,by simpa using dW,M,β,La⟩) ?_
 rintro e dD w' ⟨fm,bO,g1,g2⟩
 have n6:∀{M':Mem} {β':Nat→Option Nat} {bO:aD} {fx:Array Value} {w':World},bv P p' M' β' bO fx w'→∀(i:Nat) v d,(eT.toList.map (⟨tmps,[]⟩:Act).eval)[i]? = some v→ds[i]? = some d→ce M' β' v d:=by
  intro M' β' bO fx w' cv i v d an hd;have cI:M.le M':=cv.m0;exact((mB i v d an hd).mono cI).Zj (λr ah b hb=>gN cv r ah b hb) (r_ hG hd)
 cases fm with
 |normal=>
  obtain⟨rfl,hd,_,M',β',hs⟩:=g1;show Leaves P fn dD.tmps _ dD.defers .returning w'
  rw [hd];exact K_ cf ei (Ld hs) hlen (n6 hs) (x:=none) rfl aN hb jf g2
 |ret=>
  obtain⟨rfl,hd,_,M',β',hs⟩:=g1;show Leaves P fn dD.tmps _ dD.defers .returning w'
  rw [hd];exact K_ cf ei (Ld hs) hlen (n6 hs) (x:=none) rfl aN hb jf g2
 |exit i=>exact g2.elim
 |a8 x=>
  obtain⟨v,rfl,hd,M',β',gm,hs⟩:=g1;show Leaves P fn dD.tmps _ dD.defers (.panicking _) w'
  rw [hd];exact K_ cf ei (Ld hs) hlen (n6 hs) (x:=some x) ⟨v,rfl,gm⟩ aN hb jf g2
def pX.ab8 {f : FuncId} {fn : Func} {c : Code} {args : List D} {dU : List (Nat × TypeId)} {H : List (List aP)} {R : Out → List (List aP) → Prop} (aN : P.funcs[f]? = some fn) (hb : fn.body = some c) (jf : decide (fn.name = "runtime.NumGoroutine") = false)
 (ff:Nat.ble args.length fn.ntmps=true) (h:pb P tt fn H.length c R {env:=hy args dU,H:=cB 0 H,aL:=H.length}):pX P f args dU H R:=by
 refine⟨⟨fn,aN,by rw [hb];rfl,by simpa using jf⟩,?_⟩
 intro dc w vs M β hlen KP KQ
 suffices key:∀K:Ctx,K.ds=[]→bv P K M β {env:=hy args dU,H:=cB 0 H,aL:=H.length} ⟨vs⟩ w→(∀r b,β r=some b→K.kH r=some b)→
  Calls P f ⟨vs⟩ w λe w'=>∃o bA v M' β',R o bA∧e=si o v∧bv P K M' β' {env:=hZ o,H:=cB 0 bA,aL:=H.length} #[v] w' from
  (key {dc with ds:=[]} rfl (KP.ux []) KQ).mono λe w' ⟨o,bA,v,M',β',Z,aa,ai⟩=>⟨o,bA,v,M',β',Z,aa,ai.ux dc.ds⟩
 intro K hG cw gN;have ei:∀r b,K.kH r=some b→r<H.length:=λr b hb=>cw.lt r b (cw.ie r b hb)
 simp only [Nat.ble_eq]at ff;exact calls_of_wp_defers aN hb (h K hG ei {tmps:=(⟨vs⟩:Array Value)++Array.replicate (fn.ntmps-(⟨vs⟩:Array Value).size) undef,defers:=[]} w ⟨rfl,hG.symm,by simp;omega,M,β,KO hlen cw⟩)
def sA.SU{fd:FuncId}{fn:Func}{i0:Nat}{opsA:Array Oper}{dt hR:Oper}{rest:Code}{r t2:Nat}{c:Call}(cf:fe P tt=true)(aN:P.funcs[fd]? = some fn)(hb:fn.body=some (.seq (.region i0 opsA false) rest))(mG:opsA = #[dt,hR])
 (Z:dt.op = .call c) (aa:dt.dst=some r) (ai:dt.guard=none) (ay:c.callee = .builtin .recover) (aJ:c.args = #[]) (bE:hR.op = .assign (.tmp r)) (cz:hR.dst=some t2) (dh:hR.guard=none)
 {args:List D} {H:List (List aP)} {x:Option V} {R:List (List aP)→Prop} (ah:Nat.blt r fn.ntmps=true) (jg:Nat.blt t2 fn.ntmps=true) (ff:Nat.ble args.length fn.ntmps=true)
 (h:aV P fn.ntmps H.length rest (ss tt H.length fn.results.toList λo bA=>o = .ret (.cm []) none∧R bA) {env:=(t2,{d:=.v (x.getD .hX)})::del (hy args []) r,H:=cB 0 H,aL:=H.length}):sA P fd args H x R:=by
 intro K w vs M β mode hlen cw gN hm;have ei:∀r b,K.kH r=some b→r<H.length:=λr b hb=>cw.lt r b (cw.ie r b hb)
 simp only [Nat.ble_eq]at ff;simp only [Nat.blt_eq]at ah jg;refine callsD_of_wpS aN hb λsB cs hu=>?_
 apply wpS_seq;apply wpS_region;subst mG;have AK:∀jR,Region.wanted dt (yielded #[dt,hR] jR)=true:=λjR=>by simp [Region.wanted,ai]
 have AL:∀jR,Region.wanted hR (yielded #[dt,hR] jR)=true:=λjR=>by simp [Region.wanted,dh]
 have e1:∀a:Act,(execOp a.eval dt).run P w = .ok .recover w:=λa=>by
  simp [execOp,Z,resolve,ay,aJ,invoke,builtin]
 have ea:=KO (n:=fn.ntmps-(⟨vs⟩:Array Value).size) hlen cw
 -- Km 'recover' aa8
 have key:∃(v:Value) (mJ:FrameMode),cU M v (x.getD .hX)∧settle mJ = .returning∧(recoverD (sB::cs)=some (v,{sB with mode:=mJ}::cs)∨(recoverD (sB::cs)=none∧v = .nilIface∧({sB with mode:=mJ}:Frame)=sB)):=by
  cases x with
  |none=>
   have jA:mode = .returning:=hm;subst jA;exact⟨.nilIface,.returning,.hX,rfl,.inr ⟨by simp [recoverD,hu],rfl,by rw [←hu]⟩⟩
  |some y=>
   obtain⟨v,jA,an⟩:=hm;subst jA;exact⟨v,.panicking [{v,recovered:=true}],an,by simp [settle],.inl (by simp [recoverD,hu])⟩
 obtain⟨v,mJ,an,wP,AM⟩:=key;show wpOpsS P #[dt,hR] _ (List.range 2) _ (sB::cs) w
 simp only [List.range,List.range.loop,wpOpsS,show(#[dt,hR]:Array Oper)[0]? = some dt from rfl,show(#[dt,hR]:Array Oper)[1]? = some hR from rfl,AK,AL,if_true,e1]
 have e2:∀jR:Array Value,r<jR.size→(execOp (Act.eval ⟨jR.setIfInBounds r v,[]⟩) hR).run P w = .ok (.value v) w:=λjR aC=>by
  simp [execOp,bE,Act.eval,aC]
 have dW:((⟨vs⟩:Array Value)++Array.replicate (fn.ntmps-(⟨vs⟩:Array Value).size) undef).size=fn.ntmps:=by simp;omega
 generalize amn:(⟨vs⟩:Array Value)++Array.replicate (fn.ntmps-(⟨vs⟩:Array Value).size) undef=jR at ea dW
 have mH:∀cs',cs'={sB with mode:=mJ}::cs→rest.wpS P (bodyPostS P fn sB cs λe mJ w'=>∃v bA M' β',e = .returned v∧settle mJ = .returning∧R bA∧bv P K M' β' {env:=hZ (.ret (.cm []) none),H:=cB 0 bA,aL:=H.length} #[v] w')
  ⟨(jR.setIfInBounds r v).setIfInBounds t2 v,[]⟩ cs' w:=by
  intro cs' dV
  have pd:bv P {K with ds:=[]} M β {env:=(t2,{d:=.v (x.getD .hX)})::del (hy args []) r,H:=cB 0 H,aL:=H.length} ((jR.setIfInBounds r v).setIfInBounds t2 v) w:=
   ((ea.drop (t:=r) (v:=v)).put (t:=t2) (v:=v) (e:={d:=.v (x.getD .hX)}) (by rw [Array.size_setIfInBounds,dW];exact jg) (.v _ _ an) (λT az=>by cases az)).ux []
  refine wpS_of_wp (wp_mono (h {K with ds:=[]} ei _ w ⟨rfl,rfl,by simpa using dW,M,β,pd⟩) ?_)
  rintro e dD w' ⟨fm,bO,g1,g2⟩
  cases fm with
  |normal=>
   obtain⟨rfl,hd,_,M',β',hs⟩:=g1;obtain⟨o,bA,g3,rfl,g4⟩:=g2;obtain⟨v2,g5,md,M2,uN,g6,g7⟩:=AB cf (K:={K with ds:=[]}) ei hs g3;cases g6;exact⟨hd,mJ,dV,v2,g5,v2,bA,M2,uN,rfl,wP,g4,g7.ux K.ds⟩
  |ret=>
   obtain⟨rfl,hd,_,M',β',hs⟩:=g1;obtain⟨o,bA,g3,rfl,g4⟩:=g2;obtain⟨v2,g5,md,M2,uN,g6,g7⟩:=AB cf (K:={K with ds:=[]}) ei hs g3;cases g6;exact⟨hd,mJ,dV,v2,g5,v2,bA,M2,uN,rfl,wP,g4,g7.ux K.ds⟩
  |exit i=>exact g2.elim
  |a8 y=>
   obtain⟨bA,_,g4,_⟩:=g2;cases g4
 have e3:(execOp ((({tmps:=jR,defers:=[]}:Act).put dt.dst v).eval) hR).run P w = .ok (.value v) w:=by
  rw [aa];exact e2 jR (by omega)
 rcases AM with AM|⟨AM,rfl,hc0⟩
 ·simp only [AM,e3];rw [Oper.upon_value,aa,cz];exact mH _ rfl
 ·simp only [AM,e3];rw [Oper.upon_value,aa,cz];exact mH _ (by rw [hc0])
end
def pe(H:List (Nat×List aP)):Nat→List (Nat×List aP)
 | 0=>[]
 |n+1=>match look H n with
  |some cs=>(n,cs)::pe H n
  |none=>pe H n
def Le{H:List (Nat×List aP)}:∀{n q:Nat} {cs:List aP},look (pe H n) q=some cs→q<n∧look H q=some cs
 | 0,q,cs,h=>by simp [pe,look]at h
 |n+1,q,cs,h=>by
  unfold pe at h;split at h
  ·rename_i c hc;rw [dB]at h;split at h
   ·rename_i al;subst al;cases h;exact⟨by omega,hc⟩
   ·obtain⟨Z,aa⟩:=Le h;exact⟨by omega,aa⟩
  ·obtain⟨Z,aa⟩:=Le h;exact⟨by omega,aa⟩
def SV(mk:Nat)(ops:List Oper)(o:Oper)(x:V)(hs:List (Nat×List aP))(aO:List Prop)(jB:List Nat)(rs:List e8)(sv:List (Nat×List aP)):dX:=
 {dst:=o.dst,p:=[],f:={e:=none,rs:=[],hs:=[(mk,[])],aO},jB,mI:=o6 ops o,o4:=p6 o,rs,kd:=1,uy:=x,o5:=hs,sv}
def SW(ops:List Oper)(o:Oper):dX:=
 {dst:=o.dst,p:=[],f:={e:=none,rs:=[]},jB:=[],mI:=o6 ops o,o4:=p6 o,rs:=[],kd:=2}
def rn(bX:gf)(tt:dq)(ops:List Oper)(f9 mk:Nat):Nat→List Oper→List (List e8)→c6→Option (List dX×c6×List Prop×List (V×List (Nat×List aP)))
 |_,[],[],g=>some ([],g,[],[])
 |i,o::l,rs::jj,g=>bif Nat.beq i f9 then match oT ops g o with
  |some []=>match step1 bX tt ops {g with rs:=rs} [] o with
   |some (.a8 x hs aO)=>match rn bX tt ops f9 mk (i+1) l jj (ec (SV mk ops o x hs aO (im tt g [] o++List.range mk) rs g.H) g) with
    |some (ci,eG,sr,xs)=>some (SV mk ops o x hs aO (im tt g [] o++List.range mk) rs g.H::ci,eG,sr++aO,(x,hs++pe g.H mk)::xs)
    |none=>none
   |_=>none
  |_=>none
  else bif waits ops f9 3 i then match rn bX tt ops f9 mk (i+1) l jj (ec (SW ops o) g) with
   |some (ci,eG,sr,xs)=>some (SW ops o::ci,eG,sr,xs)
   |none=>none
  else match findD bX tt ops g o rs with
   |some E=>bif E.f.hs.all (λy=>!Nat.beq y.1 mk)then match rn bX tt ops f9 mk (i+1) l jj (ec E g) with
    |some (ci,eG,sr,xs)=>some (E::ci,eG,sr++E.f.aO.map (under g E.p),xs)
    |none=>none
    else none
   |none=>none
 |_,_,_,_=>none
def AN(bX:gf)(tt:dq)(N:Nat)(ops:List Oper)(f9 mk:Nat)(jj:List (List e8))(st:aD):Option (V×List (Nat×List aP)×List Prop):=
 match rn bX tt ops f9 mk 0 ops jj (EB ops st) with
 |some (ci,g,aO,[(x,hs)])=>bif Ey N ops ci&&(look g.H mk).isSome&&(look st.H mk).isNone then some (x,hs,aO)else none
 |_=>none
def Lf:Option (V×List (Nat×List aP)×List Prop)→Option (V×List Prop)
 |some (x,_,bM)=>some (x,bM)
 |none=>none
def Lg:Option (V×List (Nat×List aP)×List Prop)→List (Nat×List aP)
 |some (_,H,_)=>H
 |none=>[]
section
variable {P:Program} {K:Ctx} {N E:Nat} {st:aD} {tt:dq} {opsA:Array Oper} {bX:gf}
structure SX(opsA:Array Oper)(ci:List dX)(f9 mk:Nat)(x:V)(hs:List (Nat×List aP)):Prop where
 dead:∀(i:Nat) E,ci[i]? = some E→E.kd=2→waits opsA.toList f9 3 i=true
 a8:∀(i:Nat) E,ci[i]? = some E→E.kd=1→E.p=[]∧E.uy=x∧E.o5++pe E.sv mk=hs∧∀q,q<mk→q∈E.jB
 go:∀(i:Nat) E,ci[i]? = some E→E.kd=0→i≠f9∧(E.f.hs.all (λy=>!Nat.beq y.1 mk))=true
 kd:∀(i:Nat) E,ci[i]? = some E→E.kd=0∨E.kd=1∨E.kd=2
def ab9{listed:Array Bool}(gn:nA opsA listed){i f9:Nat}(hi:i∈Region.ready .any opsA listed){n:Nat}(hw:waits opsA.toList f9 n i=true):listed.getD f9 false=true:=by
 cases n with
 |zero=>simp [waits]at hw
 |succ n=>
  obtain⟨_,o,am,o8⟩:=mem_ready.1 hi;rw [waits]at hw;have ab:opsA.toList[i]? = some o:=by simpa using am
  simp only [ab]at hw;obtain⟨e,he,hb⟩:=List.any_eq_true.1 hw;simp only [Bool.and_eq_true,Bool.or_eq_true,Nat.beq_eq]at hb;have Z:=o8 e (by simpa using he) hb.1
  rcases hb.2 with rfl|aa
  ·exact Z
  ·exact Ep gn aa Z
def Lh{mk:Nat}:∀{l H:List (Nat×List aP)},(l.all λy=>!Nat.beq y.1 mk)=true→look H mk=none→look (l++H) mk=none
 |[],_,_,h=>h
 |(a,b)::l,H,ab,h=>by
  simp only [List.all_cons,Bool.and_eq_true,Bool.not_eq_true']at ab;rw [List.cons_append,dB];have:a≠mk:=by intro e;subst e;simp at ab
  rw [if_neg this];exact Lh ab.2 h
def ab'{E:dX}{g:c6}{mk:Nat}(h:(E.f.hs.all λy=>!Nat.beq y.1 mk)=true)(hg:look g.H mk=none):look (ec E g).H mk=none:=by
 unfold ec;cases E.dst with
 |none=>exact Lh h hg
 |some t=>
  cases E.p with
  |nil=>exact Lh h hg
  |cons x p=>dsimp only;cases E.f.e<;>exact hg
def iU.SY(cf:fe P tt=true){ci:List dX}{f9 mk:Nat}{x:V}{hs:List (Nat×List aP)}(kQ:SX opsA ci f9 mk x hs)(cG:∀(i:Nat) o E,opsA[i]? = some o→ci[i]? = some E→gt opsA.toList o E=true)(aQ:∀(i:Nat) E,ci[i]? = some E→p8 N E=true)(jM:AH opsA.toList ci=true){Q:Exit→Act→World→Prop}
 (dL:∀n e dD w',sq P K N (.a8 x) {env:=[],H:=hs,aL:=n} e dD w'→Q e dD w'):
 ∀(n:Nat) (listed:Array Bool) (g:c6) (tmps:Array Value) (w:World) (M:Mem) (β:Nat→Option Nat),iU (je P) tt opsA ci (λg=>(look g.H mk).isSome=true) n listed g→listed.size=opsA.size→nA opsA listed→sz ci listed g→listed.getD f9 false=false→look g.H mk=none→fy P K N M β g tmps w→wpAny P .any opsA Q n listed ⟨tmps,K.ds⟩ w
 | 0,_,g,tmps,w,M,β,h,_,_,_,_,eZ,_=>by have:(look g.H mk).isSome=true:=h.2;rw [eZ]at this;cases this
 |n+1,listed,g,tmps,w,M,β,h,dW,gn,l',SZ,eZ,fO=>by
  refine⟨(λah=>by have:(look g.H mk).isSome=true:=h.1 ah;rw [eZ]at this;cases this),λi hi=>?_⟩
  obtain⟨o,E,am,bH,Ex,hn⟩:=h.2 i hi;have cK:i<listed.size:=by rw [dW];exact(Array.getElem?_eq_some_iff.1 am).1
  have nB:listed.getD i false=false:=by have:=(mem_ready.1 hi).1;simpa [Array.getD_eq_getD_getElem?,cK]using this
  have p3:fy P K N M β {g with rs:=E.rs,aO:=[]} tmps w:=⟨fO.bj,fO.size,fO.fresh,fO.cond⟩;unfold wpOp;simp only [am];rcases kQ.kd i E bH with hk|hk|hk
  ·have ji:=Ex.resolve_left (by rw [hk];simp)
   obtain⟨EH,uv⟩:=kQ.go i E bH hk;have K2:=SO (N:=N) hk ji bH (cG i o E am bH) (aQ i E bH) jM gn nB l';refine KL p3 cf (opsA:=opsA) rfl K2 (λq al=>?_) (λfx w' M' β' cv=>?_)
   ·obtain⟨q',o0,rfl⟩:=List.mem_map.1 al;exact ji.aO q' o0
   ·exact iU.SY cf kQ cG aQ jM dL n _ (ec E g) fx w' M' β' hn (by simpa using dW) (gn.set hi) (l'.ap bH cK) (by rw [getD_set_ne false EH];exact SZ) (ab' uv eZ) ⟨cv.bj,cv.size,cv.fresh,cv.cond⟩
  ·have ji:=Ex.resolve_left (by rw [hk];simp)
   obtain⟨hp,hx,ab_,n9⟩:=kQ.a8 i E bH hk
   have ea:step1 (je P) tt opsA.toList {g with rs:=E.rs,aO:=[]} [] o=some (.a8 x E.o5 E.f.aO):=by
    have Z:=ji.st;rw [hk,hp,hx]at Z;refine Eq.trans ?_ Z;exact KW (g1:={g with rs:=E.rs,aO:=[]}) (g2:={g with rs:=E.rs}) (λ_ _ _ _=>⟨rfl,rfl⟩) rfl rfl (λ_=>rfl) (λ_ _=>rfl)
   have Li:oT opsA.toList {g with rs:=E.rs,aO:=[]} o=some []:=by rw [←hp];exact ji.El
   have aca:nl (je P) tt N opsA.toList {g with rs:=E.rs,aO:=[]} o=some (.a8 x {env:=oS g.env,H:=E.o5++g.H,aL:=g.aL} (E.f.aO++[])):=by
    unfold nl;rw [Li]
    dsimp only
    rw [ea];rfl
   refine Sh p3 cf (opsA:=opsA) rfl aca (λq al=>?_) (λe dD w' rl=>?_)
   ·rw [List.append_nil]at al;have:=ji.aO q al
    rw [hp]at this;exact this
   ·obtain⟨v,Z,aa,z7,z8,ai,ay⟩:=rl;have mH:=ji.fin hk
    have li:∀q cs,look hs q=some cs→look (E.o5++g.H) q=some cs:=by
     intro q cs al;rw [←ab_,w6]at al;rw [w6];cases ab:look E.o5 q with
     |some c=>rw [ab]at al;exact al
     |none=>
      rw [ab]at al;obtain⟨aJ,bE⟩:=Le al;rw [←bE];exact mH q (n9 q aJ)
    refine dL g.aL e dD w' ⟨v,Z,aa,z7,z8,ai,(ay.Aw _).sub rfl (λl a' ab=>?_) (λq cs al=>⟨cs,li q cs al,rfl⟩)⟩
    cases l with
    |slot s=>simp [aD.at,look]at ab
    |cell q i=>
     simp only [aD.at]at ab ⊢;cases al:look hs q with
     |none=>rw [al]at ab;simp at ab
     |some cs=>
      rw [al]at ab;rw [li q cs al];exact⟨a',ab,rfl,λ_ h=>h⟩
  ·have:=ab9 gn hi (kQ.dead i E bH hk)
   rw [SZ]at this;cases this
def EI{ops:List Oper}{f9 mk:Nat}{Fi:c6→Prop}:∀{l:List Oper} {i:Nat} {jj:List (List e8)} {g:c6} {ci:List dX} {eG:c6} {aO:List Prop} {xs:List (V×List (Nat×List aP))},rn bX tt ops f9 mk i l jj g=some (ci,eG,aO,xs)→(∀q,q∈aO→q)→Fi eG→
 ci.length=l.length∧Eu bX tt ops Fi (kR l ci) g∧
 (∀(j:Nat) E,ci[j]? = some E→(E.kd=0∧i+j≠f9∧(E.f.hs.all (λy=>!Nat.beq y.1 mk))=true)∨(E.kd=1∧E.p=[]∧(E.uy,E.o5++pe E.sv mk)∈xs∧∀q,q<mk→q∈E.jB)∨(E.kd=2∧waits ops f9 3 (i+j)=true))
 |[],i,[],g,ci,eG,aO,xs,h,_,dw=>by
  simp only [rn,Option.some.injEq,Prod.mk.injEq]at h;obtain⟨rfl,rfl,rfl,rfl⟩:=h;exact⟨rfl,dw,by simp⟩
 |[],_,_::_,_,_,_,_,_,h,_,_=>by simp [rn]at h
 |_::_,_,[],_,_,_,_,_,h,_,_=>by simp [rn]at h
 |o::l,i,rs::jj,g,ci,eG,aO,xs,h,cg,dw=>by
  have next:∀{E:dX} {uF:List dX} {w9:List (V×List (Nat×List aP))},(∀(j:Nat) E,uF[j]? = some E→(E.kd=0∧i+1+j≠f9∧(E.f.hs.all (λy=>!Nat.beq y.1 mk))=true)∨(E.kd=1∧E.p=[]∧(E.uy,E.o5++pe E.sv mk)∈w9∧∀q,q<mk→q∈E.jB)∨(E.kd=2∧waits ops f9 3 (i+1+j)=true))→(∀z,z∈w9→z∈xs)→
   ((E.kd=0∧i≠f9∧(E.f.hs.all (λy=>!Nat.beq y.1 mk))=true)∨(E.kd=1∧E.p=[]∧(E.uy,E.o5++pe E.sv mk)∈xs∧∀q,q<mk→q∈E.jB)∨(E.kd=2∧waits ops f9 3 i=true))→
   ∀(j:Nat) cV,(E::uF)[j]? = some cV→(cV.kd=0∧i+j≠f9∧(cV.f.hs.all (λy=>!Nat.beq y.1 mk))=true)∨(cV.kd=1∧cV.p=[]∧(cV.uy,cV.o5++pe cV.sv mk)∈xs∧∀q,q<mk→q∈cV.jB)∨(cV.kd=2∧waits ops f9 3 (i+j)=true):=by
   intro E uF w9 Z hx aa j cV hj;cases j with
   |zero=>simp at hj;subst hj;exact aa
   |succ j=>
    have:=Z j cV (by simpa using hj)
    rw [show i+1+j=i+(j+1)by omega]at this
    rcases this with ai|⟨ai,ay,aJ,bE⟩|ai
    ·exact .inl ai
    ·exact .inr (.inl ⟨ai,ay,hx _ aJ,bE⟩)
    ·exact .inr (.inr ai)
  simp only [rn]at h;rw [Bool.cond_eq_ite]at h;split at h
  ·rename_i EH;split at h
   case h_2=>cases h
   rename_i Li;split at h
   case h_2=>cases h
   rename_i x hs abW ea;split at h
   case h_2=>cases h
   rename_i uF g1 S0 w9 Z;simp only [Option.some.injEq,Prod.mk.injEq]at h;obtain⟨rfl,rfl,rfl,rfl⟩:=h;obtain⟨aa,ai,ay⟩:=EI Z (λq al=>cg q (List.mem_append_left _ al)) dw
   refine⟨by simp [aa],⟨.inr ⟨Li,ea,(λq al=>cg q (List.mem_append_right _ al)),(λq al=>List.mem_append_left _ al),λ_ q _=>rfl⟩,ai⟩,next ay (λz dJ=>List.mem_cons_of_mem _ dJ) (.inr (.inl ⟨rfl,rfl,List.mem_cons_self ..,λq al=>List.mem_append_right _ (List.mem_range.2 al)⟩))⟩
  ·rename_i EH;rw [Bool.cond_eq_ite]at h;split at h
   ·rename_i hw;split at h
    case h_2=>cases h
    rename_i uF g1 S0 w9 Z;simp only [Option.some.injEq,Prod.mk.injEq]at h;obtain⟨rfl,rfl,rfl,rfl⟩:=h;obtain⟨aa,ai,ay⟩:=EI Z cg dw;exact⟨by simp [aa],⟨.inl rfl,ai⟩,next ay (λz dJ=>dJ) (.inr (.inr ⟨rfl,hw⟩))⟩
   ·split at h
    case h_2=>cases h
    rename_i E bH;rw [Bool.cond_eq_ite]at h;split at h
    case isFalse=>cases h
    rename_i oV;split at h
    case h_2=>cases h
    rename_i uF g1 S0 w9 Z;simp only [Option.some.injEq,Prod.mk.injEq]at h;obtain⟨rfl,rfl,rfl,rfl⟩:=h;obtain⟨aa,ai,ay⟩:=EI Z (λq al=>cg q (List.mem_append_left _ al)) dw
    have K3:∀q,q∈E.f.aO→under g E.p q:=λq al=>cg _ (List.mem_append_right _ (List.mem_map.2 ⟨q,al,rfl⟩))
    have uv:=oV;unfold findD at bH;split at bH
    ·cases bH
    rename_i p hp;split at bH
    ·rename_i f aN;cases bH;exact⟨by simp [aa],⟨.inr ⟨hp,aN,K3,λ_ h=>h,λh=>by cases h⟩,ai⟩,next ay (λz dJ=>dJ) (.inl ⟨rfl,(by simpa using EH),uv⟩)⟩
    ·cases bH
def aV.acb{id:Nat}{Q:b'→aD→Prop}(cf:fe P tt=true)(hm:P.follows .mixedOrders=true)(f9:Nat)(jj:List (Nat×List e8)){x:V}{bM:List Prop}(ah:Lf (AN (je P) tt N opsA.toList f9 (st.aL+opsA.toList.length) (spread opsA.toList.length 0 jj) st)=some (x,bM))(cg:km bM)
 (dL:∀n,Q (.a8 x) {env:=[],H:=Lg (AN (je P) tt N opsA.toList f9 (st.aL+opsA.toList.length) (spread opsA.toList.length 0 jj) st),aL:=n}):aV P N E (.region id opsA true) Q st:=by
 rintro K ei a w ⟨_,hd,dW,M,β,cw⟩
 obtain⟨tmps,ds⟩:=a;simp only at hd dW
 subst hd;refine wp_region_any hm ?_;cases lj:AN (je P) tt N opsA.toList f9 (st.aL+opsA.toList.length) (spread opsA.toList.length 0 jj) st with
 |none=>rw [lj]at ah;cases ah
 |some res=>
 obtain⟨f5,nC,amo⟩:=res;rw [lj]at ah dL;simp only [Lf,Option.some.injEq,Prod.mk.injEq]at ah;obtain⟨rfl,rfl⟩:=ah;simp only [Lg]at dL;unfold AN at lj;split at lj
 case h_2=>cases lj
 rename_i ci g sr fN fO eV;rw [Bool.cond_eq_ite]at lj;split at lj
 case isFalse=>cases lj
 rename_i hc;simp only [Option.some.injEq,Prod.mk.injEq]at lj;obtain⟨rfl,rfl,rfl⟩:=lj;simp only [Bool.and_eq_true,Option.isNone_iff_eq_none]at hc;obtain⟨⟨hc,Em⟩,S1⟩:=hc;generalize amp:st.aL+opsA.toList.length=mk at eV Em S1
 obtain⟨hlen,K7,EJ⟩:=EI (Fi:=λg=>(look g.H mk).isSome=true) eV cg.mem Em
 simp only [Ey,Bool.and_eq_true]at hc;obtain⟨⟨⟨c1,c2⟩,c3⟩,c4⟩:=hc
 have cG:∀(i:Nat) o E,opsA[i]? = some o→ci[i]? = some E→gt opsA.toList o E=true:=by
  intro i o E am bH;obtain⟨kl,z2⟩:=uG hlen i;have ke:opsA.toList[i]? = some o:=by simpa using am
  rw [ke]at kl;rw [bH]at z2;cases dJ:(kR opsA.toList ci)[i]? with
  |none=>rw [dJ]at kl;simp at kl
  |some x=>
   rw [dJ]at kl z2;simp at kl z2
   subst kl;subst z2;exact List.all_eq_true.1 c1 x (List.mem_of_getElem? dJ)
 have aQ:∀(i:Nat) E,ci[i]? = some E→p8 N E=true:=λi E bH=>List.all_eq_true.1 c2 E (List.mem_of_getElem? bH)
 have AI:nA opsA (Array.replicate opsA.size false):=λj o am hj=>by have cK:j<opsA.size:=(Array.getElem?_eq_some_iff.1 am).1;simp [Array.getD_eq_getD_getElem?,cK]at hj
 have AJ:=iU.text cG (λg1 g2 kn Z=>by rw [←kn.box mk];exact Z) (kR opsA.toList ci) 0 (Array.replicate opsA.size false) _ (λj=>by have:=(uG hlen j).1;simpa using this) (λj=>by have:=(uG hlen j).2;simpa using this)
  ⟨by simp,λj hj=>by simp [hj]⟩ AI c4 K7
 have uc:(kR opsA.toList ci).length=opsA.size:=by rw [K4 hlen];simp
 rw [uc]at AJ
 have kQ:SX opsA ci f9 mk fN fO:=by
  constructor
  ·intro i E bH hk;rcases EJ i E bH with⟨Z,_⟩|⟨Z,_⟩|⟨_,Z⟩
   ·omega
   ·omega
   ·simpa using Z
  ·intro i E bH hk;rcases EJ i E bH with⟨Z,_⟩|⟨_,Z,aa,ai⟩|⟨Z,_⟩
   ·omega
   ·simp only [List.mem_singleton,Prod.mk.injEq]at aa;exact⟨Z,aa.1,aa.2,ai⟩
   ·omega
  ·intro i E bH hk;rcases EJ i E bH with⟨_,Z,aa⟩|⟨Z,_⟩|⟨Z,_⟩
   ·exact⟨by simpa using Z,aa⟩
   ·omega
   ·omega
  ·intro i E bH;rcases EJ i E bH with⟨Z,_⟩|⟨Z,_⟩|⟨Z,_⟩
   ·exact .inl Z
   ·exact .inr (.inl Z)
   ·exact .inr (.inr Z)
 refine iU.SY (K:=K) (mk:=mk) cf kQ cG aQ c3 (λn e dD w' cv=>⟨_,_,cv,dL n⟩) _ _ _ tmps _ M β AJ (by simp) AI (λx hx=>by cases hx) ?_ S1 ⟨(cw.drew _).up _,dW,(λs id h _ b hb=>by have Z:=cw.lt _ _ hb;have aa:=(ED _ _ _ (q5 h)).1;simp only at aa;omega),λ_ _ _ h=>by simp [EB,look]at h⟩
 rw [Array.getD_eq_getD_getElem?];by_cases EK:f9<opsA.size
 ·simp [EK]
 ·simp [EK]
end
section
variable {P:Program} {tt:dq} {fn:Func} {E:Nat} {st:aD}
def Lj{y:Code}{R:Out→List (List aP)→Prop}(h:pb P tt fn E y R st):Lb P tt fn E y R .normal st:=h
def acd{y:Code}{out:Out}{AO:List (List aP)}(h:(Ab.leave tt E fn.results.toList st).map (λx=>(x.1,nx x.2))=some (out,AO)):Lb P tt fn E y (λo bA=>o=out∧bA=AO) .ret st:=by
 rw [Option.map_eq_some_iff]at h;obtain⟨⟨o,bA⟩,Z,aa⟩:=h;cases aa;exact⟨o,bA,Z,rfl,rfl⟩
def S2(tt:dq)(E:Nat)(rs:List ResultVar)(ds:List D)(ρ:List Nat)(ct:List (List aP))(st:aD):Option (List (List aP)×List D×Out×List (List aP)):=
 bif !my ρ then none else match boxes st.H ρ,kF (idx ρ) ds,ju (λj=>ρ[j]?) ct with
  |some bs,some ja,some ic=>bif Nat.beq ct.length ρ.length then match ju (idx ρ) bs,Ab.leave tt E rs {env:=st.env,H:=kG ρ ic++st.H,aL:=st.aL} with
   |some H1,some (o,bA)=>some (H1,ja,o,nx bA)
   |_,_=>none
   else none
  |_,_,_=>none
def p9.of{rs:List ResultVar}{fd:FuncId}{ds ja:List D}{x:Option V}(ρ:List Nat){H1 ct AO:List (List aP)}{o:Out}(d:sA P fd ja H1 x λbA=>bA=ct)(hc:S2 tt E rs ds ρ ct st=some (H1,ja,o,AO)):
 p9 P tt E rs fd ds (λo' bA=>o'=o∧bA=AO) x st:=by
 unfold S2 at hc;rw [Bool.cond_eq_ite]at hc;split at hc
 ·cases hc
 rename_i hn;split at hc
 case h_2=>cases hc
 rename_i bs a ic kj ha uj;rw [Bool.cond_eq_ite]at hc;split at hc
 case isFalse=>cases hc
 rename_i ab;split at hc
 case h_2=>cases hc
 rename_i ace o' bA lK gh;simp only [Option.some.injEq,Prod.mk.injEq]at hc;obtain⟨rfl,rfl,rfl,rfl⟩:=hc;refine⟨ρ,bs,ace,a,_,(by simpa using hn),kj,lK,ha,d,λST ai=>?_⟩
 subst ai;exact⟨ic,o',bA,(by simpa using ab),uj,gh,rfl,rfl⟩
def acf{rs:List ResultVar}{fd:FuncId}{ds:List D}{R:Out→List (List aP)→Prop}(h:p9 P tt E rs fd ds R none st):Lc P tt E rs fd ds R .ret st:=h
def S3{rs:List ResultVar}{fd:FuncId}{ds:List D}{R:Out→List (List aP)→Prop}{x:V}(h:p9 P tt E rs fd ds R (some x) st):Lc P tt E rs fd ds R (.a8 x) st:=h
end
section
variable {P:Program}
def acg{w:World}{b off:Nat}{vs:List Value}{T:TypeId}{n2:Nat×Nat}(h:w.heap[b]? = some (.cells ⟨vs⟩ T n2))(u:Value):
 (w.setCell ⟨b,off,none⟩ u).heap[b]? = some (.cells ⟨vs.set off u⟩ T n2):=by
 have cK:=lt_of_heap h;have cv:w.heap[b] = .cells ⟨vs⟩ T n2:=by simpa [Array.getElem?_eq_getElem cK]using h
 show(w.heap.modify b _)[b]? = _
 rw [Array.getElem?_eq_getElem (by simpa using cK),Array.getElem_modify_self,cv]
 simp
def ach{w:World}{b off:Nat}{u:Value}(k:Nat)(h:k≠b):(w.setCell ⟨b,off,none⟩ u).heap[k]? = w.heap[k]? := Go.RowKit.Below.heap_setCell w ⟨b,off,none⟩ u k h
def S4 {f : FuncId} {fd : Func} {off : Nat} {u : TypeId} (jw : P.funcs[f]? = some fd) (Lk : fd.body.isSome = true) (hn : decide (fd.name = "runtime.NumGoroutine") = false)
 (aci:∀(b:Nat) (w:World),w.cell? ⟨b,off,none⟩=some (.pointer (some ⟨b,off,none⟩))→Calls P f #[.pointer (some ⟨b,off,none⟩)] w λe w'=>e = .returned (.tuple #[])∧w'=w)
 (acj:∀(b:Nat) (w:World) (T:TypeId) (k:Nat),w.cell? ⟨b,off,none⟩=some (.pointer none)→w.shape? b=some (T,k)→off<k→liesAt P P.depth T (k / P.cellsOf T) off u 1=true→w.frozen? ⟨b,off,none⟩=false→
  Calls P f #[.pointer (some ⟨b,off,none⟩)] w λe w'=>e = .returned (.tuple #[])∧w'=w.setCell ⟨b,off,none⟩ (.pointer (some ⟨b,off,none⟩)))
 {cs:List aP} (dV:cs[off]? = some ⟨.ca 0 off u,none⟩):gw P f [.ptr 0 off] [] [cs] (.ret (.cm []) none) [cs]:=by
 refine⟨⟨fd,jw,Lk,by simpa using hn⟩,λK w vs M β hlen hs gN=>?_⟩
 obtain⟨v,rfl⟩:∃v,vs=[v]:=by
  match vs,hlen with
  |[v],_=>exact⟨v,rfl⟩
 have ra:=hs.e9 (.slot 0) ⟨.ptr 0 off,none⟩ (by simp [aD.at,hy,rc,cB,look])
 have uo:cb (⟨[v]⟩:Array Value) w β (.slot 0)=v:=by simp [cb]
 rw [uo]at ra;obtain⟨b,hb,rfl⟩:∃b,β 0=some b∧v = .pointer (some ⟨b,off,none⟩):=by cases ra with|ptr r o b h=>exact⟨b,h,rfl⟩
 have hl0:look (cB 0 [cs]) 0=some cs:=by simp [cB,look]
 obtain⟨bp,ws,T,bF,bf,S5,ack,acl,iF,hlies⟩:=hs.box 0 cs hl0;rw [hb]at bF;cases bF;have sn:off<cs.length:=(List.getElem?_eq_some_iff.1 dV).1;have AP:ws[off]? = some ws[off]:=List.getElem?_eq_getElem (by omega)
 have hO:w.cell? ⟨b,off,none⟩=some ws[off]:=by rw [cell_of_heap bf,AP]
 have gm:=hs.e9 (.cell 0 off) ⟨.ca 0 off u,none⟩ (by simp [aD.at,hl0,dV])
 have b6:cb (⟨[.pointer (some ⟨b,off,none⟩)]⟩:Array Value) w β (.cell 0 off)=ws[off]:=by simp [cb,hb,hO]
 rw [b6]at gm
 have fin:∀w',bv P K M β {env:=[],H:=cB 0 [cs],aL:=[cs].length} #[.tuple #[]] w'→bv P K M β {env:=hZ (.ret (.cm []) none),H:=cB 0 [cs],aL:=[cs].length} #[.tuple #[]] w':=λw' h=>by
  have:=h.put (t:=0) (v:=.tuple #[]) (e:=⟨.cm [],none⟩) (by simp) (.cm [] [] rfl λi v c an=>by simp at an) (λT az=>by cases az)
  exact this
 generalize hx:ws[off]=x at hO gm AP
 cases gm with
 |ld r o mJ=>
  have hsh:w.shape? b=some (T,ws.length):=by simp [World.shape?,bf]
  have hfz:w.frozen? ⟨b,off,none⟩=false:=by simp [World.frozen?,bf]
  have l9:=hlies _ (List.mem_of_getElem? dV) 0 off u rfl;refine(acj b w T ws.length hO hsh (by omega) l9 hfz).mono ?_
  rintro e w' ⟨rfl,rfl⟩
  refine⟨_,_,.tuple #[],M,β,⟨rfl,rfl⟩,rfl,fin _ ?_⟩
  have Z:=(hs.Aw #[.tuple #[]]).JE (r:=0) (b:=b) (cs:=cs) (w':=w.setCell ⟨b,off,none⟩ (.pointer (some ⟨b,off,none⟩))) hl0 hb bf (vs':=ws.set off (.pointer (some ⟨b,off,none⟩))) (cs':=cs) (by simpa using S5)
   (λy bY=>by
    rcases List.mem_or_eq_of_mem_set bY with h|rfl
    ·exact iF y h
    ·rfl) (λh=>by rw [List.length_set];exact h) rfl (acg bf _) (λk hk=>ach k hk) cs.length (λi y e bY he=>by
    by_cases hi:off=i
    ·subst hi;rw [List.getElem?_set_self (by omega)]at bY
     cases bY;rw [dV]at he;cases he;exact⟨.ca 0 off b u hb,λT az=>by cases az⟩
    ·rw [List.getElem?_set_ne hi]at bY;have JU:=(List.getElem?_eq_some_iff.1 he).1;refine⟨?_,λT az=>.inl ⟨by omega,⟨e,he,az⟩,bY⟩⟩
     have:=hs.e9 (.cell 0 i) e (by simp [aD.at,hl0,he])
     simpa [cb,hb,cell_of_heap bf,bY]using this)
  refine Z.sub rfl (λl e ab=>⟨e,?_,rfl,λ_ h=>h⟩) (λr c ah=>⟨c,?_,rfl⟩)
  ·cases l with
   |slot s=>exact ab
   |cell r i=>
    simp only [aD.at,dB]at ab ⊢;by_cases ah:r=0
    ·subst ah;rw [hl0]at ab;simpa using ab
    ·simp [cB,dB,Ne.symm ah,look]at ab
  ·simp only [dB]at ah ⊢;by_cases lF:r=0
   ·subst lF;rw [hl0]at ah;simpa using ah
   ·simp [cB,dB,Ne.symm lF,look]at ah
 |ca r o jN mJ fc=>
  rw [hb]at fc;cases fc;refine(aci b w hO).mono ?_
  rintro e w' ⟨rfl,rfl⟩
  exact⟨_,_,.tuple #[],M,β,⟨rfl,rfl⟩,rfl,fin _ (hs.Aw _)⟩
end
section
variable {P:Program}
def S6 {f : FuncId} {fd : Func} {T5 : TypeId} (jw : P.funcs[f]? = some fd) (Lk : fd.body.isSome = true) (hn : decide (fd.name = "runtime.NumGoroutine") = false) (acm : P.cellsOf T5 = 1)
 (oV:∀(b:Nat) (w:World),w.cell? ⟨b,1,none⟩=some (.slice none 0 0)→Calls P f #[.pointer (some ⟨b,0,none⟩)] w λe w'=>e = .returned (.string ⟨#[]⟩)∧w'=w.drew)
 (f6:∀(b g cap:Nat) (w:World),cap≠0→w.cell? ⟨b,1,none⟩=some (.slice (some ⟨g,0,none⟩) 0 cap)→Calls P f #[.pointer (some ⟨b,0,none⟩)] w λe w'=>e = .returned (.string ⟨#[]⟩)∧w'=w.drew)
 (acn:∀(b g:Nat) (w:World) (vs:List Value),w.cell? ⟨b,1,none⟩=some (.slice (some ⟨g,0,none⟩) 0 0)→b<w.heap.size→w.heap[g]? = some (.cells ⟨vs⟩ T5 (0,0))→
  Calls P f #[.pointer (some ⟨b,0,none⟩)] w λe w'=>e = .returned (.string ⟨#[]⟩)∧w'=(w.drew.alloc (.view ⟨g,0,none⟩ T5)))
 (ui:∀(b g cap:Nat) (w:World) (vs:List Value) (l:anT),l≠[]→w.cell? ⟨b,1,none⟩=some (.slice (some ⟨g,0,none⟩) l.length cap)→w.heap[g]? = some (.cells ⟨vs⟩ T5 (0,0))→
  l.length≤cap→cap≤vs.length→l.length≤9223372036854775807→(∀(j:Nat) (x:UInt8),l[j]? = some x→vs[j]? = some (Value.int .u8 x.toNat))→
  Calls P f #[.pointer (some ⟨b,0,none⟩)] w λe w'=>e = .returned (.string ⟨l.toArray⟩)∧w'=w.drew.freeze ⟨g,0,none⟩ l.length)
 {d0:aP} {cs:List aP} {l:anT} {n:Nat} {get:Nat→V} (ij:n=l.length∧∀i,i<l.length→get i = .int .u8 ((l.getD i 0).toNat:Int)) (h63:l.length≤9223372036854775807):
 gw P f [.ptr 0 0] [] [d0::⟨.v (.br 1 n get),some T5⟩::cs] (.ret (.v (.str l)) none) [d0::⟨.v (.br 1 n get),none⟩::cs]:=by
 obtain⟨rfl,ij⟩:=ij;refine⟨⟨fd,jw,Lk,by simpa using hn⟩,λK w vs M β hlen hs gN=>?_⟩
 obtain⟨v,rfl⟩:∃v,vs=[v]:=by
  match vs,hlen with
  |[v],_=>exact⟨v,rfl⟩
 have ra:=hs.e9 (.slot 0) ⟨.ptr 0 0,none⟩ (by simp [aD.at,hy,rc,cB,look])
 have uo:cb (⟨[v]⟩:Array Value) w β (.slot 0)=v:=by simp [cb]
 rw [uo]at ra;obtain⟨b,hb,rfl⟩:∃b,β 0=some b∧v = .pointer (some ⟨b,0,none⟩):=by cases ra with|ptr r o b h=>exact⟨b,h,rfl⟩
 generalize lf:d0::(⟨.v (.br 1 l.length get),some T5⟩:aP)::cs=mK at hs
 have ki:mK[1]? = some ⟨.v (.br 1 l.length get),some T5⟩:=by rw [←lf];rfl
 have hl0:look (cB 0 [mK]) 0=some mK:=by simp [cB,look]
 obtain⟨bp,ws,T,bF,bf,S5,ack,acl,iF⟩:=hs.box 0 mK hl0;rw [hb]at bF;cases bF;have sn:1<mK.length:=(List.getElem?_eq_some_iff.1 ki).1;have AP:ws[1]? = some ws[1]:=List.getElem?_eq_getElem (by omega)
 have hO:w.cell? ⟨b,1,none⟩=some ws[1]:=by rw [cell_of_heap bf,AP]
 have S7:({env:=hy [.ptr 0 0] [],H:=cB 0 [mK],aL:=[mK].length}:aD).at (.cell 0 1)=some ⟨.v (.br 1 l.length get),some T5⟩:=by simp [aD.at,hl0,ki]
 have gm:=hs.e9 _ _ S7;have fZ:=hs.own _ _ T5 S7 rfl;have b6:cb (⟨[.pointer (some ⟨b,0,none⟩)]⟩:Array Value) w β (.cell 0 1)=ws[1]:=by simp [cb,hb,hO]
 rw [b6]at gm fZ
 -- lJ state behind it
 have uh:∀(j:Nat) a',(d0::(⟨.v (.br 1 l.length get),none⟩:aP)::cs)[j]? = some a'→∃bN,mK[j]? = some bN∧bN.d=a'.d∧(∀T,a'.own=some T→bN.own=some T∧j≠1):=by
  intro j a' hj;rw [←lf]
  match j with
  | 0=>simp only [List.getElem?_cons_zero,Option.some.injEq]at hj ⊢;subst hj;exact⟨_,rfl,rfl,λT az=>⟨az,by omega⟩⟩
  | 1=>simp only [List.getElem?_cons_succ,List.getElem?_cons_zero,Option.some.injEq]at hj ⊢;subst hj;exact⟨_,rfl,rfl,λT az=>by cases az⟩
  |j+2=>simp only [List.getElem?_cons_succ]at hj ⊢;exact⟨a',hj,rfl,λT az=>⟨az,by omega⟩⟩
 obtain⟨p3,n8⟩:=hs.Q0 (r:=0) (i:=1) (cs':=d0::⟨.v (.br 1 l.length get),none⟩::cs) hl0 ki rfl (by rw [←lf];rfl) uh (.slot 0)
 rw [b6]at n8
 have fin:∀w' M',bv P K M' β {env:=hy [.ptr 0 0] [],H:=(0,d0::⟨.v (.br 1 l.length get),none⟩::cs)::cB 0 [mK],aL:=[mK].length} ⟨[.pointer (some ⟨b,0,none⟩)]⟩ w'→
  bv P K M' β {env:=hZ (.ret (.v (.str l)) none),H:=cB 0 [d0::⟨.v (.br 1 l.length get),none⟩::cs],aL:=[mK].length} #[.string ⟨⟨l⟩⟩] w':=λw' M' h=>by
  have Z:=(h.Aw #[.string ⟨⟨l⟩⟩]).put (t:=0) (v:=.string ⟨⟨l⟩⟩) (e:=⟨.v (.str l),none⟩) (by simp) (.v _ _ (.str l)) (λT az=>by cases az)
  refine Z.sub rfl (λq e al=>⟨e,?_,rfl,λ_ h=>h⟩) (λr c ah=>⟨c,?_,rfl⟩)
  ·cases q with
   |slot s=>exact al
   |cell r i=>
    simp only [aD.at,dB]at al ⊢;by_cases ah:r=0
    ·subst ah;simpa [cB,look]using al
    ·simp [cB,dB,Ne.symm ah,look]at al
  ·simp only [dB]at ah ⊢;by_cases lF:r=0
   ·subst lF;simpa [cB,look]using ah
   ·simp [cB,dB,Ne.symm lF,look]at ah
 have aco:b<w.heap.size:=lt_of_heap bf;have EL:bv P K M β {env:=hy [.ptr 0 0] [],H:=(0,d0::⟨.v (.br 1 l.length get),none⟩::cs)::cB 0 [mK],aL:=[mK].length} ⟨[.pointer (some ⟨b,0,none⟩)]⟩ w.drew:=p3.drew _;have amq:[mK].length=1:=rfl;generalize hx:ws[1]=x at hO gm fZ n8 AP
 rcases fZ with h0|⟨g,n,cap,us,T',Z,aa,ai,ay,aJ,bE,cz⟩
 ·subst h0;obtain⟨_,ab⟩|⟨_,_,_,_,h,_⟩:=sb gm
  ·obtain rfl:=List.eq_nil_of_length_eq_zero ab;refine(oV b w hO).mono ?_
   rintro e w' ⟨rfl,rfl⟩
   exact⟨_,_,_,M,β,⟨rfl,rfl⟩,rfl,fin _ M EL⟩
  ·cases h
 ·subst cz
  have acp:∃(b off cap:Nat) (val:Nat→Nat→Value),x = .slice (some ⟨b,off,none⟩) l.length cap∧l.length≤cap∧(∀i,i<l.length→(get i).cells.length=1)∧(∀i j,i<l.length→j<1→M b (off+i*1+j)=some (val i j))∧
   (∀i j,i<l.length→j<1→(val i j).oneCell'=true)∧(∀(i j:Nat) c,i<l.length→(get i).cells[j]? = some c→cU M (val i j) c):=by
   rcases sb gm with⟨h|⟨a,h⟩,dJ⟩|hx
   ·rw [Z]at h;cases h
   ·rw [Z]at h;simp only [Value.slice.injEq,Option.some.injEq]at h;obtain⟨rfl,rfl,rfl⟩:=h;exact⟨g,0,0,λ_ _=>undef,Z.trans (by rw [dJ]),by omega,λi hi=>by omega,λi j hi=>by omega,λi j hi=>by omega,λi j c hi=>by omega⟩
   ·exact hx
  obtain⟨g2,off,amr,val,an,hc,hk,cI,ams,hY⟩:=acp
  focus
  ·rw [Z]at an;simp only [Value.slice.injEq,Option.some.injEq,Addr.mk.injEq,and_true]at an;obtain⟨⟨rfl,rfl⟩,rfl,rfl⟩:=an;rw [acm,Nat.mul_one]at ay;subst Z;by_cases ab:l=[]
   ·subst ab;by_cases hcap:cap=0
    ·subst hcap;refine(acn b g w us hO aco ai).mono ?_
     rintro e w' ⟨rfl,rfl⟩
     refine⟨_,_,_,M,β,⟨rfl,rfl⟩,rfl,fin _ M (EL.grow (λk hk=>?_))⟩
     exact Go.Lib.alloc_old _ _ k hk
    ·refine(f6 b g cap w hcap hO).mono ?_
     rintro e w' ⟨rfl,rfl⟩
     exact⟨_,_,_,M,β,⟨rfl,rfl⟩,rfl,fin _ M EL⟩
   ·have z_:∀(j:Nat) (x:UInt8),l[j]? = some x→us[j]? = some (Value.int .u8 x.toNat):=by
     intro j x hx;have hj:j<l.length:=(List.getElem?_eq_some_iff.1 hx).1;have e1:=hs.mem _ _ _ (cI j 0 hj (by omega))
     have e2:=ij j hj;have e3:=hY j 0 (.int .u8 ((l.getD j 0).toNat:Int)) hj (by rw [e2];rfl)
     rw [cell_of_heap ai,show 0+j*1+0=j by omega]at e1
     rw [e1];generalize val j 0=y at e3 ⊢
     cases e3;simp [List.getD,hx]
    refine(ui b g cap w us l ab hO ai hc ay h63 z_).mono ?_
    rintro e w' ⟨rfl,rfl⟩
    refine⟨_,_,.string ⟨⟨l⟩⟩,M,β,⟨rfl,rfl⟩,rfl,fin _ M ?_⟩
    have hfz:(w.drew.freeze ⟨g,0,none⟩ l.length).os=w.drew.os∧(w.drew.freeze ⟨g,0,none⟩ l.length).output=w.drew.output∧(∀k,k≠g→(w.drew.freeze ⟨g,0,none⟩ l.length).heap[k]? = w.drew.heap[k]?)∧∃n2,(w.drew.freeze ⟨g,0,none⟩ l.length).heap[g]? = some (.cells ⟨us⟩ T' n2):=by
     have hg':w.drew.heap[g]? = some (.cells ⟨us⟩ T' (0,0)):=ai;have cK:=lt_of_heap hg';have cv:w.drew.heap[g] = .cells ⟨us⟩ T' (0,0):=by simpa [Array.getElem?_eq_getElem cK]using hg'
     unfold World.freeze;split
     ·exact⟨rfl,rfl,λ_ _=>rfl,_,hg'⟩
     ·refine⟨rfl,rfl,λk hk=>?_,?_⟩
      ·simp only [Array.getElem?_modify];rw [if_neg (by simpa using(Ne.symm hk))]
      ·simp only [Array.getElem?_modify];rw [if_pos trivial,hg'];exact⟨_,rfl⟩
    obtain⟨f1,f2,f3,n2,f4⟩:=hfz;refine EL.free g bE (λr c ah lL=>n8.unbox g r c rfl ah lL) (λq e gO al sh acq=>?_) (λk hk _=>f3 k hk) (Mem.le_refl _) (λ_ _ _=>rfl) (λo v an=>?_) (by rw [f1,f2])
    ·refine n8.apart q e gO g al sh ?_ rfl acq
     rintro rfl
     simp only [aD.at,hy,rc,cB,look]at al;simp at al;subst al;cases sh
    ·have:=hs.mem _ _ _ an
     rw [cell_of_heap ai]at this;rw [cell_of_heap f4,this]
end
def sC(w:World):Mem:=λb o=>w.cell? ⟨b,o,none⟩
def fP(w:World)(vs:List Value)(cs:List V):Prop:=
 vs.length=cs.length∧(∀v,v∈vs→v.oneCell'=true)∧∀(i:Nat) v c,vs[i]? = some v→cs[i]? = some c→cU (sC w) v c
def fP.nil{w:World}:fP w [] []:=⟨rfl,(λv h=>by cases h),λi v c h=>by simp at h⟩
def fP.one{w:World}{v:Value}{c:V}(Z:v.oneCell'=true)(h:cU (sC w) v c):fP w [v] [c]:=
 ⟨rfl,(λu hu=>by obtain rfl:=List.mem_singleton.1 hu;exact Z),λi u d hu hd=>by
  match i with
  | 0=>cases hu;cases hd;exact h
  |i+1=>simp at hu⟩
def fP.app{w:World}{vs us:List Value}{cs ds:List V}(h:fP w vs cs)(cv:fP w us ds):fP w (vs++us) (cs++ds):=by
 refine⟨by simp [h.1,cv.1],λv an=>?_,λi v c an hc=>?_⟩
 ·rcases List.mem_append.1 an with an|an
  ·exact h.2.1 v an
  ·exact cv.2.1 v an
 ·by_cases hi:i<vs.length
  ·rw [List.getElem?_append_left hi]at an;rw [List.getElem?_append_left (by rw [←h.1];exact hi)]at hc
   exact h.2.2 i v c an hc
  ·rw [List.getElem?_append_right (by omega)]at an
   rw [List.getElem?_append_right (by rw [←h.1];omega),←h.1]at hc
   exact cv.2.2 _ v c an hc
def fP.EM{w:World}{vs:List Value}{cs ds:List V}(h:fP w vs cs)(an:jQ cs ds):fP w vs ds:=by
 refine⟨h.1.trans an.len,h.2.1,λi v c hi hc=>?_⟩
 obtain⟨x,hx,sf⟩:=an.at i hc;exact sf _ _ (h.2.2 i v x hi hx)
def fP.agg{w:World}{vs:List Value}{cs:List V}(h:fP w vs cs):cU (sC w) (.agg ⟨vs⟩) (.agg cs):=.agg vs cs h.1 h.2.1 h.2.2
def S8{α:Type}[Inhabited α]:∀(n:Nat) (Q:Nat→α→Prop),(∀i,i<n→∃a,Q i a)→∃l:List α,l.length=n∧∀i,i<n→Q i (l.getD i default)
 | 0,Q,h=>⟨[],rfl,λi hi=>by omega⟩
 |n+1,Q,h=>by
  obtain⟨l,Z,aa⟩:=S8 n Q λi hi=>h i (by omega)
  obtain⟨a,ha⟩:=h n (by omega)
  refine⟨l++[a],by simp [Z],λi hi=>?_⟩
  by_cases hin:i<n
  ·have:=aa i hin
   simpa [List.getD,List.getElem?_append_left (show i<l.length by omega)]using this
  ·obtain rfl:i=n:=by omega
   simpa [List.getD,←Z]using ha
section
variable {H:Type} {enc:TypeId×Value→H} {P:Program} {w:World}
def ip{fuel:Nat}{t:TypeId}{k:IntKind}{cs:List Value}{x:DataW H×List MemPlace}(aC:P.underlying t=some (.int k))(h:DataW.trod enc P w 0 (λ_=>true) true fuel t cs=some x):
 ∃n:Int,(k.min≤n∧n≤k.max)∧fP w cs [.int k n]:=by
 obtain⟨n,rfl,_,hw⟩:=DataW.trod_int aC h;refine⟨n,by simpa [Lit.wf]using hw,.one rfl (.int _ _)⟩
def S9{fuel:Nat}{t:TypeId}{cs:List Value}{x:DataW H×List MemPlace}(aC:P.underlying t=some .bool)(h:DataW.trod enc P w 0 (λ_=>true) true fuel t cs=some x):
 ∃b:Bool,fP w cs [.bool b]:=by
 obtain⟨b,rfl,_⟩:=DataW.trod_bool aC h;exact⟨b,.one rfl (.bool _)⟩
def od{fuel:Nat}{t:TypeId}{cs:List Value}{x:DataW H×List MemPlace}(aC:P.underlying t=some .string)(h:DataW.trod enc P w 0 (λ_=>true) true fuel t cs=some x):
 ∃s:anT,s.length≤9223372036854775807∧fP w cs [.str s]:=by
 obtain⟨s,rfl,_,hw⟩:=DataW.trod_string aC h;exact⟨s.data.toList,by simpa [maxLen]using hw,.one rfl (.str s.data.toList)⟩
def ll{α:Type}[Inhabited α]{fuel:Nat}{t e:TypeId}{k:Nat}{cs:List Value}{x:DataW H×List MemPlace}{encA:α→V}{ok:α→Prop}(aC:P.underlying t=some (.slice e))(hk:P.cellsOf e=k)(iK:0<k)
 (h:DataW.trod enc P w 0 (λ_=>true) true fuel t cs=some x)
 (ah:∀n cs' fN,n<fuel→DataW.trod enc P w 0 (λ_=>true) true n e cs'=some fN→∃a:α,ok a∧fP w cs' (encA a).cells):
 ∃l:List α,l.length≤9223372036854775807∧(∀i,i<l.length→ok (l.getD i default))∧fP w cs [af k encA l]:=by
 rcases DataW.trod_slice aC h with⟨rfl,_⟩|⟨a,len,cap,elems,rest,n,rfl,rfl,_,_,AQ,acr,kO,he,Ll,_⟩
 ·exact⟨[],by simp,(λi hi=>by simp at hi),.one rfl (.lC _ _)⟩
 ·have oZ:∀i,i<len→∃b:α,ok b∧∃cs',w.cells? 0 (a.add (i*k)) k=some cs'∧fP w cs' (encA b).cells:=by
   intro i hi;have Z:=he i hi;rw [List.getElem?_eq_getElem (by omega),Option.bind_eq_some_iff,hk]at Z
   obtain⟨cs',aa,ai⟩:=Z;obtain⟨b,ay,aJ⟩:=ah n cs' _ (by omega) ai
   exact⟨b,ay,cs',aa,aJ⟩
  obtain⟨l,ab,dL⟩:=S8 len _ oZ;subst ab;refine⟨l,by unfold maxLen at acr;omega,λi hi=>(dL i hi).1,?_⟩
  by_cases hc0:cap=0
  ·obtain rfl:l=[]:=List.eq_nil_of_length_eq_zero (by omega)
   subst hc0;exact .one rfl (.oP _ _ _)
  ·have S':a.spot=none:=by
    have h0:∃cs',w.cells? 0 (a.add (0*k)) k=some cs':=by
     by_cases hl0:l.length=0
     ·obtain⟨Z,aa⟩:=Ll rfl;have ai:=aa 0 (by omega)
      rw [List.getElem?_eq_getElem (by omega),Option.bind_eq_some_iff,hk,hl0]at ai
      obtain⟨cs',ay,_⟩:=ai;exact⟨cs',ay⟩
     ·obtain⟨_,cs',ay,_⟩:=dL 0 (by omega)
      exact⟨cs',ay⟩
    obtain⟨cs',ay⟩:=h0;obtain⟨_,aJ,bE⟩:=World.cells?_some ay;have cz:=bE 0 iK;rw [List.getElem?_eq_getElem (by omega),Nat.zero_mul]at cz
    have:(a.add 0).add 0=a:=by simp [Addr.add]
    rw [this]at cz;exact World.cell?_spot cz
   obtain⟨b,off,sp⟩:=a;simp only at S'
   subst S'
   have b6:∀i j,i<l.length→j<k→∃cs':List Value,cs'.length=k∧fP w cs' (encA (l.getD i default)).cells∧w.cell? ⟨b,off+i*k+j,none⟩=cs'[j]? := by
    intro i j hi hj;obtain⟨_,cs',Z,aa⟩:=dL i hi;obtain⟨_,aJ,bE⟩:=World.cells?_some Z;refine⟨cs',aJ,aa,?_⟩
    rw [←bE j hj,addr_add,addr_add]
   have S_:∀i,i<l.length→(encA (l.getD i default)).cells.length=k:=by
    intro i hi;obtain⟨cs',Z,aa,_⟩:=b6 i 0 hi iK;rw [←aa.1,Z]
   refine .one rfl (.br b off k l.length cap _ (λi j=>(w.cell? ⟨b,off+i*k+j,none⟩).getD undef) AQ S_ (λi j hi hj=>?_) (λi j hi hj=>?_) (λi j c hi hc=>?_))
   ·obtain⟨cs',Z,aa,ai⟩:=b6 i j hi hj;unfold sC;rw [ai,List.getElem?_eq_getElem (by omega)];rfl
   ·obtain⟨cs',Z,aa,ai⟩:=b6 i j hi hj;rw [ai,List.getElem?_eq_getElem (by omega)]
    exact aa.2.1 _ (List.getElem_mem _)
   ·have hj:j<k:=by rw [←S_ i hi];exact(List.getElem?_eq_some_iff.1 hc).1
    obtain⟨cs',Z,aa,ai⟩:=b6 i j hi hj;rw [ai,List.getElem?_eq_getElem (by omega)]
    exact aa.2.2 j _ c (List.getElem?_eq_getElem (by omega)) hc
end
section
variable {P:Program} {K:Ctx} {N E:Nat} {M:Mem} {β:Nat→Option Nat} {st bO:aD} {tmps:Array Value} {w:World}
mutual
def p_(r:Nat)(x:V):D→D
 |.v y=>.v y
 |.ptr q off=>bif Nat.beq q r&&Nat.beq off 0 then .eK x else .ptr q off
 |.ca q off u=>.ca q off u
 |.eK y=>.eK y
 |.full k n g=>.full k n g
 |.fn f cs=>.fn f (qa r x cs)
 |.agg cs=>.agg (qa r x cs)
 |.cm cs=>.cm (qa r x cs)
def qa(r:Nat)(x:V):List D→List D
 |[]=>[]
 |d::l=>p_ r x d::qa r x l
end
def EN(r:Nat)(x:V):∀(l:List D) (i:Nat),(qa r x l)[i]? = (l[i]?).map (p_ r x)
 |[],i=>by simp [qa]
 |d::l,0=>by simp [qa]
 |d::l,i+1=>by simp only [qa,List.getElem?_cons_succ];exact EN r x l i
def EO(r:Nat)(x:V):∀l:List D,(qa r x l).length=l.length
 |[]=>rfl
 |d::l=>by simp only [qa,List.length_cons,EO r x l]
def ce.n2{M':Mem}(cI:M.le M'){r b:Nat}{x:V}{u:Value}(hb:β r=some b)(hx:x.isAgg=false)(hu:M' b 0=some u)(Z:u.oneCell'=true)(ah:cU M' u x){v:Value}{d:D}(h:ce M β v d):ce M' β v (p_ r x d):=by
 induction h with
 |v u x h=>exact .v u x (h.mono cI)
 |ptr q off bp h=>
  simp only [p_];cases hc:Nat.beq q r&&Nat.beq off 0 with
  |false=>exact .ptr q off bp h
  |true=>
   simp only [Bool.and_eq_true,Nat.beq_eq]at hc;obtain⟨rfl,rfl⟩:=hc;rw [hb]at h;cases h;have w0:=wM hx;refine .eK b 0 x (λ_=>u) (λj hj=>?_) (λj hj=>Z) (λj c hc=>?_)
   ·rw [w0]at hj;simp at hj
    subst hj;exact hu
   ·rw [w0]at hc;cases j with
    |zero=>simp at hc;subst hc;exact ah
    |succ j=>simp at hc
 |ld q off t=>exact .ld q off t
 |ca q off bp t h=>exact .ca q off bp t h
 |eK b off x val hm Z h=>exact .eK b off x val (λj hj=>cI _ _ _ (hm j hj)) Z (λj c hc=>(h j c hc).mono cI)
 |full base k n get h=>exact .full base k n get (h.mono cI)
 |fn f vs cs hn _ aG=>
  simp only [p_];refine .fn f vs _ (by rw [EO];exact hn) λi v c an hc=>?_
  rw [EN]at hc;simp only [Option.map_eq_some_iff]at hc;obtain⟨c0,h0,rfl⟩:=hc;exact aG i v c0 an h0
 |agg vs cs hn Z _ aG=>
  simp only [p_];refine .agg vs _ (by rw [EO];exact hn) Z λi v c an hc=>?_
  rw [EN]at hc;simp only [Option.map_eq_some_iff]at hc;obtain⟨c0,h0,rfl⟩:=hc;exact aG i v c0 an h0
 |cm vs cs hn _ aG=>
  simp only [p_];refine .cm vs _ (by rw [EO];exact hn) λi v c an hc=>?_
  rw [EN]at hc;simp only [Option.map_eq_some_iff]at hc;obtain⟨c0,h0,rfl⟩:=hc;exact aG i v c0 an h0
def w_(r:Nat)(x:V)(e:aP):aP:={d:=p_ r x e.d,own:=e.own}
def EP(r:Nat)(x:V):List (Nat×aP)→List (Nat×aP)
 |[]=>[]
 |(t,e)::l=>(t,w_ r x e)::EP r x l
def EQ(r:Nat)(x:V):List (Nat×List aP)→List (Nat×List aP)
 |[]=>[]
 |(t,cs)::l=>(t,cs.map (w_ r x))::EQ r x l
def Ta(r:Nat)(x:V):∀(l:List (Nat×aP)) (s:Nat),look (EP r x l) s=(look l s).map (w_ r x)
 |[],s=>rfl
 |(t,e)::l,s=>by
  simp only [EP,dB];by_cases h:t=s
  ·simp [h]
  ·simp only [h,if_false];exact Ta r x l s
def Lm(r:Nat)(x:V):∀(l:List (Nat×List aP)) (s:Nat),look (EQ r x l) s=(look l s).map λcs=>cs.map (w_ r x)
 |[],s=>rfl
 |(t,cs)::l,s=>by
  simp only [EQ,dB];by_cases h:t=s
  ·simp [h]
  ·simp only [h,if_false];exact Lm r x l s
def sD(r:Nat)(x:V)(st:aD):aD:={env:=EP r x st.env,H:=EQ r x (del st.H r),aL:=st.aL}
def AR{r:Nat}{x:V}{l:Loc}{a':aP}(h:(sD r x st).at l=some a'):∃e,aD.at {env:=st.env,H:=del st.H r,aL:=st.aL} l=some e∧a'=w_ r x e:=by
 cases l with
 |slot s=>
  simp only [aD.at,sD,Ta,Option.map_eq_some_iff]at h ⊢;obtain⟨e,Z,aa⟩:=h;exact⟨e,Z,aa.symm⟩
 |cell q i=>
  simp only [aD.at,sD,Lm,Option.bind_eq_some_iff,Option.map_eq_some_iff]at h ⊢;obtain⟨cs,⟨kP,Z,rfl⟩,aa⟩:=h;rw [List.getElem?_map,Option.map_eq_some_iff]at aa;obtain⟨e,ai,ay⟩:=aa;exact⟨e,⟨kP,Z,ai⟩,ay.symm⟩
def acs{r:Nat}{x:V}{d:D}{q off:Nat}{u:TypeId}(h:p_ r x d = .ca q off u):d = .ca q off u:=by
 cases d<;>simp only [p_]at h
 case ptr q' o'=>cases hc:Nat.beq q' r&&Nat.beq o' 0<;>rw [hc]at h<;>cases h
 all_goals first|exact h|cases h
def bv.freeze(h:bv P K M β st tmps w){r:Nat}{x:V}{own:Option TypeId}(ah:look st.H r=some [⟨.v x,own⟩])(hx:x.isAgg=false):∃M',bv P K M' β (sD r x st) tmps w:=by
 obtain⟨b,vs,T,hb,bf,hlen,Tb,dw,iF,hlies⟩:=h.box r _ ah
 obtain⟨u,rfl⟩:∃u,vs=[u]:=by
  match vs,hlen with
  |[u],_=>exact⟨u,rfl⟩
 have ER:∀q cs,look (del st.H r) q=some cs→q≠r∧look st.H q=some cs:=by
  intro q cs al;rw [pT]at al;split at al
  ·cases al
  ·rename_i cW;exact⟨λe=>cW e.symm,al⟩
 have Z:bv P K M β {env:=st.env,H:=del st.H r,aL:=st.aL} tmps w:=h.sub rfl (λl e ab=>by
  cases l with
  |slot s=>exact⟨e,ab,rfl,λ_ h=>h⟩
  |cell q i=>
   simp only [aD.at,Option.bind_eq_some_iff]at ab ⊢;obtain⟨cs,aa,ai⟩:=ab;exact⟨e,⟨cs,(ER _ _ aa).2,ai⟩,rfl,λ_ h=>h⟩) (λq cs al=>⟨cs,(ER _ _ al).2,rfl⟩)
 have hle:M.le (iH M b 0 [u]):=J1 λo _=>Tb o
 have hO:iH M b 0 [u] b 0=some u:=by simp [iH]
 have aa:bv P K (iH M b 0 [u]) β {env:=st.env,H:=del st.H r,aL:=st.aL} tmps w:=by
  refine Z.free b dw (λq cs al act=>?_) (λl e T' ab az mA=>?_) (λ_ _ _=>rfl) hle (λbp o cW=>by simp [iH,cW]) (λo v an=>?_)
  ·obtain⟨ai,ay⟩:=ER _ _ al;exact ai (h.inj q r b _ _ ay ah act hb)
  ·have hl0:∃bN,st.at l=some bN∧bN.own=some T':=by
    cases l with
    |slot s=>exact⟨e,ab,az⟩
    |cell q i=>
     simp only [aD.at,Option.bind_eq_some_iff]at ab ⊢;obtain⟨cs,ai,ay⟩:=ab;exact⟨e,⟨cs,(ER _ _ ai).2,ay⟩,az⟩
   obtain⟨bN,ai,ay⟩:=hl0;exact h.unbox l bN T' b r _ ai ay mA ah hb
  ·rw [cell_of_heap bf];unfold iH at an;split at an
   ·rename_i hc;simpa using an
   ·rw [Tb o]at an;cases an
 have gm:cU (iH M b 0 [u]) u x:=by
  have ai:=h.e9 (.cell r 0) ⟨.v x,own⟩ (by rw [aD.JB ah];rfl)
  have ay:cb tmps w β (.cell r 0)=u:=by simp only [cb,hb,cell_of_heap bf];simp
  rw [ay]at ai;cases ai with
  |v _ _ aJ=>exact aJ.mono hle
 refine⟨iH M b 0 [u],?_⟩
 have tO:∀q cs',look (sD r x st).H q=some cs'→∃cs,look (del st.H r) q=some cs∧cs'=cs.map (w_ r x):=by
  intro q cs' al;simp only [sD,Lm,Option.map_eq_some_iff]at al;obtain⟨cs,ai,ay⟩:=al;exact⟨cs,ai,ay.symm⟩
 constructor
 ·intro l a' ab;obtain⟨e,ai,rfl⟩:=AR ab;exact(aa.e9 l e ai).n2 (Mem.le_refl _) hb hx hO (iF u (by simp)) gm
 ·intro l a' T' ab az;obtain⟨e,ai,rfl⟩:=AR ab;exact aa.own l e T' ai az
 ·intro l co e a' T' acu bp ab az dj dI;obtain⟨e1,ai,rfl⟩:=AR ab;obtain⟨e2,ay,rfl⟩:=AR dj;exact aa.uniq l co e1 e2 T' acu bp ai az ay dI
 ·intro l e T' bp q cs ab az mA al;obtain⟨e1,ai,rfl⟩:=AR ab;obtain⟨kP,ay,_⟩:=tO q cs al;exact aa.unbox l e1 T' bp q kP ai az mA ay
 ·intro q cs al;obtain⟨kP,ay,rfl⟩:=tO q cs al;obtain⟨bp,vs',T',g1,g2,g3,g4,g5,g6,g7⟩:=aa.box q kP ay;refine⟨bp,vs',T',g1,g2,by simpa using g3,g4,g5,g6,λe he q' off t hd=>?_⟩
  obtain⟨bN,JF,rfl⟩:=List.mem_map.1 he;exact g7 bN JF q' off t (acs hd)
 ·intro q q' bp cs cs' al o0 cO fc;obtain⟨c1,ai,_⟩:=tO q cs al;obtain⟨c2,ay,_⟩:=tO q' cs' o0;exact aa.inj q q' bp c1 c2 ai ay cO fc
 ·exact aa.lt
 ·exact aa.mem
 ·exact aa.m0
 ·exact aa.frame
 ·exact aa.ie
 ·exact aa.iR
 ·exact aa.hE
def AS(H:List (Nat×List aP))(r:Nat):Option V:=
 match look H r with
 |some [⟨.v x,_⟩]=>bif x.isAgg then none else some x
 |_=>none
def aV.freeze{c:Code}{Q:b'→aD→Prop}(r:Nat)(x:V)(ah:AS st.H r=some x)(h:aV P N E c Q (sD r x st)):aV P N E c Q st:=by
 rintro K ei a w ⟨he,hd,dW,M,β,cw⟩
 unfold AS at ah;split at ah
 ·rename_i y own ab;rw [Bool.cond_eq_ite]at ah;split at ah
  ·cases ah
  ·rename_i hx;cases ah;obtain⟨M',hs⟩:=cw.freeze ab (by simpa using hx)
   exact h K ei a w ⟨he,hd,dW,M',β,hs⟩
 ·cases ah
def AT(r:Nat)(st:aD):aD:=match AS st.H r with
 |some x=>sD r x st
 |none=>st
def Ln(r:Nat)(Q:b'→aD→Prop):b'→aD→Prop
 |.normal,st=>Q .normal (AT r st)
 |.ret,st=>Q .ret (AT r st)
 |e,st=>Q e st
def Tc{K:Ctx}{M:Mem}{β:Nat→Option Nat}{tmps:Array Value}{w:World}(r:Nat)(h:bv P K M β st tmps w):∃M',bv P K M' β (AT r st) tmps w:=by
 unfold AT;cases hx:AS st.H r with
 |none=>exact⟨M,h⟩
 |some x=>
  unfold AS at hx;split at hx
  ·rename_i y own ab;rw [Bool.cond_eq_ite]at hx;split at hx
   ·cases hx
   ·rename_i acv;cases hx;exact h.freeze ab (by simpa using acv)
  ·cases hx
def aV.n2{x:Code}{Q:b'→aD→Prop}(r:Nat)(h:aV P N E x (Ln r Q) st):aV P N E x Q st:=by
 intro K ei a w hs;refine wp_mono (h K ei a w hs) ?_
 rintro e dD w' ⟨fm,bO,Z,aa⟩
 cases fm with
 |normal=>
  obtain⟨g1,g2,g3,M,β,g4⟩:=Z;obtain⟨M',g5⟩:=Tc r g4;exact⟨.normal,_,⟨g1,g2,g3,M',β,g5⟩,aa⟩
 |ret=>
  obtain⟨g1,g2,g3,M,β,g4⟩:=Z;obtain⟨M',g5⟩:=Tc r g4;exact⟨.ret,_,⟨g1,g2,g3,M',β,g5⟩,aa⟩
 |exit i=>exact⟨.exit i,bO,Z,aa⟩
 |a8 x=>exact⟨.a8 x,bO,Z,aa⟩
def AU(s e:aP):aP:=match s.own with|none=>{d:=e.d} |some _=>e
def xa:List (Nat×aP)→List (Nat×aP)→List (Nat×aP)
 |(_,s)::l,(t,e)::m=>(t,AU s e)::xa l m
 |_,m=>m
def nD:List aP→List aP→List aP
 |s::l,e::m=>AU s e::nD l m
 |_,m=>m
def xb:List (Nat×List aP)→List (Nat×List aP)→List (Nat×List aP)
 |(_,s)::l,(t,cs)::m=>(t,nD s cs)::xb l m
 |_,m=>m
def fit(s st:aD):aD:={env:=xa s.env st.env,H:=xb s.H st.H,aL:=st.aL}
def ES(s e:aP):(AU s e).d=e.d∧∀T,(AU s e).own=some T→e.own=some T:=by
 unfold AU;split
 ·exact⟨rfl,λT h=>by cases h⟩
 ·exact⟨rfl,λT h=>h⟩
def Td:∀(l m:List (Nat×aP)) (t:Nat) (a':aP),look (xa l m) t=some a'→∃e,look m t=some e∧e.d=a'.d∧∀T,a'.own=some T→e.own=some T
 |[],m,t,a',h=>⟨a',by simpa [xa]using h,rfl,λ_ h=>h⟩
 |(a,s)::l,[],t,a',h=>by simp [xa,look]at h
 |(a,s)::l,(q,e)::m,t,a',h=>by
  simp only [xa,dB]at h ⊢;split at h
  ·rename_i al;rw [if_pos al];cases h;exact⟨e,rfl,(ES s e).1.symm,(ES s e).2⟩
  ·rename_i al;rw [if_neg al];exact Td l m t a' h
def Te:∀(l m:List aP) (i:Nat) (a':aP),(nD l m)[i]? = some a'→∃e,m[i]? = some e∧e.d=a'.d∧∀T,a'.own=some T→e.own=some T
 |[],m,i,a',h=>⟨a',by simpa [nD]using h,rfl,λ_ h=>h⟩
 |s::l,[],i,a',h=>by simp [nD]at h
 |s::l,e::m,0,a',h=>by
  simp only [nD,List.getElem?_cons_zero,Option.some.injEq]at h;subst h;exact⟨e,rfl,(ES s e).1.symm,(ES s e).2⟩
 |s::l,e::m,i+1,a',h=>by
  simp only [nD,List.getElem?_cons_succ]at h ⊢;exact Te l m i a' h
def Tf:∀l m:List aP,(nD l m).length=m.length
 |[],m=>by simp [nD]
 |s::l,[]=>by simp [nD]
 |s::l,e::m=>by simp only [nD,List.length_cons,Tf l m]
def Lo:∀(l m:List (Nat×List aP)) (t:Nat) (cs':List aP),look (xb l m) t=some cs'→∃cs s,look m t=some cs∧cs'=nD s cs
 |[],m,t,cs',h=>⟨cs',[],by simpa [xb]using h,by simp [nD]⟩
 |(a,s)::l,[],t,cs',h=>by simp [xb,look]at h
 |(a,s)::l,(q,cs)::m,t,cs',h=>by
  simp only [xb,dB]at h ⊢;split at h
  ·rename_i al;rw [if_pos al];cases h;exact⟨cs,s,rfl,rfl⟩
  ·rename_i al;rw [if_neg al];exact Lo l m t cs' h
def bv.fit(h:bv P K M β st tmps w)(s:aD):bv P K M β (fit s st) tmps w:=
 h.sub rfl (λl a' ab=>by
  cases l with
  |slot t=>exact Td _ _ _ _ ab
  |cell q i=>
   simp only [aD.at,Ab.fit,Option.bind_eq_some_iff]at ab;obtain⟨cs',Z,aa⟩:=ab;obtain⟨cs,z,ai,rfl⟩:=Lo _ _ _ _ Z;obtain⟨e,ay,aJ⟩:=Te _ _ _ _ aa;exact⟨e,by simp only [aD.at,ai,Option.bind_some];exact ay,aJ⟩) (λq cs' al=>by
   obtain⟨cs,z,ai,rfl⟩:=Lo _ _ _ _ al;exact⟨cs,ai,(Tf _ _).symm⟩)
def aV.fit{c:Code}{Q:b'→aD→Prop}(s:aD)(h:aV P N E c Q (Ab.fit s st)):aV P N E c Q st:=by
 rintro K ei a w ⟨he,hd,dW,M,β,cw⟩
 exact h K ei a w ⟨he,hd,dW,M,β,cw.fit s⟩
def aV.qb{c:Code}{Q:b'→aD→Prop}(s:aD)(live wI:List Nat)(n:Nat)(ah:(tN live wI n st.env st.H st.aL).map (Ab.fit s)=some bO)(bH:Nat.ble E n=true)(h:aV P N E c Q bO):aV P N E c Q st:=by
 simp only [Option.map_eq_some_iff]at ah;obtain⟨amt,Z,rfl⟩:=ah;exact aV.drop live wI n Z bH (h.fit s)
def forget(nE:List Nat):List (Nat×aP)→List (Nat×aP)
 |[]=>[]
 |(t,e)::l=>(t,bif nE.any (Nat.beq t)then {d:=e.d}else e)::forget nE l
def Tg(nE:List Nat):∀(m:List (Nat×aP)) (t:Nat) (a':aP),look (forget nE m) t=some a'→∃e,look m t=some e∧e.d=a'.d∧∀T,a'.own=some T→e.own=some T
 |[],t,a',h=>by simp [forget,look]at h
 |(q,e)::m,t,a',h=>by
  simp only [forget,dB]at h ⊢;split at h
  ·rename_i al;rw [if_pos al];cases h;refine⟨e,rfl,?_⟩
   cases nE.any (Nat.beq q)
   ·exact⟨rfl,λ_ h=>h⟩
   ·exact⟨rfl,λT h=>by cases h⟩
  ·rename_i al;rw [if_neg al];exact Tg nE m t a' h
def aV.forget{c:Code}{Q:b'→aD→Prop}(nE:List Nat)(h:aV P N E c Q {env:=Ab.forget nE st.env,H:=st.H,aL:=st.aL}):aV P N E c Q st:=by
 rintro K ei a w ⟨he,hd,dW,M,β,cw⟩
 refine h K ei a w ⟨he,hd,dW,M,β,cw.sub rfl (λl a' ab=>?_) (λq cs al=>⟨cs,al,rfl⟩)⟩
 cases l with
 |slot t=>exact Tg _ _ _ _ ab
 |cell q i=>exact⟨a',ab,rfl,λ_ h=>h⟩
end
end Go.Ab

/- The abstract machine: a step of code over plain data, proved against the model. -/
import Derived.Orders
import Derived.Scope
import Derived.Recover
import Derived.Lib.Builder
import Derived.Lib.UnsafeStr
import Derived.ChangeSame
import Derived.OpenShut
import Derived.ReadAgain
import Derived.Test.YtcjbfnojhpfchaaGreatDoorMachB
set_option linter.all false
namespace Go.Ab
def ll:List Prop→Prop
 |[]=>True
 |p::l=>p∧ll l
def ll.mem:∀{l:List Prop},ll l→∀q,q∈l→q
 |[],_,q,h=>by cases h
 |p::l,hp,q,h=>by
  rcases List.mem_cons.1 h with rfl|h
  ·exact hp.1
  ·exact ll.mem hp.2 q h
section
variable {P:Program} {N E:Nat} {st:aO} {tt:dT}
def bd.cut{x y:Code}{Q:cu→aO→Prop}(J:aO→Prop)(Z:bd P N E x (cu.then J Q) st)(ab:∀b_,J b_→bd P N E y Q b_):bd P N E (.seq x y) Q st:=
 bd.seq (Z.mono λfJ b_ h=>by cases fJ<;>first|exact ab b_ h|exact h)
def cu.o_{next:aO→Prop}{Q:cu→aO→Prop}(h:next st):cu.then next Q .normal st:=h
def cu.W5{next:aO→Prop}{Q:cu→aO→Prop}{x:V}(h:Q (.aK x) st):cu.then next Q (.aK x) st:=h
def cu.af7{Q:cu→aO→Prop}{i:Nat}(h:Q .normal st):cu.inBlock i Q (.exit i) st:=by simpa [cu.inBlock]using h
def cu.af8{Q:cu→aO→Prop}{i j:Nat}(dQ:Nat.beq j i=false)(h:Q (.exit j) st):cu.inBlock i Q (.exit j) st:=by
 have:j≠i:=by rintro rfl;simp at dQ
 simpa [cu.inBlock,this]using h
def af9 {f : FuncId} {fn : Func} {c : Code} {args : List D} {et : List (Nat × TypeId)} {H cS : List (List a')} {out : Out} (cF : fH P tt = true) (b5 : P.funcs[f]? = some fn) (hb : fn.body = some c) (j_ : decide (fn.name = "runtime.NumGoroutine") = false)
 (e7:Nat.ble args.length fn.ntmps=true) (h:bd P fn.ntmps H.length c (tU tt H.length fn.results.toList λo b0=>o=out∧b0=cS) {env:=h2 args et,H:=cZ 0 H,aZ:=H.length}):hq P f args et H out cS:=
 qX.of_wp cF b5 hb j_ e7 h
def af'{rs:List ResultVar}{out:Out}{cS:List (List a')}(h:leave tt E rs st=some (out,cS)):tU tt E rs (λo b0=>o=out∧b0=cS) .ret st:=⟨out,cS,h,rfl,rfl⟩
def Ox{rs:List ResultVar}{out:Out}{cS:List (List a')}(h:leave tt E rs st=some (out,cS)):tU tt E rs (λo b0=>o=out∧b0=cS) .normal st:=⟨out,cS,h,rfl,rfl⟩
def af_{rs:List ResultVar}{x:V}{cS:List (List a')}(h:(Hg E st.H).map oh=some cS):tU tt E rs (λo b0=>o = .aK x∧b0=cS) (.aK x) st:=by
 rw [Option.map_eq_some_iff]at h;obtain⟨b0,Z,ab⟩:=h;exact⟨b0,Z,rfl,ab⟩
end
def av{α:Type}(b:Bool)(x:Option α):Option α:=bif b then x else none
def sj{α:Type}{b:Bool}{x:Option α}{r:α}(h:av b x=some r):b=true∧x=some r:=by
 cases b
 ·cases h
 ·exact⟨rfl,h⟩
def bind_some{α β:Type}{x:Option α}{f:α→Option β}{r:β}(h:Option.bind x f=some r):∃a,x=some a∧f a=some r:=Option.bind_eq_some_iff.1 h
def c'{α:Type}{b:Bool}{x y z:α}(hb:b=true)(h:(bif b then x else y)=z):x=z:=by subst hb;exact h
def fM{c x:Bool}(h:(!c||x)=true)(hc:c=true):x=true:=by subst hc;simpa using h
def ey{c x:Bool}(h:(c||x)=true)(hc:c=false):x=true:=by subst hc;simpa using h
def ag{α:Type}[Inhabited α](k:Nat)(e:α→V)(l:List α):V:=.bS k l.length λi=>e (l.getD i default)
def ig(x:V):hC x x:=λ_ _ h=>h
def q3{k n:Nat}{g e6:Nat→V}(h:∀i,i<n→g i=e6 i):hC (.bS k n g) (.bS k n e6):=by
 intro M v ax;cases ax with
 |mP=>exact .mP _ _
 |qL=>exact .qL _ _ _
 |bS b off k n cap g val hc hk c8 Z ai=>
  exact .bS b off k n cap e6 val hc (λi hi=>by rw [←h i hi];exact hk i hi) c8 Z (λi j c hi l7=>ai i j c hi (by rw [h i hi];exact l7))
def aga{α:Type}[Inhabited α]{k:Nat}{e:α→V}{xs:List V}{l:List α}(h:xs=l.map e)(n:Nat)(hn:n=l.length):hC (.bS k n λi=>xs.getD i .eC) (ag k e l):=by
 subst h;subst hn;refine q3 λi hi=>?_
 simp [List.getD,List.getElem?_eq_getElem hi]
def gi{α:Type}[Inhabited α]{k:Nat}{e:α→V}(l my:List α):hC (.bS k (l.length+my.length) λi=>bif Nat.blt i l.length then e (l.getD i default)else e (my.getD (i-l.length) default)) (ag k e (l++my)):=by
 rw [ag,List.length_append];refine q3 λi hi=>?_
 by_cases h:i<l.length
 ·have hb:Nat.blt i l.length=true:=by simpa using h
  simp [hb,List.getD,List.getElem?_append_left h]
 ·have hb:Nat.blt i l.length=false:=by rw [Bool.eq_false_iff];simpa using h
  simp [hb,List.getD,List.getElem?_append_right (Nat.le_of_not_lt h)]
def W6(l:List Int)(s:arY):hC (.bS 1 (l.length+s.length) λi=>bif Nat.blt i l.length then .int .u8 (l.getD i default)else .int .u8 (s.getD (i-l.length) 0).toNat) (ag 1 (λx=>.int .u8 x) (l++s.map λb=>(b.toNat:Int))):=by
 have ae:(l++s.map λb=>(b.toNat:Int)).length=l.length+s.length:=by simp
 rw [ag,ae];refine q3 λi hi=>?_
 by_cases h:i<l.length
 ·have hb:Nat.blt i l.length=true:=by simpa using h
  simp [hb,List.getD,List.getElem?_append_left h]
 ·have hb:Nat.blt i l.length=false:=by rw [Bool.eq_false_iff];simpa using h
  have ab:i-l.length<s.length:=by omega
  simp [hb,List.getD,List.getElem?_append_right (Nat.le_of_not_lt h),ab]
def W7{α:Type}[Inhabited α]{k:Nat}{e:α→V}(l:List α)(b:Int)(h:0≤b∧b≤l.length):hC (.bS k b.toNat λi=>e (l.getD i default)) (ag k e (l.take b.toNat)):=by
 have:(l.take b.toNat).length=b.toNat:=by simp;omega
 rw [ag,this];exact q3 λi hi=>by simp [List.getD,hi]
section
variable {P:Program} {N E:Nat} {st b_:aO}
def bd.drop{c:Code}{Q:cu→aO→Prop}(live yl:List Nat)(n:Nat)(ai:vw live yl n st.env st.H st.aZ=some b_)(b3:Nat.ble E n=true)(h:bd P N E c Q b_):bd P N E c Q st:=by
 rintro K eI a w ⟨he,hd,ew,M,β,cT⟩
 obtain⟨Cm,hs⟩:=cT.vw ai (λr b hb=>Nat.lt_of_lt_of_le (eI r b hb) (by simpa using b3))
 exact h K eI a w ⟨he,hd,ew,M,Cm,hs⟩
end
def all_nil:ll []:=trivial
def all_cons{p:Prop}{l:List Prop}(h:p)(ae:ll l):ll (p::l):=⟨h,ae⟩
inductive aC(α β:Type) where
 |ret (a:α) (b:β)
 |aK (x:V) (b:β)
def aC.on{α β dq:Type}(x:aC α β)(f:α→β→dq)(g:V→β→dq):dq:=
 match x with
 |.ret a b=>f a b
 |.aK x b=>g x b
def gx{b:Bool}(h:b=false):(!b)=true:=by subst h;rfl
def yI{a b:Bool}(h:a=true)(ab:b=true):(a&&b)=true:=by subst h;subst ab;rfl
inductive lm:List V→List V→Prop where
 |nil:lm [] []
 |cons {x y:V} {xs ys:List V} (h:hC x y) (ae:lm xs ys):lm (x::xs) (y::ys)
def lm.len:∀{xs ys:List V},lm xs ys→xs.length=ys.length
 |_,_,.nil=>rfl
 |_,_,.cons _ ae=>by simp [ae.len]
def lm.at:∀{xs ys:List V},lm xs ys→∀(i:Nat) {y:V},ys[i]? = some y→∃x,xs[i]? = some x∧hC x y
 |_,_,.nil,i,y,h=>by simp at h
 |_,_,.cons h ae,i,y,ck=>by
  cases i with
  |zero=>simp at ck;subst ck;exact⟨_,rfl,h⟩
  |succ i=>simp at ck;simpa using ae.at i ck
def W8{xs ys:List V}(h:lm xs ys):hC (.agg xs) (.agg ys):=by
 intro M v ax;cases ax with
 |agg vs cs hn Z ai=>
  refine .agg vs ys (hn.trans h.len) Z (λi v c ax hc=>?_)
  obtain⟨x,hx,hi⟩:=h.at i hc;exact hi M v (ai i v x ax hx)
def agb{k n:Nat}{g e6:Nat→V}(h:∀i,i<n→lm (g i).cells (e6 i).cells):hC (.bS k n g) (.bS k n e6):=by
 intro M v ax;cases ax with
 |mP=>exact .mP _ _
 |qL=>exact .qL _ _ _
 |bS b off k n cap g val hc hk c8 Z ai=>
  refine .bS b off k n cap e6 val hc (λi hi=>by rw [←(h i hi).len];exact hk i hi) c8 Z (λi j c hi l7=>?_)
  obtain⟨x,hx,agc⟩:=(h i hi).at j l7;exact agc M _ (ai i j x hi hx)
inductive iI{α:Type}(e:α→V):List V→List α→Prop where
 |nil:iI e [] []
 |cons {x:V} {y:α} {xs:List V} {ys:List α} (h:lm x.cells (e y).cells) (ae:iI e xs ys):iI e (x::xs) (y::ys)
def iI.len{α:Type}{e:α→V}:∀{xs:List V} {ys:List α},iI e xs ys→xs.length=ys.length
 |_,_,.nil=>rfl
 |_,_,.cons _ ae=>by simp [ae.len]
def iI.at{α:Type}[Inhabited α]{e:α→V}:∀{xs:List V} {ys:List α},iI e xs ys→∀(i:Nat),i<ys.length→lm (xs.getD i .eC).cells (e (ys.getD i default)).cells
 |_,_,.nil,i,h=>by simp at h
 |_,_,.cons h ae,i,ck=>by
  cases i with
  |zero=>simpa using h
  |succ i=>simpa using ae.at i (by simpa using ck)
def tV{α:Type}[Inhabited α]{k:Nat}{e:α→V}{xs:List V}{l:List α}(h:iI e xs l)(n:Nat)(hn:n=l.length):hC (.bS k n λi=>xs.getD i .eC) (ag k e l):=by
 subst hn;exact agb λi hi=>h.at i hi
section
variable {tt:dT} {g1 g2:dz} {p:Path} {o:Oper} {ops:List Oper} {co:gL}
def Oy{x:Operand}(h:∀t,x = .tmp t→look g1.env t=look g2.env t∧look g1.ca t=look g2.ca t)(p:Path)(ty:TypeId):rd g1.env g1.ca p tt ty x=rd g2.env g2.ca p tt ty x:=by
 cases x with
 |tmp t=>
  obtain⟨Z,ab⟩:=h t rfl;simp only [rd,Z,ab]
 |const v=>cases v with
  |slice a n c=>cases a<;>cases n<;>cases c<;>rfl
  |_=>rfl
 |global _=>rfl
 |func _=>rfl
def agd{x:Operand}(h:∀t,x = .tmp t→look g1.env t=look g2.env t):pP g1 x=pP g2 x:=by
 cases x with
 |tmp t=>simp only [pP,h t rfl]
 |_=>rfl
def Co{α β:Type}{f tW:α→Option β}:∀{l:List α},(∀x,x∈l→f x=tW x)→mapM' f l=mapM' tW l
 |[],_=>rfl
 |x::l,h=>by simp only [mapM',h x (by simp),Co (l:=l) λy ck=>h y (by simp [ck])]
def Oz{f tW:TypeId→Operand→Option D}:∀{l:List Operand} {ts:List TypeId},(∀x,x∈l→∀t,f t x=tW t x)→l5 f l ts=l5 tW l ts
 |[],_,_=>by simp [l5]
 |x::l,[],_=>by simp [l5]
 |x::l,t::ts,h=>by simp only [l5,h x (by simp) t,Oz (l:=l) (ts:=ts) λy ck=>h y (by simp [ck])]
def jg(tt:dT)(g:dz)(p:Path)(o:Oper):List Nat:=
 match o.op with
 |.alloc _ |.box _ _=>match o.dst.bind (look g.ids)with |some id=>[id] |none=>[]
 |.load _ a=>match rd g.env g.ca p tt o.type a with |some (.ptr q _)=>[q] |_=>[]
 |.store _ a _=>match rd g.env g.ca p tt o.type a with |some (.ptr q _)=>[q] |_=>[]
 |.call c=>match c.callee with
  |.value x=>match rd g.env g.ca p tt o.type x,l5 (rd g.env g.ca p tt) c.args.toList c.argTypes.toList with
   |some (.fn _ fh),some ds=>oZ g.H 2 (dedup ((ds++fh).flatMap refs))
   |_,_=>[]
  |_=>[]
 |_=>[]
def Hi{x:Nat}:∀{l:List Nat},x∈l→x∈dedup l
 |y::l,h=>by
  simp only [dedup];rw [Bool.cond_eq_ite];split
  ·rename_i ck;rcases List.mem_cons.1 h with rfl|h
   ·obtain⟨z,cX,age⟩:=List.any_eq_true.1 ck;have:x=z:=by simpa using age
    subst this;exact cX
   ·exact Hi h
  ·rcases List.mem_cons.1 h with rfl|h
   ·simp
   ·exact List.mem_cons_of_mem _ (Hi h)
def W9{H:List (Nat×List a')}:∀{n:Nat} {l:List Nat} {x:Nat},x∈l→x∈oZ H n l
 | 0,_,_,h=>h
 |n+1,_,_,h=>W9 (n:=n) (Hi (List.mem_append_left _ h))
def W'{α β:Type}{f tW:α→List β}:∀{l:List α},(∀x,x∈l→f x=tW x)→l.flatMap f=l.flatMap tW
 |[],_=>rfl
 |x::l,h=>by simp only [List.flatMap_cons,h x (by simp),W' (l:=l) λy ck=>h y (by simp [ck])]
def OA{H1 cS:List (Nat×List a')}:∀{n:Nat} {l:List Nat},(∀q,q∈oZ H1 n l→look H1 q=look cS q)→oZ H1 n l=oZ cS n l
 | 0,_,_=>rfl
 |n+1,l,h=>by
  simp only [oZ]at h ⊢
  have:(l.flatMap λr=>((look H1 r).getD []).flatMap λe=>refs e.d)=l.flatMap λr=>((look cS r).getD []).flatMap λe=>refs e.d:=
   W' λr ai=>by rw [h r (W9 (Hi (List.mem_append_left _ ai)))]
  rw [←this];exact OA h
def W_{H1 cS:List (Nat×List a')}:∀{l:List Nat},(∀q,q∈l→look H1 q=look cS q)→boxes H1 l=boxes cS l
 |[],_=>rfl
 |r::l,h=>by simp only [boxes,h r (by simp),W_ (l:=l) λq ao=>h q (by simp [ao])]
def Xa{xs:List Operand}{ts:List TypeId}(hs:∀t,Operand.tmp t∈xs→look g1.env t=look g2.env t∧look g1.ca t=look g2.ca t):∀os:List Nat,handed tt g1 xs ts os=handed tt g2 xs ts os
 |[]=>rfl
 |i::os=>by
  simp only [handed,Xa hs os];split
  ·rename_i t l hx ae;obtain⟨Z,ab⟩:=hs t (List.mem_of_getElem? hx);rw [Z,ab]
  ·rfl
  ·rfl
def agf{xs:List Operand}{ts:List TypeId}{f:FuncId}{args:List D}(hs:∀t,Operand.tmp t∈xs→look g1.env t=look g2.env t∧look g1.ca t=look g2.ca t)(eZ:g1.rs=g2.rs)(fq:∀q,q∈oZ g1.H 2 (dedup (args.flatMap refs))→look g1.H q=look g2.H q):ye co tt g1 p xs ts f args=ye co tt g2 p xs ts f args:=by
 have Z:oZ g1.H 2 (dedup (args.flatMap refs))=oZ g2.H 2 (dedup (args.flatMap refs)):=OA fq;unfold ye;simp only [←Z,←eZ,←W_ fq,←λos=>Xa (tt:=tt) (ts:=ts) hs os]
def q4(o:Oper):Bool:=
 match o.op with
 |.alloc _ |.box _ _=>true
 |_=>false
def Xb(q5:g1.ids=g2.ids)(hn:g1.aZ=g2.aZ)(fq:∀id,o.dst.bind (look g1.ids)=some id→look g1.H id=look g2.H id):n8 g1 o=n8 g2 o:=by
 unfold n8;rw [←q5,←hn];split
 ·rename_i id h;rw [fq id h]
 ·rfl
def OB(hs:∀x,x∈o.op.operands.toList→∀t,x = .tmp t→look g1.env t=look g2.env t∧look g1.ca t=look g2.ca t)(eZ:g1.rs=g2.rs)(q5:g1.ids=g2.ids)
 (hn:q4 o=true→g1.aZ=g2.aZ) (fq:∀q,q∈jg tt g1 p o→look g1.H q=look g2.H q):step1 co tt ops g1 p o=step1 co tt ops g2 p o:=by
 have R:∀x,x∈o.op.operands.toList→∀p ty,rd g1.env g1.ca p tt ty x=rd g2.env g2.ca p tt ty x:=λx hx p ty=>Oy (hs x hx) p ty
 have O:∀x,x∈o.op.operands.toList→pP g1 x=pP g2 x:=λx hx=>agd λt aA=>(hs x hx t aA).1
 cases aw:o.op with
 |move x=>simp only [aw,Op.operands]at R O;simp only [step1,aw,R x (by simp),O x (by simp),eZ]
 |assign x=>simp only [aw,Op.operands]at R O;simp only [step1,aw,R x (by simp),O x (by simp),eZ]
 |pick c a b=>
  simp only [aw,Op.operands]at R O;cases c with
  |tmp c=>simp only [step1,aw,R (.tmp c) (by simp),R a (by simp),R b (by simp),eZ]
  |_=>simp only [step1,aw]
 |alloc t=>
  have hi:n8 g1 o=n8 g2 o:=Xb q5 (hn (by simp [q4,aw])) λid hid=>fq id (by simp [jg,aw,hid])
  simp only [step1,aw,eZ,hi]
 |box t x=>
  have hi:n8 g1 o=n8 g2 o:=Xb q5 (hn (by simp [q4,aw])) λid hid=>fq id (by simp [jg,aw,hid])
  simp only [aw,Op.operands]at R O;simp only [step1,aw,R x (by simp),eZ,hi]
 |build t parts=>
  simp only [aw,Op.operands]at R O
  have:mapM' (fun(i,x)=>(rd g1.env g1.ca p tt (rW tt t i) x).map λd=>(i,d)) parts.toList=mapM' (fun(i,x)=>(rd g2.env g2.ca p tt (rW tt t i) x).map λd=>(i,d)) parts.toList:=
   Co λy ck=>by
    obtain⟨i,x⟩:=y;simp only [R x (List.mem_map.2 ⟨(i,x),ck,rfl⟩)]
  simp only [step1,aw,this,eZ]
 |buildSlice t len parts=>
  simp only [aw,Op.operands]at R O
  have:mapM' (fun(i,x)=>(rd g1.env g1.ca p tt (rW tt t i) x).map λd=>(i,d)) parts.toList=mapM' (fun(i,x)=>(rd g2.env g2.ca p tt (rW tt t i) x).map λd=>(i,d)) parts.toList:=
   Co λy ck=>by
    obtain⟨i,x⟩:=y;simp only [R x (List.mem_map.2 ⟨(i,x),ck,rfl⟩)]
  simp only [step1,aw,this,eZ]
 |load t a=>
  simp only [aw,Op.operands]at R O;simp only [jg,aw,R a (by simp)]at fq
  simp only [step1,aw,R a (by simp),eZ]
  split
  ·rename_i q off aU ha G8;simp only [ha]at fq;simp only [fq q (by simp)]
  ·rfl
  ·rfl
 |store t a x=>
  simp only [aw,Op.operands]at R O;simp only [jg,aw,R a (by simp)]at fq
  simp only [step1,aw,R a (by simp),R x (by simp),O x (by simp),eZ]
  split
  ·rename_i q off d aU ha hd G8;simp only [ha]at fq;simp only [fq q (by simp)]
  ·rfl
 |nilCheck x=>simp only [aw,Op.operands]at R O;simp only [step1,aw,R x (by simp),eZ]
 |binOp op t x y t2=>simp only [aw,Op.operands]at R O;simp only [step1,aw,R x (by simp),R y (by simp),eZ]
 |unOp op t x=>simp only [aw,Op.operands]at R O;simp only [step1,aw,R x (by simp),eZ]
 |convert s t x=>simp only [aw,Op.operands]at R O;simp only [step1,aw,R x (by simp),eZ]
 |makeInterface t x=>simp only [aw,Op.operands]at R O;simp only [step1,aw,R x (by simp),eZ]
 |makeFunc fn first fh=>
  simp only [aw,Op.operands]at R O;cases fn with
  |func f=>
   have:mapM' (rd g1.env g1.ca p tt o.type) fh.toList=mapM' (rd g2.env g2.ca p tt o.type) fh.toList:=Co λx hx=>R x (by rw [Array.toList_append];exact List.mem_append_right _ hx) _ _
   simp only [step1,aw,this,eZ]
  |_=>simp only [step1,aw]
 |slice t x lo hi kt=>
  simp only [aw,Op.operands]at R O
  have kz:lo.map (rd g1.env g1.ca p tt o.type)=lo.map (rd g2.env g2.ca p tt o.type):=by
   cases lo with
   |none=>rfl
   |some l=>simp [R l (by simp)]
  have jJ:hi.map (rd g1.env g1.ca p tt o.type)=hi.map (rd g2.env g2.ca p tt o.type):=by
   cases hi with
   |none=>rfl
   |some l=>simp [R l (by simp)]
  have OC:kt.map (rd g1.env g1.ca p tt o.type)=kt.map (rd g2.env g2.ca p tt o.type):=by
   cases kt with
   |none=>rfl
   |some m=>simp [R m (by simp)]
  simp only [step1,aw,R x (by simp),kz,jJ,OC,eZ]
 |fieldAddr s x f=>simp only [aw,Op.operands]at R O;simp only [step1,aw,R x (by simp),eZ]
 |field s x f=>simp only [aw,Op.operands]at R O;simp only [step1,aw,R x (by simp),eZ]
 |indexAddr t x i=>simp only [aw,Op.operands]at R O;simp only [step1,aw,R x (by simp),R i (by simp),eZ]
 |index t x i=>simp only [aw,Op.operands]at R O;simp only [step1,aw,R x (by simp),R i (by simp),eZ]
 |typeAssert x a t ok=>simp only [aw,Op.operands]at R O;simp only [step1,aw,R x (by simp),eZ]
 |extract x i=>simp only [aw,Op.operands]at R O;simp only [step1,aw,R x (by simp),eZ]
 |panic x=>simp only [aw,Op.operands]at R O;simp only [step1,aw,R x (by simp)]
 |call c=>
  simp only [aw,Op.operands,Call.operands]at R O hs;cases hc:c.callee with
  |value x=>
   have hx:=R x (by simp [hc])
   have ha:l5 (rd g1.env g1.ca p tt) c.args.toList c.argTypes.toList=l5 (rd g2.env g2.ca p tt) c.args.toList c.argTypes.toList:=Oz λy ck t=>R y (by rw [Array.toList_append];exact List.mem_append_right _ ck) p t
   simp only [jg,aw,hc,hx,ha]at fq;simp only [step1,aw,hc,hx,ha];split
   ·rename_i f fh ds Z ab;simp only [Z,ab]at fq;exact agf (λt aA=>hs (.tmp t) (by rw [Array.toList_append];exact List.mem_append_right _ aA) t rfl) eZ fq
   ·rfl
  |invoke x m=>simp only [step1,aw,hc]
  |builtin b=>
   have ha:mapM' (λy=>rd g1.env g1.ca p tt o.type y) c.args.toList=mapM' (λy=>rd g2.env g2.ca p tt o.type y) c.args.toList:=Co λx hx=>R x (by rw [Array.toList_append];exact List.mem_append_right _ hx) _ _
   cases b with
   |len=>simp only [step1,aw,hc,ha,eZ]
   |min=>simp only [step1,aw,hc,ha,eZ]
   |max=>simp only [step1,aw,hc,ha,eZ]
   |append=>
    simp only [step1,aw,hc,eZ];split
    ·rename_i t x e fG aqS aqT _ t2 ae _ _;have hm:∀y,y∈[Operand.tmp t,x]→y∈(match c.callee with|.value f => #[f] |.invoke r _ => #[r] |.builtin _ => #[]:Array Operand).toList++c.args.toList:=λy ck=>by rw [ae];exact List.mem_append_right _ ck
     have kA:∀y,y∈[Operand.tmp t,x]→y∈((match c.callee with|.value f => #[f] |.invoke r _ => #[r] |.builtin _ => #[]:Array Operand)++c.args).toList:=λy ck=>by rw [Array.toList_append];exact hm y ck
     simp only [R (.tmp t) (kA _ (by simp)),R x (kA _ (by simp)),(hs (.tmp t) (kA _ (by simp)) t rfl).1]
    ·rfl
   |_=>simp only [step1,aw,hc]
 |_=>simp only [step1,aw]
end
structure ez where
 dst:Option Nat
 p:Path
 f:lH
 kB:List Nat
 nr:List Nat
 p2:Bool
 rs:List fB
 e8:Nat:=0
 wb:V:=.eC
 p3:List (Nat×List a'):=[]
 tX:List (Nat×List a'):=[]
 oi:Nat:=0
def p4(ops:List Oper)(o:Oper):List Nat:=
 (o.op.operands.toList.filterMap fun|.tmp t=>some t|_=>none)++(match o.guard with
  |some (j,_)=>((ops[j]?).bind (·.dst)).toList
  |none=>[])
def eE(E:ez)(g:dz):dz:=
 match E.dst with
 |none=>{g with env:=hD E.f.hP g.env,H:=E.f.hs++g.H,aZ:=g.aZ+E.f.nx}
 |some t=>match E.p with
  |[]=>{g with
   env:=match E.f.e with|some e=>(t,e)::hD E.f.hP g.env|none=>del (hD E.f.hP g.env) t
   ca:=del g.ca t,H:=E.f.hs++g.H,aZ:=g.aZ+E.f.nx}
  |_::_=>match E.f.e with
   |some e=>{g with env:=del g.env t,ca:=(t,E.p,e.d)::del g.ca t}
   |none=>g
def oj(E:ez):List Nat:=E.dst.toList++E.f.hP
def pb(E:ez):List Nat:=E.f.hs.map (·.1)
def yJ{α:Type}:∀(a b:List (Nat×α)) (q:Nat),look (a++b) q=(match look a q with|some x=>some x|none=>look b q)
 |[],_,_=>rfl
 |(j,x)::a,b,q=>by
  simp only [List.cons_append,ee,yJ a b q];by_cases h:j=q<;>simp [h]
def Xc{α:Type}:∀{a:List (Nat×α)} {q:Nat},q∉a.map (·.1)→look a q=none
 |[],_,_=>rfl
 |(j,x)::a,q,h=>by
  simp only [List.map_cons,List.mem_cons,not_or]at h;rw [ee,if_neg (Ne.symm h.1)];exact Xc h.2
section
variable {E:ez} {g g1 g2:dz}
def m4(g1 g2:dz)(t:Nat):Prop:=look g1.env t=look g2.env t∧look g1.ca t=look g2.ca t
def wc(g1 g2:dz)(q:Nat):Prop:=look g1.H q=look g2.H q
def wd{t:Nat}(h:t∉oj E):m4 (eE E g) g t:=by
 simp only [oj,List.mem_append,not_or]at h;unfold m4 eE;cases hd:E.dst with
 |none=>simp only [ob,if_neg h.2,and_self]
 |some u=>
  have hu:u≠t:=by rintro rfl;simp [hd]at h
  cases hp:E.p with
  |nil=>
   dsimp only
   cases he:E.f.e with
   |some e=>simp only [ee,if_neg hu,ob,if_neg h.2,qP,and_self]
   |none=>simp only [ob,if_neg h.2,qP,if_neg hu,and_self]
  |cons x p=>
   dsimp only
   cases he:E.f.e with
   |some e=>simp only [ee,if_neg hu,qP,and_self]
   |none=>exact⟨rfl,rfl⟩
def OD{t:Nat}(h:m4 g1 g2 t):m4 (eE E g1) (eE E g2) t:=by
 obtain⟨Z,ab⟩:=h;unfold m4 eE;cases hd:E.dst with
 |none=>simp only [ob,Z,ab,and_self]
 |some u=>
  cases hp:E.p with
  |nil=>
   dsimp only
   cases he:E.f.e with
   |some e=>simp only [ee,ob,Z,ab,qP,and_self]
   |none=>simp only [ob,qP,Z,ab,and_self]
  |cons x p=>
   dsimp only
   cases he:E.f.e with
   |some e=>simp only [ee,qP,Z,ab,and_self]
   |none=>exact⟨Z,ab⟩
def OE:(eE E g).H=E.f.hs++g.H∨(eE E g).H=g.H:=by
 unfold eE;cases E.dst with
 |none=>exact .inl rfl
 |some u=>
  cases E.p with
  |nil=>exact .inl rfl
  |cons x p=>dsimp only;cases E.f.e<;>exact .inr rfl
def yK{q:Nat}(h:q∉pb E):wc (eE E g) g q:=by
 unfold wc;rcases OE (E:=E) (g:=g)with Z|Z<;>rw [Z]
 rw [yJ,Xc h]
def OF{q:Nat}(h:wc g1 g2 q):wc (eE E g1) (eE E g2) q:=by
 unfold wc at *;unfold eE;cases E.dst with
 |none=>simp only [yJ,h]
 |some u=>
  cases E.p with
  |nil=>simp only [yJ,h]
  |cons x p=>dsimp only;cases E.f.e<;>exact h
def yL(E:ez):Nat:=
 match E.dst with
 |none=>E.f.nx
 |some _=>match E.p with
  |[]=>E.f.nx
  |_::_=>0
def Hj:(eE E g).aZ=g.aZ+yL E:=by
 unfold eE yL;cases E.dst with
 |none=>rfl
 |some u=>
  cases E.p with
  |nil=>rfl
  |cons x p=>dsimp only;cases E.f.e<;>rfl
structure Alike(g1 g2:dz):Prop where
 slot:∀t,m4 g1 g2 t
 box:∀q,wc g1 g2 q
 aZ:g1.aZ=g2.aZ
 ids:g1.ids=g2.ids
def Hk:(eE E g).ids=g.ids:=by
 unfold eE;cases E.dst with
 |none=>rfl
 |some u=>
  cases E.p with
  |nil=>rfl
  |cons x p=>dsimp only;cases E.f.e<;>rfl
def Alike.refl:Alike g g:=⟨λ_=>⟨rfl,rfl⟩,λ_=>rfl,rfl,rfl⟩
def Alike.symm(h:Alike g1 g2):Alike g2 g1:=⟨λt=>⟨(h.slot t).1.symm,(h.slot t).2.symm⟩,λq=>(h.box q).symm,h.aZ.symm,h.ids.symm⟩
def Alike.trans{g3:dz}(h:Alike g1 g2)(cN:Alike g2 g3):Alike g1 g3:=⟨λt=>⟨(h.slot t).1.trans (cN.slot t).1,(h.slot t).2.trans (cN.slot t).2⟩,λq=>(h.box q).trans (cN.box q),h.aZ.trans cN.aZ,h.ids.trans cN.ids⟩
def Alike.ap(h:Alike g1 g2):Alike (eE E g1) (eE E g2):=
 ⟨λt=>OD (h.slot t),λq=>OF (h.box q),(by simp only [Hj,h.aZ]),by simp only [Hk,h.ids]⟩
def sep(a b:List Nat):Bool:=a.all λx=>!b.any (Nat.beq x)
def we{a b:List Nat}(h:sep a b=true){x:Nat}(ha:x∈a):x∉b:=by
 intro hb;have:=List.all_eq_true.1 h x ha
 simp only [Bool.not_eq_true',List.any_eq_false]at this;exact this x hb (by simp)
def Cp(E dj:ez):Bool:=
 sep (oj E) dj.nr&&sep (oj E) (oj dj)&&sep (oj dj) E.nr&&(sep (pb E) dj.kB||Nat.beq E.oi 2&&Nat.beq dj.oi 1)&&sep (pb E) (pb dj)&&(sep (pb dj) E.kB||Nat.beq dj.oi 2&&Nat.beq E.oi 1)&&(!E.p2||Nat.beq (yL dj) 0)&&(!dj.p2||Nat.beq (yL E) 0)
def agh{E dj:ez}(Z:sep (oj E) (oj dj)=true)(ab:sep (pb E) (pb dj)=true):Alike (eE E (eE dj g)) (eE dj (eE E g)):=by
 refine⟨λt=>?_,λq=>?_,?_,by simp only [Hk]⟩
 ·by_cases aA:t∈oj E
  ·have dd:=we Z aA;have a:m4 (eE E (eE dj g)) (eE E g) t:=OD (wd dd);have b:m4 (eE dj (eE E g)) (eE E g) t:=wd dd;exact⟨a.1.trans b.1.symm,a.2.trans b.2.symm⟩
  ·have a:m4 (eE E (eE dj g)) (eE dj g) t:=wd aA;have b:m4 (eE dj (eE E g)) (eE dj g) t:=OD (wd aA);exact⟨a.1.trans b.1.symm,a.2.trans b.2.symm⟩
 ·by_cases aA:q∈pb E
  ·have dd:=we ab aA;exact(OF (E:=E) (yK (E:=dj) (g:=g) dd)).trans (yK (E:=dj) (g:=eE E g) dd).symm
  ·exact(yK (E:=E) (g:=eE dj g) aA).trans (OF (E:=dj) (yK (E:=E) (g:=g) aA)).symm
 ·simp only [Hj];omega
end
section
variable {tt:dT} {ops:List Oper} {co:gL} {o:Oper} {E:ez} {g g1 g2:dz}
def Xd(h:∀t,t∈p4 ops o→m4 g1 g2 t):pR ops g1 o=pR ops g2 o:=by
 unfold pR;split
 ·rfl
 ·rename_i j w hg;cases aA:(ops[j]?).bind (·.dst) with
  |none=>rfl
  |some t=>
   have:=h t (by simp [p4,hg,aA])
   simp only [this.1,this.2]
def Hl:∀{p:Path} {q:Prop},(∀x,x∈p→m4 g1 g2 x.1)→under g1 p q=under g2 p q
 |[],_,_=>rfl
 |(t,w)::p,q,h=>by
  have aA:=h (t,w) (by simp)
  have aR:=Hl (p:=p) (q:=q) λx hx=>h x (by simp [hx])
  have:BD g1.env g1.ca t=BD g2.env g2.ca t:=by unfold BD;rw [aA.1,aA.2]
  simp only [under,this,aR]
def agi{p:Path}(hs:∀x,x∈o.op.operands.toList→∀t,x = .tmp t→look g1.env t=look g2.env t∧look g1.ca t=look g2.ca t)(q5:g1.ids=g2.ids)(fq:∀q,q∈jg tt g1 p o→look g1.H q=look g2.H q):jg tt g1 p o=jg tt g2 p o:=by
 have R:∀x,x∈o.op.operands.toList→∀p ty,rd g1.env g1.ca p tt ty x=rd g2.env g2.ca p tt ty x:=λx hx p ty=>Oy (hs x hx) p ty
 cases aw:o.op with
 |alloc t=>simp only [jg,aw,q5]
 |box t x=>simp only [jg,aw,q5]
 |load t a=>simp only [aw,Op.operands]at R;simp only [jg,aw,R a (by simp)]
 |store t a x=>simp only [aw,Op.operands]at R;simp only [jg,aw,R a (by simp)]
 |call c=>
  simp only [aw,Op.operands,Call.operands]at R;cases hc:c.callee with
  |value x=>
   have hx:=R x (by simp [hc])
   have ha:l5 (rd g1.env g1.ca p tt) c.args.toList c.argTypes.toList=l5 (rd g2.env g2.ca p tt) c.args.toList c.argTypes.toList:=Oz λy ck t=>R y (by rw [Array.toList_append];exact List.mem_append_right _ ck) p t
   simp only [jg,aw,hc,hx,ha]at fq ⊢;split
   ·rename_i f fh ds Z ab;simp only [Z,ab]at fq;exact OA fq
   ·rfl
  |_=>simp only [jg,aw,hc]
 |_=>simp only [jg,aw]
structure OG(co:gL)(tt:dT)(ops:List Oper)(o:Oper)(E:ez)(g:dz):Prop where
 Hm:pR ops g o=some E.p
 st:step1 co tt ops {g with rs:=E.rs} E.p o=some (bif Nat.beq E.e8 0 then .go E.f else .aK E.wb E.p3 E.f.a7)
 a7:∀q,q∈E.f.a7→under g E.p q
 kB:∀q,q∈jg tt g E.p o→q∈E.kB
 fin:E.e8=1→∀q,q∈E.kB→look g.H q=look E.tX q
def Can(co:gL)(tt:dT)(ops:List Oper)(o:Oper)(E:ez)(g:dz):Prop:=E.e8=2∨OG co tt ops o E g
def Can.congr(h:Can co tt ops o E g1)(wg:∀t,t∈p4 ops o++E.p.map (·.1)→t∈E.nr)(yM:q4 o=E.p2)(hs:∀t,t∈E.nr→m4 g1 g2 t)(hb:∀q,q∈E.kB→wc g1 g2 q)(hn:E.p2=true→g1.aZ=g2.aZ)(q5:g1.ids=g2.ids):Can co tt ops o E g2:=by
 rcases h with h|h
 ·exact .inl h
 right
 have f9:∀x,x∈o.op.operands.toList→∀t,x = .tmp t→look g1.env t=look g2.env t∧look g1.ca t=look g2.ca t:=by
  rintro x hx t rfl
  exact hs t (wg t (List.mem_append_left _ (by simp only [p4,List.mem_append,List.mem_filterMap];exact .inl ⟨_,hx,rfl⟩)))
 have mb:jg tt g1 E.p o=jg tt g2 E.p o:=agi f9 q5 (λq ao=>hb q (h.kB q ao))
 refine⟨?_,?_,λq ao=>?_,(by rw [←mb];exact h.kB),λhk q ao=>(hb q ao).symm.trans (h.fin hk q ao)⟩
 ·rw [←Xd (g1:=g1) (g2:=g2) λt aA=>hs t (wg t (List.mem_append_left _ aA))];exact h.Hm
 ·rw [←h.st];refine(OB (g1:={g1 with rs:=E.rs}) (g2:={g2 with rs:=E.rs}) f9 rfl q5 (λhm=>hn (by rw [←yM];exact hm)) (λq ao=>hb q ?_)).symm
  exact h.kB q ao
 ·rw [←Hl (g1:=g1) (g2:=g2) λx hx=>hs x.1 (wg _ (List.mem_append_right _ (List.mem_map.2 ⟨x,hx,rfl⟩)))]
  exact h.a7 q ao
def wh(o:Oper)(rs:List fB):Nat:=
 match o.op with
 |.load _ _=>match rs with
  |.own::_=>2
  |_=>1
 |_=>0
def tY(g1 g2:dz)(q:Nat):Prop:=(look g1.H q).map (·.map (·.d))=(look g2.H q).map (·.map (·.d))
def Xe:∀(cs:List a') (off:Nat) (e:a'),cs[off]? = some e→(setAt cs off [{d:=e.d}]).map (·.d)=cs.map (·.d)
 |[],off,e,h=>by simp at h
 |c::cs,0,e,h=>by
  simp only [List.getElem?_cons_zero,Option.some.injEq]at h;subst h;simp [setAt]
 |c::cs,off+1,e,h=>by
  simp only [List.getElem?_cons_succ]at h;simp only [setAt,List.map_cons,Xe cs off e h]
def agj(h:OG co tt ops o E g)(ae:wh o E.rs=2)(hk:E.e8=0)(q:Nat):tY (eE E g) g q:=by
 have dC:=h.st;rw [hk]at dC;unfold wh at ae;split at ae
 case h_2=>cases ae
 rename_i t a aw;simp only [step1,aw,show Nat.beq 0 0=true from rfl,cond_true]at dC
 have nil:E.f.hs=[]→tY (eE E g) g q:=by
  intro bJ;unfold tY;rcases OE (E:=E) (g:=g)with Z|Z<;>rw [Z]
  rw [bJ];rfl
 split at dC
 ·rename_i agk off aU ai bO;split at dC
  ·rename_i cs ev;rw [Bool.cond_eq_ite]at dC;split at dC
   ·rw [Bool.cond_eq_ite]at dC;split at dC
    ·simp only [Option.map_some,Option.some.injEq,n7.go.injEq]at dC;exact nil (by rw [←dC])
    ·cases dC
   ·split at dC
    ·rename_i e he;split at dC
     ·rw [Bool.cond_eq_ite]at dC;split at dC
      ·simp only [Option.some.injEq,n7.go.injEq]at dC;unfold tY;rcases OE (E:=E) (g:=g)with Z|Z<;>rw [Z]
       rw [←dC];simp only [List.cons_append,List.nil_append,ee];split
       ·rename_i ao;subst ao;rw [ev];simp only [Option.map_some,Xe cs off e he]
       ·rfl
      ·cases dC
     ·simp only [Option.map_some,Option.some.injEq,n7.go.injEq]at dC;exact nil (by rw [←dC])
    ·cases dC
  ·cases dC
 ·rename_i x aU ai bO;rw [Bool.cond_eq_ite]at dC;split at dC
  ·simp only [Option.map_some,Option.some.injEq,n7.go.injEq]at dC;exact nil (by rw [←dC])
  ·cases dC
 ·cases dC
def agl{p:Path}{rs:List fB}{t:TypeId}{a:Operand}(aw:o.op = .load t a)(eZ:∀l,rs ≠ .own::l)(R:rd g1.env g1.ca p tt o.type a=rd g2.env g2.ca p tt o.type a)(agm:∀q off,rd g2.env g2.ca p tt o.type a=some (.ptr q off)→tY g1 g2 q):
 step1 co tt ops {g1 with rs:=rs} p o=step1 co tt ops {g2 with rs:=rs} p o:=by
 simp only [step1,aw,R];split
 ·rename_i q off aU ai bO;have hd:=agm q off ai;unfold tY at hd;cases Z:look g1.H q with
  |none=>
   rw [Z]at hd;cases ab:look g2.H q with
   |none=>rfl
   |some c2=>rw [ab]at hd;cases hd
  |some c1=>
   rw [Z]at hd;cases ab:look g2.H q with
   |none=>rw [ab]at hd;cases hd
   |some c2=>
    rw [ab]at hd;simp only [Option.map_some,Option.some.injEq]at hd;have hlen:c1.length=c2.length:=by have:=congrArg List.length hd;simpa using this
    have agn:((c1.drop off).take aU.size).map (·.d)=((c2.drop off).take aU.size).map (·.d):=by rw [List.map_take,List.map_drop,hd,←List.map_drop,←List.map_take]
    have je:(c1[off]?).map (·.d)=(c2[off]?).map (·.d):=by rw [←List.getElem?_map,hd,List.getElem?_map]
    simp only [hlen,agn];cases aU.k.isAgg with
    |true=>rfl
    |false=>
     simp only [cond_false];cases Xf:c1[off]? with
     |none=>
      rw [Xf]at je;cases Hn:c2[off]? with
      |none=>rfl
      |some e2=>rw [Hn]at je;cases je
     |some e1=>
      rw [Xf]at je;cases Hn:c2[off]? with
      |none=>rw [Hn]at je;cases je
      |some e2=>
       rw [Hn]at je;simp only [Option.map_some,Option.some.injEq]at je;cases rs with
       |nil=>cases e1.own<;>cases e2.own<;>simp [je]
       |cons r l=>
        cases r with
        |own=>exact absurd rfl (eZ l)
        |val x=>cases e1.own<;>cases e2.own<;>simp [je]
        |raw=>cases e1.own<;>cases e2.own<;>simp [je]
        |call u v z=>cases e1.own<;>cases e2.own<;>simp [je]
 ·rfl
 ·rfl
def Can.Xg(h:Can co tt ops o E g1)(ae:wh o E.rs=1)(hk:E.e8=0)(wg:∀t,t∈p4 ops o++E.p.map (·.1)→t∈E.nr)(hs:∀t,t∈E.nr→m4 g1 g2 t)(hb:∀q,tY g1 g2 q):Can co tt ops o E g2:=by
 rcases h with h|h
 ·exact .inl h
 right
 have f9:∀x,x∈o.op.operands.toList→∀t,x = .tmp t→look g1.env t=look g2.env t∧look g1.ca t=look g2.ca t:=by
  rintro x hx t rfl
  exact hs t (wg t (List.mem_append_left _ (by simp only [p4,List.mem_append,List.mem_filterMap];exact .inl ⟨_,hx,rfl⟩)))
 unfold wh at ae;split at ae
 case h_2=>cases ae
 rename_i t a aw
 have eZ:∀l,E.rs ≠ .own::l:=by
  intro l e;rw [e]at ae;cases ae
 have R:rd g1.env g1.ca E.p tt o.type a=rd g2.env g2.ca E.p tt o.type a:=Oy (f9 a (by simp [aw,Op.operands])) _ _
 have mb:jg tt g1 E.p o=jg tt g2 E.p o:=by simp only [jg,aw,R]
 refine⟨?_,?_,λq ao=>?_,(by rw [←mb];exact h.kB),λlk=>by rw [hk]at lk;cases lk⟩
 ·rw [←Xd (g1:=g1) (g2:=g2) λt aA=>hs t (wg t (List.mem_append_left _ aA))];exact h.Hm
 ·rw [←h.st];exact(agl aw eZ R λq off _=>hb q).symm
 ·rw [←Hl (g1:=g1) (g2:=g2) λx hx=>hs x.1 (wg _ (List.mem_append_right _ (List.mem_map.2 ⟨x,hx,rfl⟩)))]
  exact h.a7 q ao
end
def iJ(ops:List Oper)(o:Oper)(E:ez):Bool:=ago (p4 ops o++E.p.map (·.1)) E.nr&&(q4 o == E.p2)&&decide (E.dst=o.dst)&&(match E.f.rs with|[]=>true|_=>false)&&(Nat.beq E.oi 0||Nat.beq E.oi (wh o E.rs)&&Nat.beq E.e8 0)
where ago (a b:List Nat):Bool:=a.all λx=>b.any (Nat.beq x)
def Ho{ops:List Oper}{o:Oper}{E:ez}(h:iJ ops o E=true):(∀t,t∈p4 ops o++E.p.map (·.1)→t∈E.nr)∧q4 o=E.p2∧E.dst=o.dst∧E.f.rs=[]:=by
 simp only [iJ,Bool.and_eq_true,beq_iff_eq,decide_eq_true_eq]at h;obtain⟨⟨⟨⟨Z,ab⟩,aq⟩,aN⟩,_⟩:=h;refine⟨λt aA=>?_,ab,aq,?_⟩
 ·obtain⟨y,ck,ho⟩:=List.any_eq_true.1 (List.all_eq_true.1 Z t aA);have:t=y:=by simpa using ho
  rw [this];exact ck
 ·split at aN
  ·assumption
  ·cases aN
def waits(ops:List Oper)(i:Nat):Nat→Nat→Bool
 | 0,_=>false
 |n+1,j=>match ops[j]? with
  |some o=>o.after.toList.any λe=>Region.binds .any e&&(Nat.beq e.on i||waits ops i n e.on)
  |none=>false
def ol(opsA:Array Oper)(listed:Array Bool):Prop:=∀(j:Nat) o,opsA[j]? = some o→listed.getD j false=true→∀e,e∈o.after→Region.binds .any e=true→listed.getD e.on false=true
def Hp{opsA:Array Oper}{listed:Array Bool}(hc:ol opsA listed){i:Nat}:∀{n j:Nat},waits opsA.toList i n j=true→listed.getD j false=true→listed.getD i false=true
 | 0,_,h,_=>by simp [waits]at h
 |n+1,j,h,hj=>by
  simp only [waits]at h;split at h
  ·rename_i o aw;obtain⟨e,he,hb⟩:=List.any_eq_true.1 h;simp only [Bool.and_eq_true,Bool.or_eq_true,Nat.beq_eq]at hb;have Z:=hc j o (by simpa using aw) hj e (by simpa using he) hb.1
   rcases hb.2 with rfl|ab
   ·exact Z
   ·exact Hp hc ab Z
  ·cases h
def ol.set{opsA:Array Oper}{listed:Array Bool}(hc:ol opsA listed){i:Nat}(ai:i∈Region.ready .any opsA listed):ol opsA (listed.setIfInBounds i true):=by
 intro j o aw hj e he hb;by_cases p5:i=j
 ·subst p5;obtain⟨_,o',la,p6⟩:=mem_ready.1 ai;rw [aw]at la;cases la;exact getD_set_true (p6 e he hb)
 ·rw [getD_set_ne false p5]at hj;exact getD_set_true (hc j o aw hj e he hb)
section
variable {co:gL} {tt:dT} {opsA:Array Oper} {cH:List ez} {Fi:dz→Prop} {g g1 g2:dz}
def jK(co:gL)(tt:dT)(opsA:Array Oper)(cH:List ez)(Fi:dz→Prop):Nat→Array Bool→dz→Prop
 | 0,listed,g=>Region.ready .any opsA listed=[]∧Fi g
 |n+1,listed,g=>(Region.ready .any opsA listed=[]→Fi g)∧∀i,i∈Region.ready .any opsA listed→∃o E,opsA[i]? = some o∧cH[i]? = some E∧Can co tt opsA.toList o E g∧
  jK co tt opsA cH Fi n (listed.setIfInBounds i true) (eE E g)
def jK.alike(ef:∀(i:Nat) o E,opsA[i]? = some o→cH[i]? = some E→iJ opsA.toList o E=true)(d9:∀g1 g2,Alike g1 g2→Fi g1→Fi g2):∀{n:Nat} {listed:Array Bool} {g1 g2:dz},Alike g1 g2→jK co tt opsA cH Fi n listed g1→jK co tt opsA cH Fi n listed g2
 | 0,_,_,_,ha,h=>⟨h.1,d9 _ _ ha h.2⟩
 |n+1,_,_,_,ha,h=>⟨λai=>d9 _ _ ha (h.1 ai),λi hi=>by
  obtain⟨o,E,aw,b3,ka,hn⟩:=h.2 i hi;obtain⟨dM,am,_,_⟩:=Ho (ef i o E aw b3);exact⟨o,E,aw,b3,ka.congr dM am (λt _=>ha.slot t) (λq _=>ha.box q) (λ_=>ha.aZ) ha.ids,jK.alike ef d9 ha.ap hn⟩⟩
def Cq{ops:List Oper}{o:Oper}{E:ez}{n:Nat}(h:iJ ops o E=true)(ae:E.oi=n+1):wh o E.rs=n+1∧E.e8=0:=by
 simp only [iJ,Bool.and_eq_true,Bool.or_eq_true,Nat.beq_eq]at h;rcases h.2 with h|h
 ·rw [ae]at h;cases h
 ·exact⟨h.1.symm.trans ae,h.2⟩
def Can.data{co:gL}{tt:dT}{ops:List Oper}{o:Oper}{E:ez}{g:dz}(h:Can co tt ops o E g)(ef:iJ ops o E=true)(ae:E.oi=2)(q:Nat):tY (eE E g) g q:=by
 obtain⟨Z,ab⟩:=Cq ef ae;rcases h with h|h
 ·rw [ab]at h;cases h
 ·exact agj h Z ab q
def agp{E dj:ez}(h:Cp E dj=true):sep (oj E) dj.nr=true∧sep (oj E) (oj dj)=true∧sep (oj dj) E.nr=true∧(sep (pb E) dj.kB=true∨E.oi=2∧dj.oi=1)∧sep (pb E) (pb dj)=true∧(sep (pb dj) E.kB=true∨dj.oi=2∧E.oi=1)∧(E.p2=true→yL dj=0)∧(dj.p2=true→yL E=0):=by
 simp only [Cp,Bool.and_eq_true,Bool.or_eq_true,Bool.not_eq_true',Nat.beq_eq]at h;obtain⟨⟨⟨⟨⟨⟨⟨Z,ab⟩,aq⟩,aN⟩,bn⟩,cd⟩,ep⟩,ek⟩:=h;exact⟨Z,ab,aq,aN,bn,cd,λhm=>ep.resolve_left (by simp [hm]),λhm=>ek.resolve_left (by simp [hm])⟩
def jK.first(ef:∀(i:Nat) o E,opsA[i]? = some o→cH[i]? = some E→iJ opsA.toList o E=true)(d9:∀g1 g2,Alike g1 g2→Fi g1→Fi g2){i:Nat}{o:Oper}{E:ez}(hi:opsA[i]? = some o)(b3:cH[i]? = some E):
 ∀(fuel:Nat) (listed:Array Bool) (g:dz),
  (∀(j:Nat) p7 mA,opsA[j]? = some p7→cH[j]? = some mA→j≠i→listed.getD j true=false→waits opsA.toList i 3 j=false→Cp E mA=true)→ol opsA listed→
  i∈Region.ready .any opsA listed→Can co tt opsA.toList o E g→jK co tt opsA cH Fi fuel (listed.setIfInBounds i true) (eE E g)→jK co tt opsA cH Fi (fuel+1) listed g:=by
 intro fuel;induction fuel with
 |zero=>
  intro listed g _ _ ai ka H;refine⟨λh=>(by rw [h]at ai;cases ai),λj hj=>?_⟩
  by_cases p5:j=i
  ·subst p5;exact⟨o,E,hi,b3,ka,H⟩
  ·have:=ready_mono hj p5
   rw [H.1]at this;cases this
 |succ fuel aR=>
  intro listed g kQ gS ai ka H;refine⟨λh=>(by rw [h]at ai;cases ai),λj hj=>?_⟩
  by_cases p5:j=i
  ·subst p5;exact⟨o,E,hi,b3,ka,H⟩
  obtain⟨p7,mA,p8,tZ,Xh,agq⟩:=H.2 j (ready_mono hj p5);obtain⟨Xi,aqU,Xj,p6⟩:=mem_ready.1 hj;rw [p8]at Xj;cases Xj
  have om:listed.getD i false=false:=by
   have h0:=(mem_ready.1 ai).1;rcases Nat.lt_or_ge i listed.size with cN|cN
   ·simpa [Array.getD_eq_getD_getElem?,cN]using h0
   ·simp [Array.getD_eq_getD_getElem?,Array.getElem?_eq_none cN]
  have agr:waits opsA.toList i 3 j=false:=by
   rw [Bool.eq_false_iff];intro hw;rw [waits]at hw;have ae:opsA.toList[j]? = some p7:=by simpa using p8
   simp only [ae]at hw;obtain⟨e,he,hb⟩:=List.any_eq_true.1 hw;simp only [Bool.and_eq_true,Bool.or_eq_true,Nat.beq_eq]at hb;have Z:=p6 e (by simpa using he) hb.1
   rcases hb.2 with rfl|ab
   ·rw [om]at Z;cases Z
   ·rw [Hp gS ab Z]at om;cases om
  obtain⟨d1,d2,d3,d4,d5,d6,d7,d8⟩:=agp (kQ j p7 mA p8 tZ p5 Xi agr);obtain⟨dM,am,_,_⟩:=Ho (ef i o E hi b3);obtain⟨jb,my,_,_⟩:=Ho (ef j p7 mA p8 tZ)
  have c1:Can co tt opsA.toList p7 mA g:=by
   rcases d4 with d4|⟨e1,e2⟩
   ·exact Xh.congr jb my (λt aA=>wd λhw=>we d1 hw aA) (λq ao=>yK λhw=>we d4 hw ao) (λhm=>by rw [Hj,d8 hm];rfl) Hk
   ·exact Xh.Xg (Cq (ef j p7 mA p8 tZ) e2).1 (Cq (ef j p7 mA p8 tZ) e2).2 jb (λt aA=>wd λhw=>we d1 hw aA) (ka.data (ef i o E hi b3) e1)
  have c2:Can co tt opsA.toList o E (eE mA g):=by
   have yN:∀t,t∈E.nr→m4 g (eE mA g) t:=λt aA=>by have:=wd (E:=mA) (g:=g) (t:=t) λhw=>we d3 hw aA;exact⟨this.1.symm,this.2.symm⟩
   rcases d6 with d6|⟨e1,e2⟩
   ·exact ka.congr dM am yN (λq ao=>(yK (E:=mA) (g:=g) (q:=q) λhw=>we d6 hw ao).symm) (λhm=>by rw [Hj,d7 hm];rfl) Hk.symm
   ·exact ka.Xg (Cq (ef i o E hi b3) e2).1 (Cq (ef i o E hi b3) e2).2 dM yN (λq=>(c1.data (ef j p7 mA p8 tZ) e1 q).symm)
  refine⟨p7,mA,p8,tZ,c1,aR (listed.setIfInBounds j true) (eE mA g) ?_ (gS.set hj) (ready_mono ai (Ne.symm p5)) c2 ?_⟩
  ·intro k ok ags hk agt Hq om o7;refine kQ k ok ags hk agt Hq ?_ o7;by_cases t':j=k
   ·subst t';exact Xi
   ·rw [getD_set_ne true t']at om;exact om
  ·rw [Array.setIfInBounds_comm _ _ p5];exact jK.alike ef d9 (agh d2 d5).symm agq
structure Hr(n k:Nat)(listed:Array Bool):Prop where
 size:listed.size=n
 at':∀j,j<n→listed[j]? = some (decide (j<k))
def Hr.set{n k:Nat}{listed:Array Bool}(h:Hr n k listed):Hr n (k+1) (listed.setIfInBounds k true):=by
 refine⟨by simp [h.size],λj hj=>?_⟩
 by_cases t':k=j
 ·subst t';simp [h.size,hj]
 ·rw [Array.getElem?_setIfInBounds_ne t',h.at' j hj]
  congr 1
  have:(j<k)=(j<k+1):=by apply propext;omega
  simp [this]
def agu(o:Oper)(k:Nat):Bool:=o.after.toList.all λe=>!Region.binds .any e||Nat.blt e.on k
def Hs(ops:List Oper)(E:ez)(k:Nat):Nat→List (Oper×ez)→Bool
 |_,[]=>true
 |j,(_,dj)::l=>(Cp E dj||waits ops k 3 j)&&Hs ops E k (j+1) l
def Ht(ops:List Oper):Nat→List (Oper×ez)→Bool
 |_,[]=>true
 |k,(o,E)::l=>agu o k&&Hs ops E k (k+1) l&&Ht ops (k+1) l
def Hu(co:gL)(tt:dT)(ops:List Oper)(Fi:dz→Prop):List (Oper×ez)→dz→Prop
 |[],g=>Fi g
 |(o,E)::l,g=>Can co tt ops o E g∧Hu co tt ops Fi l (eE E g)
def Xk{ops:List Oper}{E:ez}{k:Nat}:∀{l:List (Oper×ez)} {n:Nat},Hs ops E k n l=true→∀(j:Nat) o dj,l[j]? = some (o,dj)→waits ops k 3 (n+j)=false→Cp E dj=true
 |[],_,_,j,o,dj,hj,_=>by simp at hj
 |(dU,a8)::l,n,h,j,o,dj,hj,o7=>by
  simp only [Hs,Bool.and_eq_true,Bool.or_eq_true]at h;cases j with
  |zero=>
   simp at hj
   obtain⟨rfl,rfl⟩:=hj;exact h.1.resolve_right (by rw [Nat.add_zero]at o7;rw [o7];simp)
  |succ j=>exact Xk h.2 j o dj (by simpa using hj) (by rwa [show n+1+j=n+(j+1)by omega])
def jK.text(ef:∀(i:Nat) o E,opsA[i]? = some o→cH[i]? = some E→iJ opsA.toList o E=true)(d9:∀g1 g2,Alike g1 g2→Fi g1→Fi g2):
 ∀(l:List (Oper×ez)) (k:Nat) (listed:Array Bool) (g:dz),(∀j:Nat,(l[j]?).map (·.1)=opsA[k+j]?)→(∀j:Nat,(l[j]?).map (·.2)=cH[k+j]?)→Hr opsA.size k listed→ol opsA listed→Ht opsA.toList k l=true→Hu co tt opsA.toList Fi l g→
  jK co tt opsA cH Fi l.length listed g
 |[],k,listed,g,Z,_,cO,_,_,hc=>by
  refine⟨?_,hc⟩
  have hk:opsA[k]? = none:=by have:=Z 0;simpa using this.symm
  have lk:opsA.size≤k:=by simpa using hk
  refine List.eq_nil_iff_forall_not_mem.2 λj hj=>?_
  obtain⟨hu,o,aw,_⟩:=mem_ready.1 hj;have bO:j<opsA.size:=(Array.getElem?_eq_some_iff.1 aw).1;have:=cO.at' j bO
  rw [Array.getD_eq_getD_getElem?,this]at hu;have t':j<k:=by omega
  simp [t']at hu
 |(o,E)::l,k,listed,g,Z,ab,cO,gS,hx,hc=>by
  have aw:opsA[k]? = some o:=by have:=Z 0;simpa using this.symm
  have b3:cH[k]? = some E:=by have:=ab 0;simpa using this.symm
  have bO:k<opsA.size:=(Array.getElem?_eq_some_iff.1 aw).1;simp only [Ht,Bool.and_eq_true]at hx;obtain⟨⟨ai,b5⟩,hx⟩:=hx
  have Xl:k∈Region.ready .any opsA listed:=by
   refine mem_ready.2 ⟨?_,o,aw,λe he hb=>?_⟩
   ·rw [Array.getD_eq_getD_getElem?,cO.at' k bO];simp
   ·have:=List.all_eq_true.1 ai e (by simpa using he)
    simp only [hb,Bool.not_true,Bool.false_or,Nat.blt_eq]at this;rw [Array.getD_eq_getD_getElem?,cO.at' e.on (by omega)]
    simp [this]
  refine jK.first ef d9 aw b3 l.length listed g ?_ gS Xl hc.1 (jK.text ef d9 l (k+1) _ _ (λj=>?_) (λj=>?_) cO.set (gS.set Xl) hx hc.2)
  ·intro j p7 mA p8 tZ dQ om o7;have vQ:j<opsA.size:=(Array.getElem?_eq_some_iff.1 p8).1
   have t':k<j:=by
    rw [Array.getD_eq_getD_getElem?,cO.at' j vQ]at om;simp at om
    omega
   have e1:=Z (j-k);have e2:=ab (j-k);have Xm:k+(j-k)=j:=by omega
   rw [Xm,p8]at e1;rw [Xm,tZ]at e2
   have e3:(((o,E)::l)[j-k]?)=l[j-k-1]? := by
    have:j-k=(j-k-1)+1:=by omega
    rw [this];simp
   rw [e3]at e1 e2;cases ae:l[j-k-1]? with
   |none=>rw [ae]at e1;simp at e1
   |some x=>
    rw [ae]at e1 e2;simp at e1 e2
    obtain⟨dk,ec⟩:=x;simp only at e1 e2
    subst e1;subst e2;exact Xk b5 _ _ _ ae (by rwa [show k+1+(j-k-1)=j by omega])
  ·have:=Z (j+1);simpa [Nat.add_assoc,Nat.add_comm 1 j]using this
  ·have:=ab (j+1);simpa [Nat.add_assoc,Nat.add_comm 1 j]using this
end
def q6(N:Nat)(E:ez):Bool:=
 match E.dst with
 |none=>E.p.isEmpty
 |some t=>Nat.blt t N&&match E.p with
  |[]=>true
  |p=>E.f.e.isSome&&E.f.hs.isEmpty&&E.f.hP.isEmpty&&p.all (λy=>!Nat.beq y.1 t)&&Nat.beq E.f.nx 0
def Cr(ops:List Oper)(i:Nat)(t:Nat):Nat→List ez→Bool
 |_,[]=>true
 |j,dj::l=>(match dj.p with
  |[]=>true
  |p=>(match dj.dst with |some bq=>Nat.beq bq t |none=>false)||p.all (λy=>!Nat.beq y.1 t)||waits ops i 3 j)&&Cr ops i t (j+1) l
def Hv(ops:List Oper)(cH:List ez):Nat→List ez→Bool
 |_,[]=>true
 |i,E::l=>(match E.dst with
  |none=>true
  |some t=>Cr ops i t 0 cH)&&Hv ops cH (i+1) l
def Cs(ops:List Oper)(cH:List ez):Bool:=Hv ops cH 0 cH
def Xn{ops:List Oper}{i t:Nat}:∀{l:List ez} {k:Nat},Cr ops i t k l=true→∀(j:Nat) (dj:ez),l[j]? = some dj→dj.p≠[]→
 ((match dj.dst with|some bq=>Nat.beq bq t|none=>false)||dj.p.all (λy=>!Nat.beq y.1 t))=true∨waits ops i 3 (k+j)=true
 |[],_,_,j,dj,h,_=>by simp at h
 |a8::l,k,h,j,dj,hj,dQ=>by
  simp only [Cr,Bool.and_eq_true]at h;cases j with
  |zero=>
   simp at hj
   subst hj;have Z:=h.1;split at Z
   ·rename_i pT;exact absurd pT dQ
   ·rw [Bool.or_eq_true]at Z;exact Z
  |succ j=>
   have:=Xn h.2 j dj (by simpa using hj) dQ
   rwa [show k+(j+1)=k+1+j by omega]
def Xo{ops:List Oper}{cH:List ez}:∀{l:List ez} {k:Nat},Hv ops cH k l=true→∀(i:Nat) (E:ez) (t:Nat),l[i]? = some E→E.dst=some t→Cr ops (k+i) t 0 cH=true
 |[],_,_,i,E,t,h,_=>by simp at h
 |a8::l,k,h,i,E,t,hi,hd=>by
  simp only [Hv,Bool.and_eq_true]at h;cases i with
  |zero=>
   simp at hi
   subst hi;have Z:=h.1;rw [hd]at Z;exact Z
  |succ i=>
   have:=Xo h.2 i E t (by simpa using hi) hd
   rwa [show k+(i+1)=k+1+i by omega]
section
variable {P:Program} {K:Ctx} {N:Nat} {M:Mem} {β:Nat→Option Nat} {tt:dT} {opsA:Array Oper} {cH:List ez} {g:dz} {w:World} {tmps:Array Value}
def t_(cH:List ez)(listed:Array Bool)(g:dz):Prop:=∀x,x∈g.ca→∃(i:Nat) (E:ez),cH[i]? = some E∧listed.getD i false=true∧E.dst=some x.1∧E.p=x.2.1∧E.p≠[]
def Hw{α:Type}:∀{l:List (Nat×α)} {t:Nat} {x:Nat×α},x∈del l t→x∈l
 |[],_,_,h=>by simp [del]at h
 |(j,y)::l,t,x,h=>by
  simp only [del]at h;rw [Bool.cond_eq_ite]at h;split at h
  ·exact List.mem_cons_of_mem _ (Hw h)
  ·rcases List.mem_cons.1 h with rfl|h
   ·simp
   ·exact List.mem_cons_of_mem _ (Hw h)
def t_.ap{listed:Array Bool}{i:Nat}{E:ez}(b3:cH[i]? = some E)(hi:i<listed.size)(h:t_ cH listed g):t_ cH (listed.setIfInBounds i true) (eE E g):=by
 have cN:t_ cH (listed.setIfInBounds i true) g:=λx hx=>by
  obtain⟨j,dj,Z,ab,aq⟩:=h x hx;exact⟨j,dj,Z,getD_set_true ab,aq⟩
 intro x hx;unfold eE at hx;cases hd:E.dst with
 |none=>simp only [hd]at hx;exact cN x hx
 |some t=>
  simp only [hd]at hx;cases hp:E.p with
  |nil=>simp only [hp]at hx;exact cN x (Hw hx)
  |cons y p=>
   simp only [hp]at hx;cases he:E.f.e with
   |none=>simp only [he]at hx;exact cN x hx
   |some e=>
    simp only [he]at hx;rcases List.mem_cons.1 hx with rfl|hx
    ·exact⟨i,E,b3,by simp [hi],by simp [hd],by simp [hp],by simp [hp]⟩
    ·exact cN x (Hw hx)
def agv{listed:Array Bool}{i:Nat}{E:ez}{t:Nat}(kQ:Cs opsA.toList cH=true)(b3:cH[i]? = some E)(hd:E.dst=some t)(hc:ol opsA listed)(hi:listed.getD i false=false)(h:t_ cH listed g):yg g.ca t=true:=by
 unfold yg;rw [List.all_eq_true];intro x hx;obtain⟨j,dj,sk,ae,jF,yF,dQ⟩:=h x hx;have Z:=Xo kQ i E t b3 hd;rw [Nat.zero_add]at Z;rcases Xn Z j dj sk dQ with ab|ab
 ·rw [jF,yF]at ab;exact ab
 ·rw [Nat.zero_add]at ab;have:=Hp hc ab ae
  rw [hi]at this;cases this
def Xp{listed:Array Bool}{co:gL}{o:Oper}{E:ez}{i:Nat}(ky:E.e8=0)(ka:OG co tt opsA.toList o E g)(b3:cH[i]? = some E)(ef:iJ opsA.toList o E=true)(aY:q6 N E=true)(kQ:Cs opsA.toList cH=true)(hc:ol opsA listed)(hi:listed.getD i false=false)(mS:t_ cH listed g):
 n9 co tt N opsA.toList {g with rs:=E.rs,a7:=[]} o=some (.go {eE E g with rs:=[],a7:=E.f.a7.map (under g E.p)}):=by
 obtain⟨_,_,fj,hy⟩:=Ho ef;have hg:pR opsA.toList {g with rs:=E.rs,a7:=[]} o=some E.p:=ka.Hm
 have hs:step1 co tt opsA.toList {g with rs:=E.rs,a7:=[]} E.p o=some (.go E.f):=by
  have dC:=ka.st;rw [ky]at dC;refine Eq.trans ?_ dC;exact OB (g1:={g with rs:=E.rs,a7:=[]}) (g2:={g with rs:=E.rs}) (λ_ _ _ _=>⟨rfl,rfl⟩) rfl rfl (λ_=>rfl) (λ_ _=>rfl)
 have hu:∀q,under {g with rs:=E.rs,a7:=[]} E.p q=under g E.p q:=λq=>Hl λ_ _=>⟨rfl,rfl⟩
 unfold n9;rw [hg]
 dsimp only
 rw [hs]
 dsimp only
 rw [←fj];have cv:E.f.a7.map (under {g with rs:=E.rs,a7:=[]} E.p)++[]=E.f.a7.map (under g E.p):=by rw [List.append_nil];exact List.map_congr_left λq _=>hu q
 rw [cv,hy];unfold q6 at aY;unfold eE;cases hd:E.dst with
 |none=>
  rw [hd]at aY
  dsimp only at aY ⊢
  rw [aY];rfl
 |some t=>
  rw [hd]at aY;have b5:=agv kQ b3 hd hc hi mS;simp only [Bool.and_eq_true]at aY;obtain⟨bO,aY⟩:=aY
  dsimp only
  rw [bO,b5];cases hp:E.p with
  |nil=>rfl
  |cons x p=>
   rw [hp]at aY;simp only [Bool.and_eq_true,List.isEmpty_iff,Nat.beq_eq,Option.isSome_iff_exists]at aY;obtain⟨⟨⟨⟨⟨e,he⟩,bJ⟩,hc⟩,p6⟩,hn⟩:=aY;simp only [he,bJ,hc,hn,p6];rfl
def jK.sound(cF:fH P tt=true)(ky:∀(i:Nat) E,cH[i]? = some E→E.e8=0)(ef:∀(i:Nat) o E,opsA[i]? = some o→cH[i]? = some E→iJ opsA.toList o E=true)(aY:∀(i:Nat) E,cH[i]? = some E→q6 N E=true)(kQ:Cs opsA.toList cH=true){Fi:dz→Prop}{Q:Exit→Act→World→Prop}
 (eQ:∀g fW w' M' β',Fi g→fX P K N M' β' g fW w'→Q .normal ⟨fW,K.ds⟩ w'):
 ∀(n:Nat) (listed:Array Bool) (g:dz) (tmps:Array Value) (w:World) (M:Mem) (β:Nat→Option Nat),jK (jZ P) tt opsA cH Fi n listed g→listed.size=opsA.size→ol opsA listed→t_ cH listed g→fX P K N M β g tmps w→wpAny P .any opsA Q n listed ⟨tmps,K.ds⟩ w
 | 0,_,g,tmps,w,M,β,h,_,_,_,hs=>⟨h.1,eQ g tmps w M β h.2 hs⟩
 |n+1,listed,g,tmps,w,M,β,h,ew,gS,mS,hs=>by
  refine⟨λai=>eQ g tmps w M β (h.1 ai) hs,λi hi=>?_⟩
  obtain⟨o,E,aw,b3,Hx,hn⟩:=h.2 i hi;have ka:=Hx.resolve_left (by rw [ky i E b3];simp)
  have bO:i<listed.size:=by rw [ew];exact(Array.getElem?_eq_some_iff.1 aw).1
  have om:listed.getD i false=false:=by have:=(mem_ready.1 hi).1;simpa [Array.getD_eq_getD_getElem?,bO]using this
  have OH:=Xp (N:=N) (ky i E b3) ka b3 (ef i o E aw b3) (aY i E b3) kQ gS om mS;have gf:fX P K N M β {g with rs:=E.rs,a7:=[]} tmps w:=⟨hs.bF,hs.size,hs.fresh,hs.cond⟩;unfold wpOp;simp only [aw];refine Oo gf cF (opsA:=opsA) rfl OH (λq ao=>?_) (λfW w' M' β' cN=>?_)
  ·obtain⟨q',pY,rfl⟩:=List.mem_map.1 ao;exact ka.a7 q' pY
  ·exact jK.sound cF ky ef aY kQ eQ n _ (eE E g) fW w' M' β' hn (by simpa using ew) (gS.set hi) (mS.ap b3 bO) ⟨cN.bF,cN.size,cN.fresh,cN.cond⟩
end
def findD(co:gL)(tt:dT)(ops:List Oper)(g:dz)(o:Oper)(rs:List fB):Option ez:=
 match pR ops g o with
 |none=>none
 |some p=>match step1 co tt ops {g with rs:=rs} p o with
  |some (.go f)=>some {dst:=o.dst,p,f,kB:=jg tt g p o,nr:=p4 ops o++p.map (·.1),p2:=q4 o,rs,oi:=wh o rs}
  |_=>none
def wi(co:gL)(tt:dT)(ops:List Oper):List Oper→List (List fB)→dz→Option (List ez×dz×List Prop)
 |[],[],g=>some ([],g,[])
 |o::l,rs::kb,g=>match findD co tt ops g o rs with
  |some E=>match wi co tt ops l kb (eE E g) with
   |some (cH,e6,a7)=>some (E::cH,e6,a7++E.f.a7.map (under g E.p))
   |none=>none
  |none=>none
 |_,_,_=>none
def lS:List Oper→List ez→List (Oper×ez)
 |o::l,E::m=>(o,E)::lS l m
 |_,_=>[]
def Hy(N:Nat)(ops:List Oper)(cH:List ez):Bool:=
 (lS ops cH).all (λx=>iJ ops x.1 x.2)&&cH.all (q6 N)&&Cs ops cH&&Ht ops 0 (lS ops cH)
section
variable {co:gL} {tt:dT} {ops:List Oper}
def Xq{Fi:dz→Prop}:∀{l:List Oper} {kb:List (List fB)} {g:dz} {cH:List ez} {e6:dz} {a7:List Prop},wi co tt ops l kb g=some (cH,e6,a7)→(∀q,q∈a7→q)→Fi e6→
 cH.length=l.length∧(∀E,E∈cH→E.e8=0)∧Hu co tt ops Fi (lS l cH) g
 |[],[],g,cH,e6,a7,h,_,d9=>by
  simp only [wi,Option.some.injEq,Prod.mk.injEq]at h;obtain⟨rfl,rfl,rfl⟩:=h;exact⟨rfl,by simp,d9⟩
 |o::l,rs::kb,g,cH,e6,a7,h,cv,d9=>by
  simp only [wi]at h;split at h
  case h_2=>cases h
  rename_i E b3;split at h
  case h_2=>cases h
  rename_i wj g1 agw Z;simp only [Option.some.injEq,Prod.mk.injEq]at h;obtain⟨rfl,rfl,rfl⟩:=h;obtain⟨ab,agx,aq⟩:=Xq Z (λq ao=>cv q (List.mem_append_left _ ao)) d9
  have agy:E.e8=0:=by
   unfold findD at b3;split at b3
   ·cases b3
   split at b3
   ·cases b3;rfl
   ·cases b3
  refine⟨by simp [ab],λdj sk=>?_,?_,aq⟩
  ·rcases List.mem_cons.1 sk with rfl|sk
   ·exact agy
   ·exact agx dj sk
  have OI:∀q,q∈E.f.a7→under g E.p q:=λq ao=>cv _ (List.mem_append_right _ (List.mem_map.2 ⟨q,ao,rfl⟩))
  unfold findD at b3;split at b3
  ·cases b3
  rename_i p hp;split at b3
  ·rename_i f b5;cases b3;exact .inr ⟨hp,b5,OI,λ_ h=>h,λh=>by cases h⟩
  ·cases b3
 |[],_::_,_,_,_,_,h,_,_=>by simp [wi]at h
 |_::_,[],_,_,_,_,h,_,_=>by simp [wi]at h
def wk:∀{l:List Oper} {m:List ez},m.length=l.length→∀(j:Nat),((lS l m)[j]?).map (·.1)=l[j]? ∧ ((lS l m)[j]?).map (·.2)=m[j]?
 |[],[],_,j=>by simp [lS]
 |o::l,E::m,h,j=>by
  cases j with
  |zero=>simp [lS]
  |succ j=>simpa [lS]using wk (by simpa using h) j
 |[],_::_,h,_=>by simp at h
 |_::_,[],h,_=>by simp at h
def OJ:∀{l:List Oper} {m:List ez},m.length=l.length→(lS l m).length=l.length
 |[],[],_=>rfl
 |_::l,_::m,h=>by simp [lS,OJ (l:=l) (m:=m) (by simpa using h)]
 |[],_::_,h=>by simp at h
 |_::_,[],h=>by simp at h
end
section
variable {P:Program} {N E:Nat} {st:aO} {tt:dT}
def Alike.bF{K:Ctx}{M:Mem}{β:Nat→Option Nat}{g1 g2:dz}{tmps:Array Value}{w:World}(ha:Alike g1 g2)(h:bV P K M β {env:=g1.env,H:=g1.H,aZ:=g1.aZ} tmps w):bV P K M β {env:=g2.env,H:=g2.H,aZ:=g2.aZ} tmps w:=by
 have gu:∀l,({env:=g2.env,H:=g2.H,aZ:=g2.aZ}:aO).at l=({env:=g1.env,H:=g1.H,aZ:=g1.aZ}:aO).at l:=by
  intro l;cases l with
  |slot s=>exact(ha.slot s).1.symm
  |cell r i=>simp only [aO.at];rw [←ha.box r]
 have hb:∀r,look g2.H r=look g1.H r:=λr=>(ha.box r).symm
 constructor
 ·intro l e ae;rw [gu]at ae;exact h.fC l e ae
 ·intro l e T ae;rw [gu]at ae;exact h.own l e T ae
 ·intro l cQ e bp T T' b ae aL dR;rw [gu]at ae dR;exact h.uniq l cQ e bp T T' b ae aL dR
 ·intro l e T b r cs ae aL nk ai;rw [gu]at ae;exact h.unbox l e T b r cs ae aL nk (by rw [←hb r];exact ai)
 ·intro r cs ai;exact h.box r cs (by rw [←hb r];exact ai)
 ·intro r dL b cs cs' ai ge;exact h.inj r dL b cs cs' (by rw [←hb r];exact ai) (by rw [←hb dL];exact ge)
 ·intro r b ai;exact(by have:=h.lt r b ai;simpa [ha.aZ]using this)
 ·exact h.mem
 ·exact h.m0
 ·exact h.frame
 ·exact h.jc
 ·exact h.jE
 ·exact h.h_
def bV.drew{K:Ctx}{M:Mem}{β:Nat→Option Nat}{tmps:Array Value}{w:World}(h:bV P K M β st tmps w)(k:Nat):bV P K M β st tmps {w with drawn:=k}:=
 ⟨h.fC,h.own,h.uniq,h.unbox,h.box,h.inj,h.lt,h.mem,h.m0,h.frame,h.jc,h.jE,h.h_⟩
end
def bd.scope{P:Program}{N E:Nat}{c:Code}{Q:cu→aO→Prop}{st:aO}(h:bd P N E c Q st):bd P N E (.scope c) Q st:=by
 intro K eI a w hs;refine wp_scope_straight (wp_mono (h K eI a w hs) ?_)
 rintro e dH w' ⟨fJ,b_,Z,ab⟩
 cases fJ with
 |normal=>obtain⟨rfl,aq⟩:=Z;exact⟨.normal,b_,⟨rfl,aq⟩,ab⟩
 |exit i=>obtain⟨rfl,aq⟩:=Z;exact⟨.exit i,b_,⟨rfl,aq⟩,ab⟩
 |ret=>obtain⟨rfl,aq⟩:=Z;exact⟨.ret,b_,⟨rfl,aq⟩,ab⟩
 |aK x=>obtain⟨v,rfl,aq⟩:=Z;exact⟨.aK x,b_,⟨v,rfl,aq⟩,ab⟩
def iw.on{α β dq:Type}(x:α ⊕ β)(f:α→dq)(g:β→dq):dq:=
 match x with
 |.inl a=>f a
 |.inr b=>g b
def Hz.on{α β dq:Type}(x:α×β)(f:α→β→dq):dq:=f x.1 x.2
def HA(P:Program)(w:World):Prop:=(∀g,g∈Nb P→∃fR,w.cell? ⟨g,0,none⟩=some fR∧(fR = .nilIface∨∃cr rY,fR = .iface cr rY))∧
 ∀ g, P.globalNamed "internal/strconv.uint64pow10" = some g → ∃ t k_, w.heap[g]? = some (.cells Nc t k_)
section
variable {P:Program}
def bV.agz{K:Ctx}{M:Mem}{β:Nat→Option Nat}{st:aO}{tmps:Array Value}{w:World}(h:bV P K M β st tmps w):HA P w:=⟨λg hg=>by
 obtain⟨cs,t,k_,fR,Z,ab,aq⟩:=h.jE.1 g hg;refine⟨fR,?_,aq⟩
 have:=(h.frame g _ Z).1
 unfold World.cell?;rw [this];exact ab,λg hg=>by
 obtain⟨t,k_,Z⟩:=h.jE.2 g hg;exact⟨t,k_,(h.frame g _ Z).1⟩⟩
def Xr {f : FuncId} {args : List D} {vsOf : World → List Value → Prop} {d : D} {fd : Func} (kv : P.funcs[f]? = some fd) (hb : fd.body.isSome = true) (hn : decide (fd.name = "runtime.NumGoroutine") = false)
 (e7:∀(w:World) (M:Mem) (β:Nat→Option Nat) (vs:List Value),(∀b o v,M b o=some v→w.cell? ⟨b,o,none⟩=some v)→vs.length=args.length→(∀(i:Nat) v a,vs[i]? = some v→args[i]? = some a→cE M β v a)→vsOf w vs)
 (v_:∀(vs:List Value) (w:World),vsOf w vs→HA P w→Calls P f ⟨vs⟩ w λe w'=>∃v,e = .returned v∧(∀M β,cE M β v d)∧(∀(b:Nat) (a7:Obj),w.heap[b]? = some a7→w'.heap[b]? = some a7)∧(w'.os,w'.output)=(w.os,w.output)):
 hq P f args [] [] (.ret d none) []:=by
 refine⟨⟨fd,kv,hb,by simpa using hn⟩,λK w vs M β hlen hs hE=>?_⟩
 have ax:vsOf w vs:=e7 w M β vs hs.mem hlen λi v a hi ha=>by
  have Z:=hs.fC (.slot i) ⟨a,none⟩ (by
   simp only [aO.at,h2,nn,B1,ha,Option.map_some,look])
  have ab:cB (⟨vs⟩:Array Value) w β (.slot i)=v:=by
   simp [cB,hi]
  rw [ab]at Z;exact Z
 refine(v_ vs w ax hs.agz).mono ?_
 rintro e w' ⟨v,rfl,gR,vG,o1⟩
 refine⟨.ret d none,[],v,M,β,⟨rfl,rfl⟩,rfl,?_⟩
 have iv:∀b o v,w.cell? ⟨b,o,none⟩=some v→w'.cell? ⟨b,o,none⟩=some v:=by
  intro b o v h;unfold World.cell? at h ⊢;cases hb:w.heap[b]? with
  |none=>simp [hb]at h
  |some a7=>rw [vG b a7 hb];rw [hb]at h;exact h
 constructor
 ·intro l e ae;cases l with
  |slot s=>
   simp only [aO.at,iH,ee]at ae;split at ae
   ·rename_i h0;subst h0;cases ae;exact gR M β
   ·simp [look]at ae
  |cell r i=>simp [aO.at,cZ,look]at ae
 ·intro l e T ae aL;cases l with
  |slot s=>
   simp only [aO.at,iH,ee]at ae;split at ae
   ·cases ae;cases aL
   ·simp [look]at ae
  |cell r i=>simp [aO.at,cZ,look]at ae
 ·intro l cQ e bp T T' b ae aL;cases l with
  |slot s=>
   simp only [aO.at,iH,ee]at ae;split at ae
   ·cases ae;cases aL
   ·simp [look]at ae
  |cell r i=>simp [aO.at,cZ,look]at ae
 ·intro l e T b r cs ae aL hb ai;simp [cZ,look]at ai
 ·intro r cs ai;simp [cZ,look]at ai
 ·intro r dL b cs cs' ai;simp [cZ,look]at ai
 ·exact hs.lt
 ·exact λb o v h=>iv b o v (hs.mem b o v h)
 ·exact hs.m0
 ·exact λb a7 h=>⟨vG b a7 (hs.frame b a7 h).1,(hs.frame b a7 h).2⟩
 ·exact hs.jc
 ·exact hs.jE
 ·exact o1.trans hs.h_
def wl {f : FuncId} {args : List D} {vsOf : List Value → Prop} {d : D} {fd : Func} (kv : P.funcs[f]? = some fd) (hb : fd.body.isSome = true) (hn : decide (fd.name = "runtime.NumGoroutine") = false)
 (e7:∀(M:Mem) (β:Nat→Option Nat) (vs:List Value),vs.length=args.length→(∀(i:Nat) v a,vs[i]? = some v→args[i]? = some a→cE M β v a)→vsOf vs)
 (v_:∀(vs:List Value) (w:World),vsOf vs→HA P w→Calls P f ⟨vs⟩ w λe w'=>∃v,e = .returned v∧(∀M β,cE M β v d)∧(∀(b:Nat) (a7:Obj),w.heap[b]? = some a7→w'.heap[b]? = some a7)∧(w'.os,w'.output)=(w.os,w.output)):
 hq P f args [] [] (.ret d none) []:=
 Xr (vsOf:=λ_ vs=>vsOf vs) kv hb hn (λ_ M β vs _=>e7 M β vs) v_
end
def wm(co:gL)(tt:dT)(N:Nat)(ops:List Oper)(rs:List fB)(st:aO):Option Fin:=
 match tz co tt N ops ops {env:=st.env,ca:=[],H:=st.H,aZ:=st.aZ,rs,a7:=[]} with
 |some (.go g)=>match g.rs with
  |[]=>some (.go {env:=g.env,H:=g.H,aZ:=g.aZ} g.a7)
  |_=>none
 |some (.aK x st a7)=>some (.aK x st a7)
 |none=>none
def wo:List Oper→Nat→List (Nat×Nat)
 |[],_=>[]
 |o::l,n=>match q4 o,o.dst with
  |true,some t=>(t,n)::wo l (n+1)
  |_,_=>wo l n
def HB(ops:List Oper)(st:aO):dz:=
 {env:=st.env,ca:=[],H:=st.H,aZ:=st.aZ+(wo ops st.aZ).length,rs:=[],a7:=[],ids:=wo ops st.aZ}
def HC(co:gL)(tt:dT)(N:Nat)(ops:List Oper)(kb:List (List fB))(st:aO):Option Fin:=
 match wi co tt ops ops kb (HB ops st) with
 |some (cH,g,a7)=>bif Hy N ops cH then some (.go {env:=g.env,H:=g.H,aZ:=g.aZ} a7)else none
 |none=>none
def kc:Option Fin→aO
 |some (.go st _)=>st
 |some (.aK _ st _)=>st
 |none=>{env:=[],H:=[],aZ:=0}
def mB:Option Fin→Option (List Prop)
 |some (.go _ a7)=>some a7
 |_=>none
def OK:Option Fin→Option (V×List Prop)
 |some (.aK x _ a7)=>some (x,a7)
 |_=>none
def spread:Nat→Nat→List (Nat×List fB)→List (List fB)
 | 0,_,_=>[]
 |n+1,i,l=>(look l i).getD []::spread n (i+1) l
def HD:∀(l:List Oper) (n:Nat) (x:Nat×Nat),x∈wo l n→n≤x.2∧True
 |[],n,x,h=>by simp [wo]at h
 |o::l,n,x,h=>by
  unfold wo at h;split at h
  ·rcases List.mem_cons.1 h with h|h
   ·subst h;exact⟨Nat.le_refl _,trivial⟩
   ·have:=(HD l (n+1) x h).1;exact⟨by omega,trivial⟩
  ·exact HD l n x h
def bV.up{P:Program}{K:Ctx}{M:Mem}{β:Nat→Option Nat}{st:aO}{tmps:Array Value}{w:World}(h:bV P K M β st tmps w)(k:Nat):bV P K M β {env:=st.env,H:=st.H,aZ:=st.aZ+k} tmps w:=
 ⟨h.fC,h.own,h.uniq,h.unbox,h.box,h.inj,(λr b hb=>Nat.lt_of_lt_of_le (h.lt r b hb) (Nat.le_add_right _ _)),h.mem,h.m0,h.frame,h.jc,h.jE,h.h_⟩
section
variable {P:Program} {N E:Nat} {st:aO} {tt:dT}
def bd.rg{id:Nat}{opsA:Array Oper}{Q:cu→aO→Prop}(cF:fH P tt=true)(rs:List fB){bI:List Prop}(ai:mB (wm (jZ P) tt N opsA.toList rs st)=some bI)(cv:ll bI)
 (eQ:Q .normal (kc (wm (jZ P) tt N opsA.toList rs st))):bd P N E (.region id opsA false) Q st:=by
 rintro K eI a w ⟨_,hd,ew,M,β,cT⟩
 obtain⟨tmps,ds⟩:=a;simp only at hd ew
 subst hd;have sl:fX P K N M β {env:=st.env,ca:=[],H:=st.H,aZ:=st.aZ,rs:=rs,a7:=[]} tmps w:=⟨cT,ew,(λ_ _ h=>by simp [look]at h),λ_ _ _ h=>by simp [look]at h⟩
 refine wp_region ?_;unfold wm at ai eQ;have hlen:List.range opsA.size=List.range' 0 opsA.toList.length:=by rw [List.range_eq_range'];simp
 rw [hlen];split at ai
 ·rename_i g fi;split at ai
  case h_2=>cases ai
  rename_i eZ;simp only [mB,Option.some.injEq]at ai;subst ai;rw [fi]at eQ;simp only [eZ,kc]at eQ;refine Ot cF rfl (fin:=.go g) cv.mem ?_ opsA.toList 0 _ tmps w M β (λj=>by simp) sl fi
  intro fW w' M' β' cN;exact⟨.normal,_,⟨rfl,rfl,cN.size,M',β',cN.bF⟩,eQ⟩
 ·cases ai
 ·cases ai
def bd.OL{id:Nat}{opsA:Array Oper}{Q:cu→aO→Prop}(cF:fH P tt=true)(rs:List fB){x:V}{bI:List Prop}(ai:OK (wm (jZ P) tt N opsA.toList rs st)=some (x,bI))(cv:ll bI)
 (eQ:Q (.aK x) (kc (wm (jZ P) tt N opsA.toList rs st))):bd P N E (.region id opsA false) Q st:=by
 rintro K eI a w ⟨_,hd,ew,M,β,cT⟩
 obtain⟨tmps,ds⟩:=a;simp only at hd ew
 subst hd;have sl:fX P K N M β {env:=st.env,ca:=[],H:=st.H,aZ:=st.aZ,rs:=rs,a7:=[]} tmps w:=⟨cT,ew,(λ_ _ h=>by simp [look]at h),λ_ _ _ h=>by simp [look]at h⟩
 refine wp_region ?_;unfold wm at ai eQ;have hlen:List.range opsA.size=List.range' 0 opsA.toList.length:=by rw [List.range_eq_range'];simp
 rw [hlen];split at ai
 ·split at ai<;>cases ai
 ·rename_i y b_ a7 fi;simp only [OK,Option.some.injEq,Prod.mk.injEq]at ai;obtain⟨rfl,rfl⟩:=ai;rw [fi]at eQ;refine Ot cF rfl (fin:=.aK y b_ a7) cv.mem ?_ opsA.toList 0 _ tmps w M β (λj=>by simp) sl fi
  intro e dH w' cN;exact⟨.aK y,_,cN,eQ⟩
 ·cases ai
def bd.HE{id:Nat}{opsA:Array Oper}{Q:cu→aO→Prop}(cF:fH P tt=true)(hm:P.follows .mixedOrders=true)(kb:List (Nat×List fB)){bI:List Prop}(ai:mB (HC (jZ P) tt N opsA.toList (spread opsA.toList.length 0 kb) st)=some bI)(cv:ll bI)
 (eQ:Q .normal (kc (HC (jZ P) tt N opsA.toList (spread opsA.toList.length 0 kb) st))):bd P N E (.region id opsA true) Q st:=by
 rintro K eI a w ⟨_,hd,ew,M,β,cT⟩
 obtain⟨tmps,ds⟩:=a;simp only at hd ew
 subst hd;refine wp_region_any hm ?_;unfold HC at ai eQ;split at ai
 case h_2=>cases ai
 rename_i cH g tT fi;rw [fi]at eQ
 dsimp only at eQ
 rw [Bool.cond_eq_ite]at ai eQ;split at ai
 case isFalse=>cases ai
 rename_i hc;rw [if_pos hc]at eQ;simp only [mB,Option.some.injEq]at ai;subst ai;simp only [kc]at eQ;obtain⟨hlen,ky,OM⟩:=Xq (Fi:=λg1=>Alike g g1) fi cv.mem Alike.refl
 simp only [Hy,Bool.and_eq_true]at hc;obtain⟨⟨⟨c1,c2⟩,c3⟩,c4⟩:=hc
 have ef:∀(i:Nat) o E,opsA[i]? = some o→cH[i]? = some E→iJ opsA.toList o E=true:=by
  intro i o E aw b3;obtain⟨lj,z2⟩:=wk hlen i;have la:opsA.toList[i]? = some o:=by simpa using aw
  rw [la]at lj;rw [b3]at z2;cases cX:(lS opsA.toList cH)[i]? with
  |none=>rw [cX]at lj;simp at lj
  |some x=>
   rw [cX]at lj z2;simp at lj z2
   subst lj;subst z2;exact List.all_eq_true.1 c1 x (List.mem_of_getElem? cX)
 have aY:∀(i:Nat) E,cH[i]? = some E→q6 N E=true:=λi E b3=>List.all_eq_true.1 c2 E (List.mem_of_getElem? b3)
 have Ct:ol opsA (Array.replicate opsA.size false):=λj o aw hj=>by have bO:j<opsA.size:=(Array.getElem?_eq_some_iff.1 aw).1;simp [Array.getD_eq_getD_getElem?,bO]at hj
 have Cu:=jK.text ef (λg1 g2 gy Z=>Alike.trans Z gy) (lS opsA.toList cH) 0 (Array.replicate opsA.size false) _ (λj=>by have:=(wk hlen j).1;simpa using this) (λj=>by have:=(wk hlen j).2;simpa using this)
  ⟨by simp,λj hj=>by simp [hj]⟩ Ct c4 OM
 have vN:(lS opsA.toList cH).length=opsA.size:=by rw [OJ hlen];simp
 rw [vN]at Cu;refine jK.sound (K:=K) cF (λi E b3=>ky E (List.mem_of_getElem? b3)) ef aY c3 ?_ _ _ _ tmps _ M β Cu (by simp) Ct (λx hx=>by cases hx) ⟨(cT.drew _).up _,ew,(λs id h _ b hb=>by have Z:=cT.lt _ _ hb;have ab:=(HD _ _ _ (r0 h)).1;simp only at ab;omega),λ_ _ _ h=>by simp [HB,look]at h⟩
 intro g1 fW w' M' β' agA cN;exact⟨.normal,_,⟨rfl,rfl,cN.size,M',β',Alike.bF agA.symm cN.bF⟩,eQ⟩
def bd.ON{α:Type}{b:Bool}{x y:Option α}{r:Option α}(h:(bif b then x else y)=r){c:Nat}{wq wu:Code}{Q:cu→aO→Prop}(hc:(look st.env c).map (·.d)=some (.v (.bool b)))
 (aA:x=r→bd P N E wq Q st) (b5:y=r→bd P N E wu Q st):bd P N E (.cond (.tmp c) wq wu) Q st:=by
 simp only [Option.map_eq_some_iff]at hc;obtain⟨⟨d,own⟩,he,rfl⟩:=hc;exact bd.cond b own he (λhb=>aA (by subst hb;exact h)) (λhb=>b5 (by subst hb;exact h))
def bd.agB{c:Nat}{wq wu:Code}{Q:cu→aO→Prop}(hc:(look st.env c).map (·.d)=some (.v (.bool true)))(aA:bd P N E wq Q st):bd P N E (.cond (.tmp c) wq wu) Q st:=by
 simp only [Option.map_eq_some_iff]at hc;obtain⟨⟨d,own⟩,he,rfl⟩:=hc;exact bd.cond true own he (λ_=>aA) (λhb=>by cases hb)
def bd.Xs{c:Nat}{wq wu:Code}{Q:cu→aO→Prop}(hc:(look st.env c).map (·.d)=some (.v (.bool false)))(b5:bd P N E wu Q st):bd P N E (.cond (.tmp c) wq wu) Q st:=by
 simp only [Option.map_eq_some_iff]at hc;obtain⟨⟨d,own⟩,he,rfl⟩:=hc;exact bd.cond false own he (λhb=>by cases hb) (λ_=>b5)
end
def bN{P:Program}{f:FuncId}{args:List D}{et:List (Nat×TypeId)}{H cS:List (List a')}{out:Out}(_:hq P f args et H out cS)(os:List Nat):fB:=.call out (some cS) os
def bg{P:Program}{f:FuncId}{args:List D}{et:List (Nat×TypeId)}{H cS:List (List a')}{out:Out}(_:hq P f args et H out cS)(os:List Nat):fB:=.call out none os
def dr{c:Prop}{P:Program}{f:FuncId}{args:List D}{et:List (Nat×TypeId)}{H cS:List (List a')}{out:Out}(_:c→hq P f args et H out cS):fB:=.call out none []
def yO{c c2:Prop}{P:Program}{f:FuncId}{args:List D}{et:List (Nat×TypeId)}{H cS:List (List a')}{out:Out}(_:c→c2→hq P f args et H out cS):fB:=.call out none []
def hz{raw x:V}(_:hC raw x):fB:=.val x
def dm{α:Type}[Inhabited α]{k:Nat}{e:α→V}(l:List α):hC (.bS k l.length λi=>(l.map e).getD i .eC) (ag k e l):=aga rfl _ rfl
def ns(l:List Int):Bool:=l.all λx=>decide (0≤x)&&decide (x<256)
def kd(l:List Int):arY:=l.map λx=>UInt8.ofNat x.toNat
def Cv{l:List Int}(h:ns l=true):(kd l).length=l.length∧∀i,i<l.length→V.int .u8 (l.getD i default) = .int .u8 (((kd l).getD i 0).toNat:Int):=by
 refine⟨by simp [kd],λi hi=>?_⟩
 unfold ns at h;rw [List.all_eq_true]at h;have:=h l[i] (List.getElem_mem hi)
 simp only [Bool.and_eq_true,decide_eq_true_eq]at this;simp only [kd,List.getD,List.getElem?_map,List.getElem?_eq_getElem hi,Option.getD_some,Option.map_some,UInt8.toNat_ofNat'];rw [Nat.mod_eq_of_lt (by omega)]
 congr 1
 omega
def Cw(T:TypeId):V→Option (Int×Int)
 |.iface t (.agg [.int .i64 a,.int .i64 b])=>bif Nat.beq t T then some (a,b)else none
 |_=>none
def Xt{T:TypeId}{x:V}{r:Int×Int}(h:Cw T x=some r):x = .iface T (.agg [.int .i64 r.1,.int .i64 r.2]):=by
 unfold Cw at h;split at h
 ·rw [Bool.cond_eq_ite]at h;split at h
  ·rename_i hb;cases h;rw [Nat.beq_eq]at hb;subst hb;rfl
  ·cases h
 ·cases h
def wv(M:Mem):Option V→FrameMode→Prop
 |none,m=>m = .returning
 |some x,m=>∃v,m = .panicking [{v,recovered:=false}]∧di M v x
def ua(P:Program)(fd:FuncId)(args:List D)(H:List (List a'))(x:Option V)(R:List (List a')→Prop):Prop:=
 ∀(K:Ctx) (w:World) (vs:List Value) (M:Mem) (β:Nat→Option Nat) (mode:FrameMode),vs.length=args.length→
  bV P K M β {env:=h2 args [],H:=cZ 0 H,aZ:=H.length} ⟨vs⟩ w→(∀r b,β r=some b→K.lK r=some b)→wv M x mode→
  CallsD P fd ⟨vs⟩ mode w λe nt w'=>∃v b0 M' β',e = .returned v∧settle nt = .returning∧R b0∧bV P K M' β' {env:=iH (.ret (.bW []) none),H:=cZ 0 b0,aZ:=H.length} #[v] w'
section
variable {P:Program} {K:Ctx} {M:Mem} {β:Nat→Option Nat} {st:aO} {tmps:Array Value} {w:World} {tt:dT}
def wv.agC{x:Option V}{m:FrameMode}(h:wv M x m):m ≠ .run:=by
 cases x with
 |none=>intro hm;rw [hm]at h;cases h
 |some x=>obtain⟨v,Z,_⟩:=h;intro hm;rw [hm]at Z;cases Z
def wv.mono{M':Mem}(c8:M.le M'){x:Option V}{m:FrameMode}(h:wv M x m):wv M' x m:=by
 cases x with
 |none=>exact h
 |some x=>obtain⟨v,Z,ab⟩:=h;exact⟨v,Z,ab.mono c8⟩
def q7(P:Program)(tt:dT)(E:Nat)(rs:List ResultVar)(fd:FuncId)(ds:List D)(R:Out→List (List a')→Prop)(x:Option V)(st:aO):Prop:=
 ∃(ρ:List Nat) (bs H1:List (List a')) (jU:List D) (OO:List (List a')→Prop),nh ρ=true∧boxes st.H ρ=some bs∧kr (idx ρ) bs=some H1∧lI (idx ρ) ds=some jU∧ua P fd jU H1 x OO∧
  ∀cS,OO cS→∃ja o b0,cS.length=ρ.length∧kr (λj=>ρ[j]?) cS=some ja∧Ab.leave tt E rs {env:=st.env,H:=lJ ρ ja++st.H,aZ:=st.aZ}=some (o,b0)∧R o (oh b0)
def OP{fn:Func}{E:Nat}(cF:fH P tt=true)(eI:∀r b,K.lK r=some b→r<E)(hs:bV P K M β st tmps w){fd:FuncId}{ds:List D}{vs:List Value}(hlen:vs.length=ds.length)(ax:∀(i:Nat) v d,vs[i]? = some v→ds[i]? = some d→cE M β v d)
 {x : Option V} {mode : FrameMode} (hm : wv M x mode) {f : Func} (b5 : P.funcs[fd]? = some f) (hb : f.body.isSome = true) (j_ : decide (f.name = "runtime.NumGoroutine") = false) {R : Out → List (List a') → Prop} (nq : q7 P tt E fn.results.toList fd ds R x st) :
 Leaves P fn tmps (λe w'=>∃o b0 v M' β',R o b0∧e=tJ o v∧bV P K M' β' {env:=iH o,H:=cZ 0 b0,aZ:=E} #[v] w') [{target:=.fn (.func fd) ⟨vs⟩,args := #[]}] mode w:=by
 obtain⟨ρ,bs,H1,jU,OO,hn,lg,mx,e7,hd,Cn⟩:=nq;have q2:f.body≠none:=by intro bJ;rw [bJ]at hb;cases hb
 have Cx : f.name ≠ "runtime.NumGoroutine" := by simpa using j_
 refine leaves_cons (f:=fd) (args:=⟨vs⟩) hm.agC (by simp [invoke,callFunc,b5,q2,Cx]) ?_
 have hc:=We (hd:=[]) hs hn lg mx hlen ax e7 ⟨by simp,by simp,by simp⟩
 have fc:H1.length=ρ.length:=by rw [(yw mx).1,(vO lg).1]
 refine(hd (kR M β st tmps w ρ []) w vs M _ mode (by rw [hlen,WG e7]) hc (λr b h=>h) hm).mono ?_
 rintro e nt w' ⟨v,b0,M',β',rfl,hu,agD,cT⟩
 obtain⟨ja,o,Xu,Z,ab,aq,aN⟩:=Cn b0 agD;rw [fc]at cT;obtain⟨c8,OQ,_,_⟩:=N0 hs hn lg ab Z cT
 dsimp only
 rw [hu];obtain⟨v2,bn,mY,M2,ww,cd,ep⟩:=Cl cF eI OQ aq;exact⟨v2,bn,o,oh Xu,mY,M2,ww,aN,cd,ep.era⟩
def p9(P:Program)(_tt:dT)(fn:Func)(E:Nat)(c:Code)(R:Out→List (List a')→Prop)(st:aO):Prop:=
 ∀(K:Ctx),K.ds=[]→(∀r b,K.lK r=some b→r<E)→∀(a:Act) (w:World),tS P K fn.ntmps .normal st .normal a w→
  c.wp P (bodyPostD P fn λe w'=>∃o b0 v M' β',R o b0∧e=tJ o v∧bV P K M' β' {env:=iH o,H:=cZ 0 b0,aZ:=E} #[v] w') a w
def OR(P:Program)(tt:dT)(fn:Func)(E:Nat)(y:Code)(R:Out→List (List a')→Prop):cu→aO→Prop
 |.normal,st=>p9 P tt fn E y R st
 |.ret,st=>∃o b0,Ab.leave tt E fn.results.toList st=some (o,b0)∧R o (oh b0)
 |_,_=>False
def p9.seq{fn:Func}{E:Nat}{x y:Code}{R:Out→List (List a')→Prop}(cF:fH P tt=true)(h:bd P fn.ntmps E x (OR P tt fn E y R) st):p9 P tt fn E (.seq x y) R st:=by
 intro K ic eI a w hs;refine wp_seq (wp_mono (h K eI a w hs) ?_)
 rintro e dH w' ⟨fJ,b_,Z,ab⟩
 cases fJ with
 |normal=>obtain⟨rfl,aq⟩:=Z;exact ab K ic eI dH w' ⟨rfl,aq⟩
 |ret=>
  obtain⟨rfl,hd,_,M',β',cT⟩:=Z;obtain⟨o,b0,aq,aN⟩:=ab;obtain⟨v,bn,mY,M2,ww,cd,ep⟩:=Cl cF eI cT aq;show Leaves P fn dH.tmps _ dH.defers .returning w'
  rw [hd,ic];exact⟨v,bn,o,oh b0,mY,M2,ww,aN,cd,ep.era⟩
 |exit i=>exact ab.elim
 |aK x=>exact ab.elim
def OS(P:Program)(tt:dT)(E:Nat)(rs:List ResultVar)(fd:FuncId)(ds:List D)(R:Out→List (List a')→Prop):cu→aO→Prop
 |.normal,st |.ret,st=>q7 P tt E rs fd ds R none st
 |.aK x,st=>q7 P tt E rs fd ds R (some x) st
 |.exit _,_=>False
def p9.defer{fn:Func}{E:Nat}{id:Nat}{opsA:Array Oper}{dU h3:Oper}{y:Code}{R:Out→List (List a')→Prop}(cF:fH P tt=true)(np:opsA = #[dU,h3]){t:Nat}{fd:FuncId}{fh:Array Operand}{c:Call}
 (Z:dU.op = .makeFunc (.func fd) #[] fh) (ab:dU.dst=some t) (aq:dU.guard=none) (aN:h3.op = .defer c) (bn:h3.dst=none) (cd:h3.guard=none) (ep:c.callee = .value (.tmp t)) (ek:c.args = #[]) (aA:Nat.blt t fn.ntmps=true)
 {ds : List D} (agE : mapM' (rd st.env [] [] tt 0) fh.toList = some ds) (_hE : Nat.ble E st.aZ = true) {f : Func} (b5 : P.funcs[fd]? = some f) (hb : f.body.isSome = true) (j_ : decide (f.name = "runtime.NumGoroutine") = false)
 (ic:vv st.aZ ds=true)
 (h:bd P fn.ntmps st.aZ y (OS P tt E fn.results.toList fd ds R) {env:=del st.env t,H:=st.H,aZ:=st.aZ}):p9 P tt fn E (.seq (.region id opsA false) y) R st:=by
 rintro K agF eI a w ⟨_,hd,ew,M,β,cT⟩
 obtain⟨tmps,defers⟩:=a;simp only at hd ew
 rw [agF]at hd;subst hd;have bO:t<tmps.size:=by rw [ew];simpa using aA
 -- l' captured values
 obtain⟨fc,eY⟩:=tG agE;have sl:fX P K fn.ntmps M β {env:=st.env,ca:=[],H:=st.H,aZ:=st.aZ,rs:=[],a7:=[]} tmps w:=⟨cT,ew,(λ_ _ h=>by simp [look]at h),λ_ _ _ h=>by simp [look]at h⟩
 have nm:∀(i:Nat) v d,(fh.toList.map (⟨tmps,[]⟩:Act).eval)[i]? = some v→ds[i]? = some d→cE M β v d:=by
  intro i v d ax hd;rw [List.getElem?_map,Option.map_eq_some_iff]at ax;obtain⟨x,hx,rfl⟩:=ax;exact er (ds:=[]) (p:=[]) sl (λx hx=>by cases hx) (eY i x d hx hd)
 have hlen:(fh.toList.map (⟨tmps,[]⟩:Act).eval).length=ds.length:=by simp at fc ⊢;omega
 -- l' frame behind l' region
 have p':bV P K M β {env:=del st.env t,H:=st.H,aZ:=st.aZ} (tmps.setIfInBounds t (.func (.func fd) #[] ⟨fh.toList.map (⟨tmps,[]⟩:Act).eval⟩)) w:=cT.drop
 let q8:Ctx:={BK:=M,F:=K.F,lK:=λr=>if r<st.aZ then β r else none,h_:=K.h_,ds:=[{target:=.fn (.func fd) ⟨fh.toList.map (⟨tmps,[]⟩:Act).eval⟩,args := #[]}]}
 have OQ:bV P q8 M β {env:=del st.env t,H:=st.H,aZ:=st.aZ} (tmps.setIfInBounds t (.func (.func fd) #[] ⟨fh.toList.map (⟨tmps,[]⟩:Act).eval⟩)) w:=
  ⟨p'.fC,p'.own,p'.uniq,p'.unbox,p'.box,p'.inj,p'.lt,p'.mem,Mem.le_refl _,(λb a7 d9=>⟨(p'.frame b a7 d9).1,λ_=>rfl⟩),(λr b hb=>by
   simp only [q8]at hb;split at hb
   ·exact hb
   ·cases hb),p'.jE,p'.h_⟩
 have OT:∀{M':Mem} {β':Nat→Option Nat} {b_:aO} {fW:Array Value} {w':World},bV P q8 M' β' b_ fW w'→bV P K M' β' b_ fW w':=by
  intro M' β' b_ fW w' cN
  exact⟨cN.fC,cN.own,cN.uniq,cN.unbox,cN.box,cN.inj,cN.lt,cN.mem,Mem.le_trans cT.m0 cN.m0,(λb a7 d9=>⟨(cN.frame b a7 d9).1,λo=>((cN.frame b a7 d9).2 o).trans ((cT.frame b a7 d9).2 o)⟩),(λr b hb=>cN.jc r b (by
   have iG:=cT.jc r b hb;have ln:=cT.lt r b iG;simp only [q8];rw [if_pos ln];exact iG)),cN.jE,cN.h_⟩
 have hE:∀{M':Mem} {β':Nat→Option Nat} {b_:aO} {fW:Array Value} {w':World},bV P q8 M' β' b_ fW w'→∀r,r<st.aZ→∀b,β r=some b→β' r=some b:=λcN r ai b hb=>cN.jc r b (by simp only [q8];rw [if_pos ai];exact hb)
 refine wp_seq (wp_region ?_);subst np
 have e1:(execOp (Act.eval ⟨tmps,[]⟩) dU).run P w = .ok (.value (.func (.func fd) #[] ⟨fh.toList.map (⟨tmps,[]⟩:Act).eval⟩)) w:=by
  simp only [execOp,Z,Instr.makeFunc];refine jI _ ?_;simp
  congr 1
  apply Array.ext';simp
 have e2:(execOp (Act.eval ⟨tmps.setIfInBounds t (.func (.func fd) #[] ⟨fh.toList.map (⟨tmps,[]⟩:Act).eval⟩),[]⟩) h3).run P w = .ok (.defer {target:=.fn (.func fd) ⟨fh.toList.map (⟨tmps,[]⟩:Act).eval⟩,args := #[]}) w:=by
  simp [execOp,aN,resolve,ep,ek,Deferred.ofValue,Act.eval,bO]
 show wpOps P #[dU,h3] _ (List.range 2) ⟨tmps,[]⟩ w
 simp only [List.range,List.range.loop,wpOps];have HF:∀kT,Region.wanted dU (yielded #[dU,h3] kT)=true:=λkT=>by simp [Region.wanted,aq]
 have Cy:∀kT,Region.wanted h3 (yielded #[dU,h3] kT)=true:=λkT=>by simp [Region.wanted,cd]
 simp only [show(#[dU,h3]:Array Oper)[0]? = some dU from rfl,show(#[dU,h3]:Array Oper)[1]? = some h3 from rfl,HF,Cy,if_true]
 refine .inl ?_;unfold Oper.wp;rw [e1,Oper.upon_value,ab];refine .inl ?_;have agG:(execOp ((⟨tmps,[]⟩:Act).put (some t) (.func (.func fd) #[] ⟨fh.toList.map (⟨tmps,[]⟩:Act).eval⟩)).eval h3).run P w = .ok (.defer {target:=.fn (.func fd) ⟨fh.toList.map (⟨tmps,[]⟩:Act).eval⟩,args := #[]}) w:=e2;rw [agG,Oper.upon_defer,bn];show y.wp P _ ⟨tmps.setIfInBounds t _,[_]⟩ w
 have sk:∀r b,q8.lK r=some b→r<st.aZ:=by
  intro r b hb;simp only [q8]at hb;split at hb
  ·assumption
  ·cases hb
 refine wp_mono (h q8 sk _ w ⟨rfl,rfl,by simpa using ew,M,β,OQ⟩) ?_
 rintro e dH w' ⟨fJ,b_,g1,g2⟩
 have o5:∀{M':Mem} {β':Nat→Option Nat} {b_:aO} {fW:Array Value} {w':World},bV P q8 M' β' b_ fW w'→∀(i:Nat) v d,(fh.toList.map (⟨tmps,[]⟩:Act).eval)[i]? = some v→ds[i]? = some d→cE M' β' v d:=by
  intro M' β' b_ fW w' cN i v d ax hd;have c8:M.le M':=cN.m0;exact((nm i v d ax hd).mono c8).adU (λr ai b hb=>hE cN r ai b hb) (tB ic hd)
 cases fJ with
 |normal=>
  obtain⟨rfl,hd,_,M',β',hs⟩:=g1;show Leaves P fn dH.tmps _ dH.defers .returning w'
  rw [hd];exact OP cF eI (OT hs) hlen (o5 hs) (x:=none) rfl b5 hb j_ g2
 |ret=>
  obtain⟨rfl,hd,_,M',β',hs⟩:=g1;show Leaves P fn dH.tmps _ dH.defers .returning w'
  rw [hd];exact OP cF eI (OT hs) hlen (o5 hs) (x:=none) rfl b5 hb j_ g2
 |exit i=>exact g2.elim
 |aK x=>
  obtain⟨v,rfl,hd,M',β',gR,hs⟩:=g1;show Leaves P fn dH.tmps _ dH.defers (.panicking _) w'
  rw [hd];exact OP cF eI (OT hs) hlen (o5 hs) (x:=some x) ⟨v,rfl,gR⟩ b5 hb j_ g2
def qX.agH {f : FuncId} {fn : Func} {c : Code} {args : List D} {et : List (Nat × TypeId)} {H : List (List a')} {R : Out → List (List a') → Prop} (b5 : P.funcs[f]? = some fn) (hb : fn.body = some c) (j_ : decide (fn.name = "runtime.NumGoroutine") = false)
 (e7:Nat.ble args.length fn.ntmps=true) (h:p9 P tt fn H.length c R {env:=h2 args et,H:=cZ 0 H,aZ:=H.length}):qX P f args et H R:=by
 refine⟨⟨fn,b5,by rw [hb];rfl,by simpa using j_⟩,?_⟩
 intro cG w vs M β hlen Ov Ow
 suffices key:∀K:Ctx,K.ds=[]→bV P K M β {env:=h2 args et,H:=cZ 0 H,aZ:=H.length} ⟨vs⟩ w→(∀r b,β r=some b→K.lK r=some b)→
  Calls P f ⟨vs⟩ w λe w'=>∃o b0 v M' β',R o b0∧e=tJ o v∧bV P K M' β' {env:=iH o,H:=cZ 0 b0,aZ:=H.length} #[v] w' from
  (key {cG with ds:=[]} rfl (Ov.wa []) Ow).mono λe w' ⟨o,b0,v,M',β',Z,ab,aq⟩=>⟨o,b0,v,M',β',Z,ab,aq.wa cG.ds⟩
 intro K ic cT hE;have eI:∀r b,K.lK r=some b→r<H.length:=λr b hb=>cT.lt r b (cT.jc r b hb)
 simp only [Nat.ble_eq]at e7;exact calls_of_wp_defers b5 hb (h K ic eI {tmps:=(⟨vs⟩:Array Value)++Array.replicate (fn.ntmps-(⟨vs⟩:Array Value).size) undef,defers:=[]} w ⟨rfl,ic.symm,by simp;omega,M,β,Ou hlen cT⟩)
def ua.Xv{fd:FuncId}{fn:Func}{i0:Nat}{opsA:Array Oper}{dU h3:Oper}{rest:Code}{r t2:Nat}{c:Call}(cF:fH P tt=true)(b5:P.funcs[fd]? = some fn)(hb:fn.body=some (.seq (.region i0 opsA false) rest))(np:opsA = #[dU,h3])
 (Z:dU.op = .call c) (ab:dU.dst=some r) (aq:dU.guard=none) (aN:c.callee = .builtin .recover) (bn:c.args = #[]) (cd:h3.op = .assign (.tmp r)) (ep:h3.dst=some t2) (ek:h3.guard=none)
 {args:List D} {H:List (List a')} {x:Option V} {R:List (List a')→Prop} (ai:Nat.blt r fn.ntmps=true) (gh:Nat.blt t2 fn.ntmps=true) (e7:Nat.ble args.length fn.ntmps=true)
 (h:bd P fn.ntmps H.length rest (tU tt H.length fn.results.toList λo b0=>o = .ret (.bW []) none∧R b0) {env:=(t2,{d:=.v (x.getD .iF)})::del (h2 args []) r,H:=cZ 0 H,aZ:=H.length}):ua P fd args H x R:=by
 intro K w vs M β mode hlen cT hE hm;have eI:∀r b,K.lK r=some b→r<H.length:=λr b hb=>cT.lt r b (cT.jc r b hb)
 simp only [Nat.ble_eq]at e7;simp only [Nat.blt_eq]at ai gh;refine callsD_of_wpS b5 hb λub cs hu=>?_
 apply wpS_seq;apply wpS_region;subst np;have HF:∀kT,Region.wanted dU (yielded #[dU,h3] kT)=true:=λkT=>by simp [Region.wanted,aq]
 have Cy:∀kT,Region.wanted h3 (yielded #[dU,h3] kT)=true:=λkT=>by simp [Region.wanted,ek]
 have e1:∀a:Act,(execOp a.eval dU).run P w = .ok .recover w:=λa=>by
  simp [execOp,Z,resolve,aN,bn,invoke,builtin]
 have dC:=Ou (n:=fn.ntmps-(⟨vs⟩:Array Value).size) hlen cT
 -- N1 'recover' afI
 have key:∃(v:Value) (nt:FrameMode),di M v (x.getD .iF)∧settle nt = .returning∧(recoverD (ub::cs)=some (v,{ub with mode:=nt}::cs)∨(recoverD (ub::cs)=none∧v = .nilIface∧({ub with mode:=nt}:Frame)=ub)):=by
  cases x with
  |none=>
   have kA:mode = .returning:=hm;subst kA;exact⟨.nilIface,.returning,.iF,rfl,.inr ⟨by simp [recoverD,hu],rfl,by rw [←hu]⟩⟩
  |some y=>
   obtain⟨v,kA,ax⟩:=hm;subst kA;exact⟨v,.panicking [{v,recovered:=true}],ax,by simp [settle],.inl (by simp [recoverD,hu])⟩
 obtain⟨v,nt,ax,yt,Cz⟩:=key;show wpOpsS P #[dU,h3] _ (List.range 2) _ (ub::cs) w
 simp only [List.range,List.range.loop,wpOpsS,show(#[dU,h3]:Array Oper)[0]? = some dU from rfl,show(#[dU,h3]:Array Oper)[1]? = some h3 from rfl,HF,Cy,if_true,e1]
 have e2:∀kT:Array Value,r<kT.size→(execOp (Act.eval ⟨kT.setIfInBounds r v,[]⟩) h3).run P w = .ok (.value v) w:=λkT aA=>by
  simp [execOp,cd,Act.eval,aA]
 have ew:((⟨vs⟩:Array Value)++Array.replicate (fn.ntmps-(⟨vs⟩:Array Value).size) undef).size=fn.ntmps:=by simp;omega
 generalize aqV:(⟨vs⟩:Array Value)++Array.replicate (fn.ntmps-(⟨vs⟩:Array Value).size) undef=kT at dC ew
 have nq:∀cs',cs'={ub with mode:=nt}::cs→rest.wpS P (bodyPostS P fn ub cs λe nt w'=>∃v b0 M' β',e = .returned v∧settle nt = .returning∧R b0∧bV P K M' β' {env:=iH (.ret (.bW []) none),H:=cZ 0 b0,aZ:=H.length} #[v] w')
  ⟨(kT.setIfInBounds r v).setIfInBounds t2 v,[]⟩ cs' w:=by
  intro cs' ev
  have CA:bV P {K with ds:=[]} M β {env:=(t2,{d:=.v (x.getD .iF)})::del (h2 args []) r,H:=cZ 0 H,aZ:=H.length} ((kT.setIfInBounds r v).setIfInBounds t2 v) w:=
   ((dC.drop (t:=r) (v:=v)).put (t:=t2) (v:=v) (e:={d:=.v (x.getD .iF)}) (by rw [Array.size_setIfInBounds,ew];exact gh) (.v _ _ ax) (λT aL=>by cases aL)).wa []
  refine wpS_of_wp (wp_mono (h {K with ds:=[]} eI _ w ⟨rfl,rfl,by simpa using ew,M,β,CA⟩) ?_)
  rintro e dH w' ⟨fJ,b_,g1,g2⟩
  cases fJ with
  |normal=>
   obtain⟨rfl,hd,_,M',β',hs⟩:=g1;obtain⟨o,b0,g3,rfl,g4⟩:=g2;obtain⟨v2,g5,mY,M2,ww,g6,g7⟩:=Cl cF (K:={K with ds:=[]}) eI hs g3;cases g6;exact⟨hd,nt,ev,v2,g5,v2,b0,M2,ww,rfl,yt,g4,g7.wa K.ds⟩
  |ret=>
   obtain⟨rfl,hd,_,M',β',hs⟩:=g1;obtain⟨o,b0,g3,rfl,g4⟩:=g2;obtain⟨v2,g5,mY,M2,ww,g6,g7⟩:=Cl cF (K:={K with ds:=[]}) eI hs g3;cases g6;exact⟨hd,nt,ev,v2,g5,v2,b0,M2,ww,rfl,yt,g4,g7.wa K.ds⟩
  |exit i=>exact g2.elim
  |aK y=>
   obtain⟨b0,_,g4,_⟩:=g2;cases g4
 have e3:(execOp ((({tmps:=kT,defers:=[]}:Act).put dU.dst v).eval) h3).run P w = .ok (.value v) w:=by
  rw [ab];exact e2 kT (by omega)
 rcases Cz with Cz|⟨Cz,rfl,hc0⟩
 ·simp only [Cz,e3];rw [Oper.upon_value,ab,ep];exact nq _ rfl
 ·simp only [Cz,e3];rw [Oper.upon_value,ab,ep];exact nq _ (by rw [hc0])
end
def p_(H:List (Nat×List a')):Nat→List (Nat×List a')
 | 0=>[]
 |n+1=>match look H n with
  |some cs=>(n,cs)::p_ H n
  |none=>p_ H n
def OU{H:List (Nat×List a')}:∀{n q:Nat} {cs:List a'},look (p_ H n) q=some cs→q<n∧look H q=some cs
 | 0,q,cs,h=>by simp [p_,look]at h
 |n+1,q,cs,h=>by
  unfold p_ at h;split at h
  ·rename_i c hc;rw [ee]at h;split at h
   ·rename_i ao;subst ao;cases h;exact⟨by omega,hc⟩
   ·obtain⟨Z,ab⟩:=OU h;exact⟨by omega,ab⟩
  ·obtain⟨Z,ab⟩:=OU h;exact⟨by omega,ab⟩
def Xw(mk:Nat)(ops:List Oper)(o:Oper)(x:V)(hs:List (Nat×List a'))(a7:List Prop)(kB:List Nat)(rs:List fB)(tX:List (Nat×List a')):ez:=
 {dst:=o.dst,p:=[],f:={e:=none,rs:=[],hs:=[(mk,[])],a7},kB,nr:=p4 ops o,p2:=q4 o,rs,e8:=1,wb:=x,p3:=hs,tX}
def Xx(ops:List Oper)(o:Oper):ez:=
 {dst:=o.dst,p:=[],f:={e:=none,rs:=[]},kB:=[],nr:=p4 ops o,p2:=q4 o,rs:=[],e8:=2}
def sm(co:gL)(tt:dT)(ops:List Oper)(gz mk:Nat):Nat→List Oper→List (List fB)→dz→Option (List ez×dz×List Prop×List (V×List (Nat×List a')))
 |_,[],[],g=>some ([],g,[],[])
 |i,o::l,rs::kb,g=>bif Nat.beq i gz then match pR ops g o with
  |some []=>match step1 co tt ops {g with rs:=rs} [] o with
   |some (.aK x hs a7)=>match sm co tt ops gz mk (i+1) l kb (eE (Xw mk ops o x hs a7 (jg tt g [] o++List.range mk) rs g.H) g) with
    |some (cH,e6,tT,xs)=>some (Xw mk ops o x hs a7 (jg tt g [] o++List.range mk) rs g.H::cH,e6,tT++a7,(x,hs++p_ g.H mk)::xs)
    |none=>none
   |_=>none
  |_=>none
  else bif waits ops gz 3 i then match sm co tt ops gz mk (i+1) l kb (eE (Xx ops o) g) with
   |some (cH,e6,tT,xs)=>some (Xx ops o::cH,e6,tT,xs)
   |none=>none
  else match findD co tt ops g o rs with
   |some E=>bif E.f.hs.all (λy=>!Nat.beq y.1 mk)then match sm co tt ops gz mk (i+1) l kb (eE E g) with
    |some (cH,e6,tT,xs)=>some (E::cH,e6,tT++E.f.a7.map (under g E.p),xs)
    |none=>none
    else none
   |none=>none
 |_,_,_,_=>none
def CB(co:gL)(tt:dT)(N:Nat)(ops:List Oper)(gz mk:Nat)(kb:List (List fB))(st:aO):Option (V×List (Nat×List a')×List Prop):=
 match sm co tt ops gz mk 0 ops kb (HB ops st) with
 |some (cH,g,a7,[(x,hs)])=>bif Hy N ops cH&&(look g.H mk).isSome&&(look st.H mk).isNone then some (x,hs,a7)else none
 |_=>none
def OV:Option (V×List (Nat×List a')×List Prop)→Option (V×List Prop)
 |some (x,_,bI)=>some (x,bI)
 |none=>none
def OW:Option (V×List (Nat×List a')×List Prop)→List (Nat×List a')
 |some (_,H,_)=>H
 |none=>[]
section
variable {P:Program} {K:Ctx} {N E:Nat} {st:aO} {tt:dT} {opsA:Array Oper} {co:gL}
structure Xy(opsA:Array Oper)(cH:List ez)(gz mk:Nat)(x:V)(hs:List (Nat×List a')):Prop where
 dead:∀(i:Nat) E,cH[i]? = some E→E.e8=2→waits opsA.toList gz 3 i=true
 aK:∀(i:Nat) E,cH[i]? = some E→E.e8=1→E.p=[]∧E.wb=x∧E.p3++p_ E.tX mk=hs∧∀q,q<mk→q∈E.kB
 go:∀(i:Nat) E,cH[i]? = some E→E.e8=0→i≠gz∧(E.f.hs.all (λy=>!Nat.beq y.1 mk))=true
 e8:∀(i:Nat) E,cH[i]? = some E→E.e8=0∨E.e8=1∨E.e8=2
def agI{listed:Array Bool}(gS:ol opsA listed){i gz:Nat}(hi:i∈Region.ready .any opsA listed){n:Nat}(hw:waits opsA.toList gz n i=true):listed.getD gz false=true:=by
 cases n with
 |zero=>simp [waits]at hw
 |succ n=>
  obtain⟨_,o,aw,p6⟩:=mem_ready.1 hi;rw [waits]at hw;have ae:opsA.toList[i]? = some o:=by simpa using aw
  simp only [ae]at hw;obtain⟨e,he,hb⟩:=List.any_eq_true.1 hw;simp only [Bool.and_eq_true,Bool.or_eq_true,Nat.beq_eq]at hb;have Z:=p6 e (by simpa using he) hb.1
  rcases hb.2 with rfl|ab
  ·exact Z
  ·exact Hp gS ab Z
def OX{mk:Nat}:∀{l H:List (Nat×List a')},(l.all λy=>!Nat.beq y.1 mk)=true→look H mk=none→look (l++H) mk=none
 |[],_,_,h=>h
 |(a,b)::l,H,ae,h=>by
  simp only [List.all_cons,Bool.and_eq_true,Bool.not_eq_true']at ae;rw [List.cons_append,ee];have:a≠mk:=by intro e;subst e;simp at ae
  rw [if_neg this];exact OX ae.2 h
def agJ{E:ez}{g:dz}{mk:Nat}(h:(E.f.hs.all λy=>!Nat.beq y.1 mk)=true)(hg:look g.H mk=none):look (eE E g).H mk=none:=by
 unfold eE;cases E.dst with
 |none=>exact OX h hg
 |some t=>
  cases E.p with
  |nil=>exact OX h hg
  |cons x p=>dsimp only;cases E.f.e<;>exact hg
def jK.Xz(cF:fH P tt=true){cH:List ez}{gz mk:Nat}{x:V}{hs:List (Nat×List a')}(lR:Xy opsA cH gz mk x hs)(ef:∀(i:Nat) o E,opsA[i]? = some o→cH[i]? = some E→iJ opsA.toList o E=true)(aY:∀(i:Nat) E,cH[i]? = some E→q6 N E=true)(kQ:Cs opsA.toList cH=true){Q:Exit→Act→World→Prop}
 (eQ:∀n e dH w',tS P K N (.aK x) {env:=[],H:=hs,aZ:=n} e dH w'→Q e dH w'):
 ∀(n:Nat) (listed:Array Bool) (g:dz) (tmps:Array Value) (w:World) (M:Mem) (β:Nat→Option Nat),jK (jZ P) tt opsA cH (λg=>(look g.H mk).isSome=true) n listed g→listed.size=opsA.size→ol opsA listed→t_ cH listed g→listed.getD gz false=false→look g.H mk=none→fX P K N M β g tmps w→wpAny P .any opsA Q n listed ⟨tmps,K.ds⟩ w
 | 0,_,g,tmps,w,M,β,h,_,_,_,_,fq,_=>by have:(look g.H mk).isSome=true:=h.2;rw [fq]at this;cases this
 |n+1,listed,g,tmps,w,M,β,h,ew,gS,mS,XA,fq,gf=>by
  refine⟨(λai=>by have:(look g.H mk).isSome=true:=h.1 ai;rw [fq]at this;cases this),λi hi=>?_⟩
  obtain⟨o,E,aw,b3,Hx,hn⟩:=h.2 i hi;have bO:i<listed.size:=by rw [ew];exact(Array.getElem?_eq_some_iff.1 aw).1
  have om:listed.getD i false=false:=by have:=(mem_ready.1 hi).1;simpa [Array.getD_eq_getD_getElem?,bO]using this
  have p1:fX P K N M β {g with rs:=E.rs,a7:=[]} tmps w:=⟨gf.bF,gf.size,gf.fresh,gf.cond⟩;unfold wpOp;simp only [aw];rcases lR.e8 i E b3 with hk|hk|hk
  ·have ka:=Hx.resolve_left (by rw [hk];simp)
   obtain⟨q9,v'⟩:=lR.go i E b3 hk;have OH:=Xp (N:=N) hk ka b3 (ef i o E aw b3) (aY i E b3) kQ gS om mS;refine Oo p1 cF (opsA:=opsA) rfl OH (λq ao=>?_) (λfW w' M' β' cN=>?_)
   ·obtain⟨q',pY,rfl⟩:=List.mem_map.1 ao;exact ka.a7 q' pY
   ·exact jK.Xz cF lR ef aY kQ eQ n _ (eE E g) fW w' M' β' hn (by simpa using ew) (gS.set hi) (mS.ap b3 bO) (by rw [getD_set_ne false q9];exact XA) (agJ v' fq) ⟨cN.bF,cN.size,cN.fresh,cN.cond⟩
  ·have ka:=Hx.resolve_left (by rw [hk];simp)
   obtain⟨hp,hx,agK,o8⟩:=lR.aK i E b3 hk
   have dC:step1 (jZ P) tt opsA.toList {g with rs:=E.rs,a7:=[]} [] o=some (.aK x E.p3 E.f.a7):=by
    have Z:=ka.st;rw [hk,hp,hx]at Z;refine Eq.trans ?_ Z;exact OB (g1:={g with rs:=E.rs,a7:=[]}) (g2:={g with rs:=E.rs}) (λ_ _ _ _=>⟨rfl,rfl⟩) rfl rfl (λ_=>rfl) (λ_ _=>rfl)
   have OY:pR opsA.toList {g with rs:=E.rs,a7:=[]} o=some []:=by rw [←hp];exact ka.Hm
   have agL:n9 (jZ P) tt N opsA.toList {g with rs:=E.rs,a7:=[]} o=some (.aK x {env:=pQ g.env,H:=E.p3++g.H,aZ:=g.aZ} (E.f.a7++[])):=by
    unfold n9;rw [OY]
    dsimp only
    rw [dC];rfl
   refine WV p1 cF (opsA:=opsA) rfl agL (λq ao=>?_) (λe dH w' sk=>?_)
   ·rw [List.append_nil]at ao;have:=ka.a7 q ao
    rw [hp]at this;exact this
   ·obtain⟨v,Z,ab,BT,BU,aq,aN⟩:=sk;have nq:=ka.fin hk
    have ma:∀q cs,look hs q=some cs→look (E.p3++g.H) q=some cs:=by
     intro q cs ao;rw [←agK,yJ]at ao;rw [yJ];cases ae:look E.p3 q with
     |some c=>rw [ae]at ao;exact ao
     |none=>
      rw [ae]at ao;obtain⟨bn,cd⟩:=OU ao;rw [←cd];exact nq q (o8 q bn)
    refine eQ g.aZ e dH w' ⟨v,Z,ab,BT,BU,aq,(aN.Cg _).sub rfl (λl bp ae=>?_) (λq cs ao=>⟨cs,ma q cs ao,rfl⟩)⟩
    cases l with
    |slot s=>simp [aO.at,look]at ae
    |cell q i=>
     simp only [aO.at]at ae ⊢;cases ao:look hs q with
     |none=>rw [ao]at ae;simp at ae
     |some cs=>
      rw [ao]at ae;rw [ma q cs ao];exact⟨bp,ae,rfl,λ_ h=>h⟩
  ·have:=agI gS hi (lR.dead i E b3 hk)
   rw [XA]at this;cases this
def HG{ops:List Oper}{gz mk:Nat}{Fi:dz→Prop}:∀{l:List Oper} {i:Nat} {kb:List (List fB)} {g:dz} {cH:List ez} {e6:dz} {a7:List Prop} {xs:List (V×List (Nat×List a'))},sm co tt ops gz mk i l kb g=some (cH,e6,a7,xs)→(∀q,q∈a7→q)→Fi e6→
 cH.length=l.length∧Hu co tt ops Fi (lS l cH) g∧
 (∀(j:Nat) E,cH[j]? = some E→(E.e8=0∧i+j≠gz∧(E.f.hs.all (λy=>!Nat.beq y.1 mk))=true)∨(E.e8=1∧E.p=[]∧(E.wb,E.p3++p_ E.tX mk)∈xs∧∀q,q<mk→q∈E.kB)∨(E.e8=2∧waits ops gz 3 (i+j)=true))
 |[],i,[],g,cH,e6,a7,xs,h,_,d9=>by
  simp only [sm,Option.some.injEq,Prod.mk.injEq]at h;obtain⟨rfl,rfl,rfl,rfl⟩:=h;exact⟨rfl,d9,by simp⟩
 |[],_,_::_,_,_,_,_,_,h,_,_=>by simp [sm]at h
 |_::_,_,[],_,_,_,_,_,h,_,_=>by simp [sm]at h
 |o::l,i,rs::kb,g,cH,e6,a7,xs,h,cv,d9=>by
  have next:∀{E:ez} {wj:List ez} {yP:List (V×List (Nat×List a'))},(∀(j:Nat) E,wj[j]? = some E→(E.e8=0∧i+1+j≠gz∧(E.f.hs.all (λy=>!Nat.beq y.1 mk))=true)∨(E.e8=1∧E.p=[]∧(E.wb,E.p3++p_ E.tX mk)∈yP∧∀q,q<mk→q∈E.kB)∨(E.e8=2∧waits ops gz 3 (i+1+j)=true))→(∀z,z∈yP→z∈xs)→
   ((E.e8=0∧i≠gz∧(E.f.hs.all (λy=>!Nat.beq y.1 mk))=true)∨(E.e8=1∧E.p=[]∧(E.wb,E.p3++p_ E.tX mk)∈xs∧∀q,q<mk→q∈E.kB)∨(E.e8=2∧waits ops gz 3 i=true))→
   ∀(j:Nat) dj,(E::wj)[j]? = some dj→(dj.e8=0∧i+j≠gz∧(dj.f.hs.all (λy=>!Nat.beq y.1 mk))=true)∨(dj.e8=1∧dj.p=[]∧(dj.wb,dj.p3++p_ dj.tX mk)∈xs∧∀q,q<mk→q∈dj.kB)∨(dj.e8=2∧waits ops gz 3 (i+j)=true):=by
   intro E wj yP Z hx ab j dj hj;cases j with
   |zero=>simp at hj;subst hj;exact ab
   |succ j=>
    have:=Z j dj (by simpa using hj)
    rw [show i+1+j=i+(j+1)by omega]at this
    rcases this with aq|⟨aq,aN,bn,cd⟩|aq
    ·exact .inl aq
    ·exact .inr (.inl ⟨aq,aN,hx _ bn,cd⟩)
    ·exact .inr (.inr aq)
  simp only [sm]at h;rw [Bool.cond_eq_ite]at h;split at h
  ·rename_i q9;split at h
   case h_2=>cases h
   rename_i OY;split at h
   case h_2=>cases h
   rename_i x hs agw dC;split at h
   case h_2=>cases h
   rename_i wj g1 XB yP Z;simp only [Option.some.injEq,Prod.mk.injEq]at h;obtain⟨rfl,rfl,rfl,rfl⟩:=h;obtain⟨ab,aq,aN⟩:=HG Z (λq ao=>cv q (List.mem_append_left _ ao)) d9
   refine⟨by simp [ab],⟨.inr ⟨OY,dC,(λq ao=>cv q (List.mem_append_right _ ao)),(λq ao=>List.mem_append_left _ ao),λ_ q _=>rfl⟩,aq⟩,next aN (λz cX=>List.mem_cons_of_mem _ cX) (.inr (.inl ⟨rfl,rfl,List.mem_cons_self ..,λq ao=>List.mem_append_right _ (List.mem_range.2 ao)⟩))⟩
  ·rename_i q9;rw [Bool.cond_eq_ite]at h;split at h
   ·rename_i hw;split at h
    case h_2=>cases h
    rename_i wj g1 XB yP Z;simp only [Option.some.injEq,Prod.mk.injEq]at h;obtain⟨rfl,rfl,rfl,rfl⟩:=h;obtain⟨ab,aq,aN⟩:=HG Z cv d9;exact⟨by simp [ab],⟨.inl rfl,aq⟩,next aN (λz cX=>cX) (.inr (.inr ⟨rfl,hw⟩))⟩
   ·split at h
    case h_2=>cases h
    rename_i E b3;rw [Bool.cond_eq_ite]at h;split at h
    case isFalse=>cases h
    rename_i pT;split at h
    case h_2=>cases h
    rename_i wj g1 XB yP Z;simp only [Option.some.injEq,Prod.mk.injEq]at h;obtain⟨rfl,rfl,rfl,rfl⟩:=h;obtain⟨ab,aq,aN⟩:=HG Z (λq ao=>cv q (List.mem_append_left _ ao)) d9
    have OI:∀q,q∈E.f.a7→under g E.p q:=λq ao=>cv _ (List.mem_append_right _ (List.mem_map.2 ⟨q,ao,rfl⟩))
    have v':=pT;unfold findD at b3;split at b3
    ·cases b3
    rename_i p hp;split at b3
    ·rename_i f b5;cases b3;exact⟨by simp [ab],⟨.inr ⟨hp,b5,OI,λ_ h=>h,λh=>by cases h⟩,aq⟩,next aN (λz cX=>cX) (.inl ⟨rfl,(by simpa using q9),v'⟩)⟩
    ·cases b3
def bd.agM{id:Nat}{Q:cu→aO→Prop}(cF:fH P tt=true)(hm:P.follows .mixedOrders=true)(gz:Nat)(kb:List (Nat×List fB)){x:V}{bI:List Prop}(ai:OV (CB (jZ P) tt N opsA.toList gz (st.aZ+opsA.toList.length) (spread opsA.toList.length 0 kb) st)=some (x,bI))(cv:ll bI)
 (eQ:∀n,Q (.aK x) {env:=[],H:=OW (CB (jZ P) tt N opsA.toList gz (st.aZ+opsA.toList.length) (spread opsA.toList.length 0 kb) st),aZ:=n}):bd P N E (.region id opsA true) Q st:=by
 rintro K eI a w ⟨_,hd,ew,M,β,cT⟩
 obtain⟨tmps,ds⟩:=a;simp only at hd ew
 subst hd;refine wp_region_any hm ?_;cases mb:CB (jZ P) tt N opsA.toList gz (st.aZ+opsA.toList.length) (spread opsA.toList.length 0 kb) st with
 |none=>rw [mb]at ai;cases ai
 |some res=>
 obtain⟨r',aqW,aqX⟩:=res;rw [mb]at ai eQ;simp only [OV,Option.some.injEq,Prod.mk.injEq]at ai;obtain⟨rfl,rfl⟩:=ai;simp only [OW]at eQ;unfold CB at mb;split at mb
 case h_2=>cases mb
 rename_i cH g tT B8 gf fi;rw [Bool.cond_eq_ite]at mb;split at mb
 case isFalse=>cases mb
 rename_i hc;simp only [Option.some.injEq,Prod.mk.injEq]at mb;obtain⟨rfl,rfl,rfl⟩:=mb;simp only [Bool.and_eq_true,Option.isNone_iff_eq_none]at hc;obtain⟨⟨hc,yM⟩,XC⟩:=hc;generalize aqY:st.aZ+opsA.toList.length=mk at fi yM XC
 obtain⟨hlen,OM,HH⟩:=HG (Fi:=λg=>(look g.H mk).isSome=true) fi cv.mem yM
 simp only [Hy,Bool.and_eq_true]at hc;obtain⟨⟨⟨c1,c2⟩,c3⟩,c4⟩:=hc
 have ef:∀(i:Nat) o E,opsA[i]? = some o→cH[i]? = some E→iJ opsA.toList o E=true:=by
  intro i o E aw b3;obtain⟨lj,z2⟩:=wk hlen i;have la:opsA.toList[i]? = some o:=by simpa using aw
  rw [la]at lj;rw [b3]at z2;cases cX:(lS opsA.toList cH)[i]? with
  |none=>rw [cX]at lj;simp at lj
  |some x=>
   rw [cX]at lj z2;simp at lj z2
   subst lj;subst z2;exact List.all_eq_true.1 c1 x (List.mem_of_getElem? cX)
 have aY:∀(i:Nat) E,cH[i]? = some E→q6 N E=true:=λi E b3=>List.all_eq_true.1 c2 E (List.mem_of_getElem? b3)
 have Ct:ol opsA (Array.replicate opsA.size false):=λj o aw hj=>by have bO:j<opsA.size:=(Array.getElem?_eq_some_iff.1 aw).1;simp [Array.getD_eq_getD_getElem?,bO]at hj
 have Cu:=jK.text ef (λg1 g2 gy Z=>by rw [←gy.box mk];exact Z) (lS opsA.toList cH) 0 (Array.replicate opsA.size false) _ (λj=>by have:=(wk hlen j).1;simpa using this) (λj=>by have:=(wk hlen j).2;simpa using this)
  ⟨by simp,λj hj=>by simp [hj]⟩ Ct c4 OM
 have vN:(lS opsA.toList cH).length=opsA.size:=by rw [OJ hlen];simp
 rw [vN]at Cu
 have lR:Xy opsA cH gz mk B8 gf:=by
  constructor
  ·intro i E b3 hk;rcases HH i E b3 with⟨Z,_⟩|⟨Z,_⟩|⟨_,Z⟩
   ·omega
   ·omega
   ·simpa using Z
  ·intro i E b3 hk;rcases HH i E b3 with⟨Z,_⟩|⟨_,Z,ab,aq⟩|⟨Z,_⟩
   ·omega
   ·simp only [List.mem_singleton,Prod.mk.injEq]at ab;exact⟨Z,ab.1,ab.2,aq⟩
   ·omega
  ·intro i E b3 hk;rcases HH i E b3 with⟨_,Z,ab⟩|⟨Z,_⟩|⟨Z,_⟩
   ·exact⟨by simpa using Z,ab⟩
   ·omega
   ·omega
  ·intro i E b3;rcases HH i E b3 with⟨Z,_⟩|⟨Z,_⟩|⟨Z,_⟩
   ·exact .inl Z
   ·exact .inr (.inl Z)
   ·exact .inr (.inr Z)
 refine jK.Xz (K:=K) (mk:=mk) cF lR ef aY c3 (λn e dH w' cN=>⟨_,_,cN,eQ n⟩) _ _ _ tmps _ M β Cu (by simp) Ct (λx hx=>by cases hx) ?_ XC ⟨(cT.drew _).up _,ew,(λs id h _ b hb=>by have Z:=cT.lt _ _ hb;have ab:=(HD _ _ _ (r0 h)).1;simp only at ab;omega),λ_ _ _ h=>by simp [HB,look]at h⟩
 rw [Array.getD_eq_getD_getElem?];by_cases pc:gz<opsA.size
 ·simp [pc]
 ·simp [pc]
end
section
variable {P:Program} {tt:dT} {fn:Func} {E:Nat} {st:aO}
def OZ{y:Code}{R:Out→List (List a')→Prop}(h:p9 P tt fn E y R st):OR P tt fn E y R .normal st:=h
def agN{y:Code}{out:Out}{CC:List (List a')}(h:(Ab.leave tt E fn.results.toList st).map (λx=>(x.1,oh x.2))=some (out,CC)):OR P tt fn E y (λo b0=>o=out∧b0=CC) .ret st:=by
 rw [Option.map_eq_some_iff]at h;obtain⟨⟨o,b0⟩,Z,ab⟩:=h;cases ab;exact⟨o,b0,Z,rfl,rfl⟩
def XD(tt:dT)(E:Nat)(rs:List ResultVar)(ds:List D)(ρ:List Nat)(cS:List (List a'))(st:aO):Option (List (List a')×List D×Out×List (List a')):=
 bif !nh ρ then none else match boxes st.H ρ,lI (idx ρ) ds,kr (λj=>ρ[j]?) cS with
  |some bs,some jU,some ja=>bif Nat.beq cS.length ρ.length then match kr (idx ρ) bs,Ab.leave tt E rs {env:=st.env,H:=lJ ρ ja++st.H,aZ:=st.aZ} with
   |some H1,some (o,b0)=>some (H1,jU,o,oh b0)
   |_,_=>none
   else none
  |_,_,_=>none
def q7.of{rs:List ResultVar}{fd:FuncId}{ds jU:List D}{x:Option V}(ρ:List Nat){H1 cS CC:List (List a')}{o:Out}(d:ua P fd jU H1 x λb0=>b0=cS)(hc:XD tt E rs ds ρ cS st=some (H1,jU,o,CC)):
 q7 P tt E rs fd ds (λo' b0=>o'=o∧b0=CC) x st:=by
 unfold XD at hc;rw [Bool.cond_eq_ite]at hc;split at hc
 ·cases hc
 rename_i hn;split at hc
 case h_2=>cases hc
 rename_i bs a ja lg ha vU;rw [Bool.cond_eq_ite]at hc;split at hc
 case isFalse=>cases hc
 rename_i ae;split at hc
 case h_2=>cases hc
 rename_i agO o' b0 mx hH;simp only [Option.some.injEq,Prod.mk.injEq]at hc;obtain⟨rfl,rfl,rfl,rfl⟩:=hc;refine⟨ρ,bs,agO,a,_,(by simpa using hn),lg,mx,ha,d,λXu aq=>?_⟩
 subst aq;exact⟨ja,o',b0,(by simpa using ae),vU,hH,rfl,rfl⟩
def agP{rs:List ResultVar}{fd:FuncId}{ds:List D}{R:Out→List (List a')→Prop}(h:q7 P tt E rs fd ds R none st):OS P tt E rs fd ds R .ret st:=h
def XE{rs:List ResultVar}{fd:FuncId}{ds:List D}{R:Out→List (List a')→Prop}{x:V}(h:q7 P tt E rs fd ds R (some x) st):OS P tt E rs fd ds R (.aK x) st:=h
end
section
variable {P:Program}
def agQ{w:World}{b off:Nat}{vs:List Value}{T:TypeId}{o0:Nat×Nat}(h:w.heap[b]? = some (.cells ⟨vs⟩ T o0))(u:Value):
 (w.setCell ⟨b,off,none⟩ u).heap[b]? = some (.cells ⟨vs.set off u⟩ T o0):=by
 have bO:=lt_of_heap h;have cN:w.heap[b] = .cells ⟨vs⟩ T o0:=by simpa [Array.getElem?_eq_getElem bO]using h
 show(w.heap.modify b _)[b]? = _
 rw [Array.getElem?_eq_getElem (by simpa using bO),Array.getElem_modify_self,cN]
 simp
def agR{w:World}{b off:Nat}{u:Value}(k:Nat)(h:k≠b):(w.setCell ⟨b,off,none⟩ u).heap[k]? = w.heap[k]? := Go.RowKit.Below.heap_setCell w ⟨b,off,none⟩ u k h
def XF {f : FuncId} {fd : Func} {off : Nat} {u : TypeId} (kv : P.funcs[f]? = some fd) (O0 : fd.body.isSome = true) (hn : decide (fd.name = "runtime.NumGoroutine") = false)
 (agS:∀(b:Nat) (w:World),w.cell? ⟨b,off,none⟩=some (.pointer (some ⟨b,off,none⟩))→Calls P f #[.pointer (some ⟨b,off,none⟩)] w λe w'=>e = .returned (.tuple #[])∧w'=w)
 (agT:∀(b:Nat) (w:World) (T:TypeId) (k:Nat),w.cell? ⟨b,off,none⟩=some (.pointer none)→w.shape? b=some (T,k)→off<k→liesAt P P.depth T (k / P.cellsOf T) off u 1=true→w.frozen? ⟨b,off,none⟩=false→
  Calls P f #[.pointer (some ⟨b,off,none⟩)] w λe w'=>e = .returned (.tuple #[])∧w'=w.setCell ⟨b,off,none⟩ (.pointer (some ⟨b,off,none⟩)))
 {cs:List a'} (ev:cs[off]? = some ⟨.cA 0 off u,none⟩):hq P f [.ptr 0 off] [] [cs] (.ret (.bW []) none) [cs]:=by
 refine⟨⟨fd,kv,O0,by simpa using hn⟩,λK w vs M β hlen hs hE=>?_⟩
 obtain⟨v,rfl⟩:∃v,vs=[v]:=by
  match vs,hlen with
  |[v],_=>exact⟨v,rfl⟩
 have pX:=hs.fC (.slot 0) ⟨.ptr 0 off,none⟩ (by simp [aO.at,h2,sc,cZ,look])
 have vX:cB (⟨[v]⟩:Array Value) w β (.slot 0)=v:=by simp [cB]
 rw [vX]at pX;obtain⟨b,hb,rfl⟩:∃b,β 0=some b∧v = .pointer (some ⟨b,off,none⟩):=by cases pX with|ptr r o b h=>exact⟨b,h,rfl⟩
 have hl0:look (cZ 0 [cs]) 0=some cs:=by simp [cZ,look]
 obtain⟨bR,ws,T,b2,bJ,XG,agU,agV,jp,hlies⟩:=hs.box 0 cs hl0;rw [hb]at b2;cases b2;have tO:off<cs.length:=(List.getElem?_eq_some_iff.1 ev).1;have CD:ws[off]? = some ws[off]:=List.getElem?_eq_getElem (by omega)
 have iv:w.cell? ⟨b,off,none⟩=some ws[off]:=by rw [cell_of_heap bJ,CD]
 have gR:=hs.fC (.cell 0 off) ⟨.cA 0 off u,none⟩ (by simp [aO.at,hl0,ev])
 have cx:cB (⟨[.pointer (some ⟨b,off,none⟩)]⟩:Array Value) w β (.cell 0 off)=ws[off]:=by simp [cB,hb,iv]
 rw [cx]at gR
 have fin:∀w',bV P K M β {env:=[],H:=cZ 0 [cs],aZ:=[cs].length} #[.tuple #[]] w'→bV P K M β {env:=iH (.ret (.bW []) none),H:=cZ 0 [cs],aZ:=[cs].length} #[.tuple #[]] w':=λw' h=>by
  have:=h.put (t:=0) (v:=.tuple #[]) (e:=⟨.bW [],none⟩) (by simp) (.bW [] [] rfl λi v c ax=>by simp at ax) (λT aL=>by cases aL)
  exact this
 generalize hx:ws[off]=x at iv gR CD
 cases gR with
 |l6 r o nt=>
  have hsh:w.shape? b=some (T,ws.length):=by simp [World.shape?,bJ]
  have hfz:w.frozen? ⟨b,off,none⟩=false:=by simp [World.frozen?,bJ]
  have mR:=hlies _ (List.mem_of_getElem? ev) 0 off u rfl;refine(agT b w T ws.length iv hsh (by omega) mR hfz).mono ?_
  rintro e w' ⟨rfl,rfl⟩
  refine⟨_,_,.tuple #[],M,β,⟨rfl,rfl⟩,rfl,fin _ ?_⟩
  have Z:=(hs.Cg #[.tuple #[]]).Nh (r:=0) (b:=b) (cs:=cs) (w':=w.setCell ⟨b,off,none⟩ (.pointer (some ⟨b,off,none⟩))) hl0 hb bJ (vs':=ws.set off (.pointer (some ⟨b,off,none⟩))) (cs':=cs) (by simpa using XG)
   (λy ck=>by
    rcases List.mem_or_eq_of_mem_set ck with h|rfl
    ·exact jp y h
    ·rfl) (λh=>by rw [List.length_set];exact h) rfl (agQ bJ _) (λk hk=>agR k hk) cs.length (λi y e ck he=>by
    by_cases hi:off=i
    ·subst hi;rw [List.getElem?_set_self (by omega)]at ck
     cases ck;rw [ev]at he;cases he;exact⟨.cA 0 off b u hb,λT aL=>by cases aL⟩
    ·rw [List.getElem?_set_ne hi]at ck;have Nx:=(List.getElem?_eq_some_iff.1 he).1;refine⟨?_,λT aL=>.inl ⟨by omega,⟨e,he,aL⟩,ck⟩⟩
     have:=hs.fC (.cell 0 i) e (by simp [aO.at,hl0,he])
     simpa [cB,hb,cell_of_heap bJ,ck]using this)
  refine Z.sub rfl (λl e ae=>⟨e,?_,rfl,λ_ h=>h⟩) (λr c ai=>⟨c,?_,rfl⟩)
  ·cases l with
   |slot s=>exact ae
   |cell r i=>
    simp only [aO.at,ee]at ae ⊢;by_cases ai:r=0
    ·subst ai;rw [hl0]at ae;simpa using ae
    ·simp [cZ,ee,Ne.symm ai,look]at ae
  ·simp only [ee]at ai ⊢;by_cases mt:r=0
   ·subst mt;rw [hl0]at ai;simpa using ai
   ·simp [cZ,ee,Ne.symm mt,look]at ai
 |cA r o hG nt f7=>
  rw [hb]at f7;cases f7;refine(agS b w iv).mono ?_
  rintro e w' ⟨rfl,rfl⟩
  exact⟨_,_,.tuple #[],M,β,⟨rfl,rfl⟩,rfl,fin _ (hs.Cg _)⟩
end
section
variable {P:Program}
def XH {f : FuncId} {fd : Func} {T5 : TypeId} (kv : P.funcs[f]? = some fd) (O0 : fd.body.isSome = true) (hn : decide (fd.name = "runtime.NumGoroutine") = false) (agW : P.cellsOf T5 = 1)
 (pT:∀(b:Nat) (w:World),w.cell? ⟨b,1,none⟩=some (.slice none 0 0)→Calls P f #[.pointer (some ⟨b,0,none⟩)] w λe w'=>e = .returned (.string ⟨#[]⟩)∧w'=w.drew)
 (fI:∀(b g cap:Nat) (w:World),cap≠0→w.cell? ⟨b,1,none⟩=some (.slice (some ⟨g,0,none⟩) 0 cap)→Calls P f #[.pointer (some ⟨b,0,none⟩)] w λe w'=>e = .returned (.string ⟨#[]⟩)∧w'=w.drew)
 (agX:∀(b g:Nat) (w:World) (vs:List Value),w.cell? ⟨b,1,none⟩=some (.slice (some ⟨g,0,none⟩) 0 0)→b<w.heap.size→w.heap[g]? = some (.cells ⟨vs⟩ T5 (0,0))→
  Calls P f #[.pointer (some ⟨b,0,none⟩)] w λe w'=>e = .returned (.string ⟨#[]⟩)∧w'=(w.drew.alloc (.view ⟨g,0,none⟩ T5)))
 (vT:∀(b g cap:Nat) (w:World) (vs:List Value) (l:arY),l≠[]→w.cell? ⟨b,1,none⟩=some (.slice (some ⟨g,0,none⟩) l.length cap)→w.heap[g]? = some (.cells ⟨vs⟩ T5 (0,0))→
  l.length≤cap→cap≤vs.length→l.length≤9223372036854775807→(∀(j:Nat) (x:UInt8),l[j]? = some x→vs[j]? = some (Value.int .u8 x.toNat))→
  Calls P f #[.pointer (some ⟨b,0,none⟩)] w λe w'=>e = .returned (.string ⟨l.toArray⟩)∧w'=w.drew.freeze ⟨g,0,none⟩ l.length)
 {d0:a'} {cs:List a'} {l:arY} {n:Nat} {get:Nat→V} (je:n=l.length∧∀i,i<l.length→get i = .int .u8 ((l.getD i 0).toNat:Int)) (h63:l.length≤9223372036854775807):
 hq P f [.ptr 0 0] [] [d0::⟨.v (.bS 1 n get),some T5⟩::cs] (.ret (.v (.str l)) none) [d0::⟨.v (.bS 1 n get),none⟩::cs]:=by
 obtain⟨rfl,je⟩:=je;refine⟨⟨fd,kv,O0,by simpa using hn⟩,λK w vs M β hlen hs hE=>?_⟩
 obtain⟨v,rfl⟩:∃v,vs=[v]:=by
  match vs,hlen with
  |[v],_=>exact⟨v,rfl⟩
 have pX:=hs.fC (.slot 0) ⟨.ptr 0 0,none⟩ (by simp [aO.at,h2,sc,cZ,look])
 have vX:cB (⟨[v]⟩:Array Value) w β (.slot 0)=v:=by simp [cB]
 rw [vX]at pX;obtain⟨b,hb,rfl⟩:∃b,β 0=some b∧v = .pointer (some ⟨b,0,none⟩):=by cases pX with|ptr r o b h=>exact⟨b,h,rfl⟩
 generalize l7:d0::(⟨.v (.bS 1 l.length get),some T5⟩:a')::cs=nu at hs
 have kw:nu[1]? = some ⟨.v (.bS 1 l.length get),some T5⟩:=by rw [←l7];rfl
 have hl0:look (cZ 0 [nu]) 0=some nu:=by simp [cZ,look]
 obtain⟨bR,ws,T,b2,bJ,XG,agU,agV,jp⟩:=hs.box 0 nu hl0;rw [hb]at b2;cases b2;have tO:1<nu.length:=(List.getElem?_eq_some_iff.1 kw).1;have CD:ws[1]? = some ws[1]:=List.getElem?_eq_getElem (by omega)
 have iv:w.cell? ⟨b,1,none⟩=some ws[1]:=by rw [cell_of_heap bJ,CD]
 have XI:({env:=h2 [.ptr 0 0] [],H:=cZ 0 [nu],aZ:=[nu].length}:aO).at (.cell 0 1)=some ⟨.v (.bS 1 l.length get),some T5⟩:=by simp [aO.at,hl0,kw]
 have gR:=hs.fC _ _ XI;have gt:=hs.own _ _ T5 XI rfl;have cx:cB (⟨[.pointer (some ⟨b,0,none⟩)]⟩:Array Value) w β (.cell 0 1)=ws[1]:=by simp [cB,hb,iv]
 rw [cx]at gR gt
 -- l' state behind it
 have vS:∀(j:Nat) bp,(d0::(⟨.v (.bS 1 l.length get),none⟩:a')::cs)[j]? = some bp→∃cc,nu[j]? = some cc∧cc.d=bp.d∧(∀T,bp.own=some T→cc.own=some T∧j≠1):=by
  intro j bp hj;rw [←l7]
  match j with
  | 0=>simp only [List.getElem?_cons_zero,Option.some.injEq]at hj ⊢;subst hj;exact⟨_,rfl,rfl,λT aL=>⟨aL,by omega⟩⟩
  | 1=>simp only [List.getElem?_cons_succ,List.getElem?_cons_zero,Option.some.injEq]at hj ⊢;subst hj;exact⟨_,rfl,rfl,λT aL=>by cases aL⟩
  |j+2=>simp only [List.getElem?_cons_succ]at hj ⊢;exact⟨bp,hj,rfl,λT aL=>⟨aL,by omega⟩⟩
 obtain⟨p1,o7⟩:=hs.VC (r:=0) (i:=1) (cs':=d0::⟨.v (.bS 1 l.length get),none⟩::cs) hl0 kw rfl (by rw [←l7];rfl) vS (.slot 0)
 rw [cx]at o7
 have fin:∀w' M',bV P K M' β {env:=h2 [.ptr 0 0] [],H:=(0,d0::⟨.v (.bS 1 l.length get),none⟩::cs)::cZ 0 [nu],aZ:=[nu].length} ⟨[.pointer (some ⟨b,0,none⟩)]⟩ w'→
  bV P K M' β {env:=iH (.ret (.v (.str l)) none),H:=cZ 0 [d0::⟨.v (.bS 1 l.length get),none⟩::cs],aZ:=[nu].length} #[.string ⟨⟨l⟩⟩] w':=λw' M' h=>by
  have Z:=(h.Cg #[.string ⟨⟨l⟩⟩]).put (t:=0) (v:=.string ⟨⟨l⟩⟩) (e:=⟨.v (.str l),none⟩) (by simp) (.v _ _ (.str l)) (λT aL=>by cases aL)
  refine Z.sub rfl (λq e ao=>⟨e,?_,rfl,λ_ h=>h⟩) (λr c ai=>⟨c,?_,rfl⟩)
  ·cases q with
   |slot s=>exact ao
   |cell r i=>
    simp only [aO.at,ee]at ao ⊢;by_cases ai:r=0
    ·subst ai;simpa [cZ,look]using ao
    ·simp [cZ,ee,Ne.symm ai,look]at ao
  ·simp only [ee]at ai ⊢;by_cases mt:r=0
   ·subst mt;simpa [cZ,look]using ai
   ·simp [cZ,ee,Ne.symm mt,look]at ai
 have agY:b<w.heap.size:=lt_of_heap bJ;have HI:bV P K M β {env:=h2 [.ptr 0 0] [],H:=(0,d0::⟨.v (.bS 1 l.length get),none⟩::cs)::cZ 0 [nu],aZ:=[nu].length} ⟨[.pointer (some ⟨b,0,none⟩)]⟩ w.drew:=p1.drew _;have XJ:[nu].length=1:=rfl;generalize hx:ws[1]=x at iv gR gt o7 CD
 rcases gt with h0|⟨g,n,cap,us,T',Z,ab,aq,aN,bn,cd,ep⟩
 ·subst h0;obtain⟨_,ae⟩|⟨_,_,_,_,h,_⟩:=tE gR
  ·obtain rfl:=List.eq_nil_of_length_eq_zero ae;refine(pT b w iv).mono ?_
   rintro e w' ⟨rfl,rfl⟩
   exact⟨_,_,_,M,β,⟨rfl,rfl⟩,rfl,fin _ M HI⟩
  ·cases h
 ·subst ep
  have agZ:∃(b off cap:Nat) (val:Nat→Nat→Value),x = .slice (some ⟨b,off,none⟩) l.length cap∧l.length≤cap∧(∀i,i<l.length→(get i).cells.length=1)∧(∀i j,i<l.length→j<1→M b (off+i*1+j)=some (val i j))∧
   (∀i j,i<l.length→j<1→(val i j).oneCell'=true)∧(∀(i j:Nat) c,i<l.length→(get i).cells[j]? = some c→di M (val i j) c):=by
   rcases tE gR with⟨h|⟨a,h⟩,cX⟩|hx
   ·rw [Z]at h;cases h
   ·rw [Z]at h;simp only [Value.slice.injEq,Option.some.injEq]at h;obtain⟨rfl,rfl,rfl⟩:=h;exact⟨g,0,0,λ_ _=>undef,Z.trans (by rw [cX]),by omega,λi hi=>by omega,λi j hi=>by omega,λi j hi=>by omega,λi j c hi=>by omega⟩
   ·exact hx
  obtain⟨g2,off,aqZ,val,ax,hc,hk,c8,aq0,jG⟩:=agZ
  focus
  ·rw [Z]at ax;simp only [Value.slice.injEq,Option.some.injEq,Addr.mk.injEq,and_true]at ax;obtain⟨⟨rfl,rfl⟩,rfl,rfl⟩:=ax;rw [agW,Nat.mul_one]at aN;subst Z;by_cases ae:l=[]
   ·subst ae;by_cases hcap:cap=0
    ·subst hcap;refine(agX b g w us iv agY aq).mono ?_
     rintro e w' ⟨rfl,rfl⟩
     refine⟨_,_,_,M,β,⟨rfl,rfl⟩,rfl,fin _ M (HI.grow (λk hk=>?_))⟩
     exact Go.Lib.alloc_old _ _ k hk
    ·refine(fI b g cap w hcap iv).mono ?_
     rintro e w' ⟨rfl,rfl⟩
     exact⟨_,_,_,M,β,⟨rfl,rfl⟩,rfl,fin _ M HI⟩
   ·have BW:∀(j:Nat) (x:UInt8),l[j]? = some x→us[j]? = some (Value.int .u8 x.toNat):=by
     intro j x hx;have hj:j<l.length:=(List.getElem?_eq_some_iff.1 hx).1;have e1:=hs.mem _ _ _ (c8 j 0 hj (by omega))
     have e2:=je j hj;have e3:=jG j 0 (.int .u8 ((l.getD j 0).toNat:Int)) hj (by rw [e2];rfl)
     rw [cell_of_heap aq,show 0+j*1+0=j by omega]at e1
     rw [e1];generalize val j 0=y at e3 ⊢
     cases e3;simp [List.getD,hx]
    refine(vT b g cap w us l ae iv aq hc aN h63 BW).mono ?_
    rintro e w' ⟨rfl,rfl⟩
    refine⟨_,_,.string ⟨⟨l⟩⟩,M,β,⟨rfl,rfl⟩,rfl,fin _ M ?_⟩
    have hfz:(w.drew.freeze ⟨g,0,none⟩ l.length).os=w.drew.os∧(w.drew.freeze ⟨g,0,none⟩ l.length).output=w.drew.output∧(∀k,k≠g→(w.drew.freeze ⟨g,0,none⟩ l.length).heap[k]? = w.drew.heap[k]?)∧∃o0,(w.drew.freeze ⟨g,0,none⟩ l.length).heap[g]? = some (.cells ⟨us⟩ T' o0):=by
     have hg':w.drew.heap[g]? = some (.cells ⟨us⟩ T' (0,0)):=aq;have bO:=lt_of_heap hg';have cN:w.drew.heap[g] = .cells ⟨us⟩ T' (0,0):=by simpa [Array.getElem?_eq_getElem bO]using hg'
     unfold World.freeze;split
     ·exact⟨rfl,rfl,λ_ _=>rfl,_,hg'⟩
     ·refine⟨rfl,rfl,λk hk=>?_,?_⟩
      ·simp only [Array.getElem?_modify];rw [if_neg (by simpa using(Ne.symm hk))]
      ·simp only [Array.getElem?_modify];rw [if_pos trivial,hg'];exact⟨_,rfl⟩
    obtain⟨f1,f2,f3,o0,f4⟩:=hfz;refine HI.free g cd (λr c ai mz=>o7.unbox g r c rfl ai mz) (λq e hF ao tI ag0=>?_) (λk hk _=>f3 k hk) (Mem.le_refl _) (λ_ _ _=>rfl) (λo v ax=>?_) (by rw [f1,f2])
    ·refine o7.apart q e hF g ao tI ?_ rfl ag0
     rintro rfl
     simp only [aO.at,h2,sc,cZ,look]at ao;simp at ao;subst ao;cases tI
    ·have:=hs.mem _ _ _ ax
     rw [cell_of_heap aq]at this;rw [cell_of_heap f4,this]
end
def wx(w:World):Mem:=λb o=>w.cell? ⟨b,o,none⟩
def q_(w:World)(vs:List Value)(cs:List V):Prop:=
 vs.length=cs.length∧(∀v,v∈vs→v.oneCell'=true)∧∀(i:Nat) v c,vs[i]? = some v→cs[i]? = some c→di (wx w) v c
def q_.nil{w:World}:q_ w [] []:=⟨rfl,(λv h=>by cases h),λi v c h=>by simp at h⟩
def q_.one{w:World}{v:Value}{c:V}(Z:v.oneCell'=true)(h:di (wx w) v c):q_ w [v] [c]:=
 ⟨rfl,(λu hu=>by obtain rfl:=List.mem_singleton.1 hu;exact Z),λi u d hu hd=>by
  match i with
  | 0=>cases hu;cases hd;exact h
  |i+1=>simp at hu⟩
def q_.app{w:World}{vs us:List Value}{cs ds:List V}(h:q_ w vs cs)(cN:q_ w us ds):q_ w (vs++us) (cs++ds):=by
 refine⟨by simp [h.1,cN.1],λv ax=>?_,λi v c ax hc=>?_⟩
 ·rcases List.mem_append.1 ax with ax|ax
  ·exact h.2.1 v ax
  ·exact cN.2.1 v ax
 ·by_cases hi:i<vs.length
  ·rw [List.getElem?_append_left hi]at ax;rw [List.getElem?_append_left (by rw [←h.1];exact hi)]at hc
   exact h.2.2 i v c ax hc
  ·rw [List.getElem?_append_right (by omega)]at ax
   rw [List.getElem?_append_right (by rw [←h.1];omega),←h.1]at hc
   exact cN.2.2 _ v c ax hc
def q_.agg{w:World}{vs:List Value}{cs:List V}(h:q_ w vs cs):di (wx w) (.agg ⟨vs⟩) (.agg cs):=.agg vs cs h.1 h.2.1 h.2.2
section
variable {H:Type} {enc:TypeId×Value→H} {P:Program} {w:World}
end
section
variable {P:Program} {K:Ctx} {N E:Nat} {M:Mem} {β:Nat→Option Nat} {st b_:aO} {tmps:Array Value} {w:World}
mutual
def ra(r:Nat)(x:V):D→D
 |.v y=>.v y
 |.ptr q off=>bif Nat.beq q r&&Nat.beq off 0 then .e' x else .ptr q off
 |.cA q off u=>.cA q off u
 |.e' y=>.e' y
 |.full k n g=>.full k n g
 |.fn f cs=>.fn f (rb r x cs)
 |.agg cs=>.agg (rb r x cs)
 |.bW cs=>.bW (rb r x cs)
def rb(r:Nat)(x:V):List D→List D
 |[]=>[]
 |d::l=>ra r x d::rb r x l
end
def HJ(r:Nat)(x:V):∀(l:List D) (i:Nat),(rb r x l)[i]? = (l[i]?).map (ra r x)
 |[],i=>by simp [rb]
 |d::l,0=>by simp [rb]
 |d::l,i+1=>by simp only [rb,List.getElem?_cons_succ];exact HJ r x l i
def HK(r:Nat)(x:V):∀l:List D,(rb r x l).length=l.length
 |[]=>rfl
 |d::l=>by simp only [rb,List.length_cons,HK r x l]
def cE.o0{M':Mem}(c8:M.le M'){r b:Nat}{x:V}{u:Value}(hb:β r=some b)(hx:x.isAgg=false)(hu:M' b 0=some u)(Z:u.oneCell'=true)(ai:di M' u x){v:Value}{d:D}(h:cE M β v d):cE M' β v (ra r x d):=by
 induction h with
 |v u x h=>exact .v u x (h.mono c8)
 |ptr q off bR h=>
  simp only [ra];cases hc:Nat.beq q r&&Nat.beq off 0 with
  |false=>exact .ptr q off bR h
  |true=>
   simp only [Bool.and_eq_true,Nat.beq_eq]at hc;obtain⟨rfl,rfl⟩:=hc;rw [hb]at h;cases h;have yE:=yp hx;refine .e' b 0 x (λ_=>u) (λj hj=>?_) (λj hj=>Z) (λj c hc=>?_)
   ·rw [yE]at hj;simp at hj
    subst hj;exact hu
   ·rw [yE]at hc;cases j with
    |zero=>simp at hc;subst hc;exact ai
    |succ j=>simp at hc
 |l6 q off t=>exact .l6 q off t
 |cA q off bR t h=>exact .cA q off bR t h
 |e' b off x val hm Z h=>exact .e' b off x val (λj hj=>c8 _ _ _ (hm j hj)) Z (λj c hc=>(h j c hc).mono c8)
 |full base k n get h=>exact .full base k n get (h.mono c8)
 |fn f vs cs hn _ aR=>
  simp only [ra];refine .fn f vs _ (by rw [HK];exact hn) λi v c ax hc=>?_
  rw [HJ]at hc;simp only [Option.map_eq_some_iff]at hc;obtain⟨c0,h0,rfl⟩:=hc;exact aR i v c0 ax h0
 |agg vs cs hn Z _ aR=>
  simp only [ra];refine .agg vs _ (by rw [HK];exact hn) Z λi v c ax hc=>?_
  rw [HJ]at hc;simp only [Option.map_eq_some_iff]at hc;obtain⟨c0,h0,rfl⟩:=hc;exact aR i v c0 ax h0
 |bW vs cs hn _ aR=>
  simp only [ra];refine .bW vs _ (by rw [HK];exact hn) λi v c ax hc=>?_
  rw [HJ]at hc;simp only [Option.map_eq_some_iff]at hc;obtain⟨c0,h0,rfl⟩:=hc;exact aR i v c0 ax h0
def yQ(r:Nat)(x:V)(e:a'):a':={d:=ra r x e.d,own:=e.own}
def HL(r:Nat)(x:V):List (Nat×a')→List (Nat×a')
 |[]=>[]
 |(t,e)::l=>(t,yQ r x e)::HL r x l
def HM(r:Nat)(x:V):List (Nat×List a')→List (Nat×List a')
 |[]=>[]
 |(t,cs)::l=>(t,cs.map (yQ r x))::HM r x l
def XK(r:Nat)(x:V):∀(l:List (Nat×a')) (s:Nat),look (HL r x l) s=(look l s).map (yQ r x)
 |[],s=>rfl
 |(t,e)::l,s=>by
  simp only [HL,ee];by_cases h:t=s
  ·simp [h]
  ·simp only [h,if_false];exact XK r x l s
def O1(r:Nat)(x:V):∀(l:List (Nat×List a')) (s:Nat),look (HM r x l) s=(look l s).map λcs=>cs.map (yQ r x)
 |[],s=>rfl
 |(t,cs)::l,s=>by
  simp only [HM,ee];by_cases h:t=s
  ·simp [h]
  ·simp only [h,if_false];exact O1 r x l s
def uc(r:Nat)(x:V)(st:aO):aO:={env:=HL r x st.env,H:=HM r x (del st.H r),aZ:=st.aZ}
def CE{r:Nat}{x:V}{l:Loc}{bp:a'}(h:(uc r x st).at l=some bp):∃e,aO.at {env:=st.env,H:=del st.H r,aZ:=st.aZ} l=some e∧bp=yQ r x e:=by
 cases l with
 |slot s=>
  simp only [aO.at,uc,XK,Option.map_eq_some_iff]at h ⊢;obtain⟨e,Z,ab⟩:=h;exact⟨e,Z,ab.symm⟩
 |cell q i=>
  simp only [aO.at,uc,O1,Option.bind_eq_some_iff,Option.map_eq_some_iff]at h ⊢;obtain⟨cs,⟨lQ,Z,rfl⟩,ab⟩:=h;rw [List.getElem?_map,Option.map_eq_some_iff]at ab;obtain⟨e,aq,aN⟩:=ab;exact⟨e,⟨lQ,Z,aq⟩,aN.symm⟩
def ag1{r:Nat}{x:V}{d:D}{q off:Nat}{u:TypeId}(h:ra r x d = .cA q off u):d = .cA q off u:=by
 cases d<;>simp only [ra]at h
 case ptr q' o'=>cases hc:Nat.beq q' r&&Nat.beq o' 0<;>rw [hc]at h<;>cases h
 all_goals first|exact h|cases h
def bV.freeze(h:bV P K M β st tmps w){r:Nat}{x:V}{own:Option TypeId}(ai:look st.H r=some [⟨.v x,own⟩])(hx:x.isAgg=false):∃M',bV P K M' β (uc r x st) tmps w:=by
 obtain⟨b,vs,T,hb,bJ,hlen,XL,d9,jp,hlies⟩:=h.box r _ ai
 obtain⟨u,rfl⟩:∃u,vs=[u]:=by
  match vs,hlen with
  |[u],_=>exact⟨u,rfl⟩
 have HN:∀q cs,look (del st.H r) q=some cs→q≠r∧look st.H q=some cs:=by
  intro q cs ao;rw [qP]at ao;split at ao
  ·cases ao
  ·rename_i dQ;exact⟨λe=>dQ e.symm,ao⟩
 have Z:bV P K M β {env:=st.env,H:=del st.H r,aZ:=st.aZ} tmps w:=h.sub rfl (λl e ae=>by
  cases l with
  |slot s=>exact⟨e,ae,rfl,λ_ h=>h⟩
  |cell q i=>
   simp only [aO.at,Option.bind_eq_some_iff]at ae ⊢;obtain⟨cs,ab,aq⟩:=ae;exact⟨e,⟨cs,(HN _ _ ab).2,aq⟩,rfl,λ_ h=>h⟩) (λq cs ao=>⟨cs,(HN _ _ ao).2,rfl⟩)
 have hle:M.le (jq M b 0 [u]):=NE λo _=>XL o
 have iv:jq M b 0 [u] b 0=some u:=by simp [jq]
 have ab:bV P K (jq M b 0 [u]) β {env:=st.env,H:=del st.H r,aZ:=st.aZ} tmps w:=by
  refine Z.free b d9 (λq cs ao ag2=>?_) (λl e T' ae aL nk=>?_) (λ_ _ _=>rfl) hle (λbR o dQ=>by simp [jq,dQ]) (λo v ax=>?_)
  ·obtain⟨aq,aN⟩:=HN _ _ ao;exact aq (h.inj q r b _ _ aN ai ag2 hb)
  ·have hl0:∃cc,st.at l=some cc∧cc.own=some T':=by
    cases l with
    |slot s=>exact⟨e,ae,aL⟩
    |cell q i=>
     simp only [aO.at,Option.bind_eq_some_iff]at ae ⊢;obtain⟨cs,aq,aN⟩:=ae;exact⟨e,⟨cs,(HN _ _ aq).2,aN⟩,aL⟩
   obtain⟨cc,aq,aN⟩:=hl0;exact h.unbox l cc T' b r _ aq aN nk ai hb
  ·rw [cell_of_heap bJ];unfold jq at ax;split at ax
   ·rename_i hc;simpa using ax
   ·rw [XL o]at ax;cases ax
 have gR:di (jq M b 0 [u]) u x:=by
  have aq:=h.fC (.cell r 0) ⟨.v x,own⟩ (by rw [aO.Nd ai];rfl)
  have aN:cB tmps w β (.cell r 0)=u:=by simp only [cB,hb,cell_of_heap bJ];simp
  rw [aN]at aq;cases aq with
  |v _ _ bn=>exact bn.mono hle
 refine⟨jq M b 0 [u],?_⟩
 have vx:∀q cs',look (uc r x st).H q=some cs'→∃cs,look (del st.H r) q=some cs∧cs'=cs.map (yQ r x):=by
  intro q cs' ao;simp only [uc,O1,Option.map_eq_some_iff]at ao;obtain⟨cs,aq,aN⟩:=ao;exact⟨cs,aq,aN.symm⟩
 constructor
 ·intro l bp ae;obtain⟨e,aq,rfl⟩:=CE ae;exact(ab.fC l e aq).o0 (Mem.le_refl _) hb hx iv (jp u (by simp)) gR
 ·intro l bp T' ae aL;obtain⟨e,aq,rfl⟩:=CE ae;exact ab.own l e T' aq aL
 ·intro l cQ e bp T' ag3 bR ae aL dR eo;obtain⟨e1,aq,rfl⟩:=CE ae;obtain⟨e2,aN,rfl⟩:=CE dR;exact ab.uniq l cQ e1 e2 T' ag3 bR aq aL aN eo
 ·intro l e T' bR q cs ae aL nk ao;obtain⟨e1,aq,rfl⟩:=CE ae;obtain⟨lQ,aN,_⟩:=vx q cs ao;exact ab.unbox l e1 T' bR q lQ aq aL nk aN
 ·intro q cs ao;obtain⟨lQ,aN,rfl⟩:=vx q cs ao;obtain⟨bR,vs',T',g1,g2,g3,g4,g5,g6,g7⟩:=ab.box q lQ aN;refine⟨bR,vs',T',g1,g2,by simpa using g3,g4,g5,g6,λe he q' off t hd=>?_⟩
  obtain⟨cc,Ni,rfl⟩:=List.mem_map.1 he;exact g7 cc Ni q' off t (ag1 hd)
 ·intro q q' bR cs cs' ao pY du f7;obtain⟨c1,aq,_⟩:=vx q cs ao;obtain⟨c2,aN,_⟩:=vx q' cs' pY;exact ab.inj q q' bR c1 c2 aq aN du f7
 ·exact ab.lt
 ·exact ab.mem
 ·exact ab.m0
 ·exact ab.frame
 ·exact ab.jc
 ·exact ab.jE
 ·exact ab.h_
def CF(H:List (Nat×List a'))(r:Nat):Option V:=
 match look H r with
 |some [⟨.v x,_⟩]=>bif x.isAgg then none else some x
 |_=>none
def bd.freeze{c:Code}{Q:cu→aO→Prop}(r:Nat)(x:V)(ai:CF st.H r=some x)(h:bd P N E c Q (uc r x st)):bd P N E c Q st:=by
 rintro K eI a w ⟨he,hd,ew,M,β,cT⟩
 unfold CF at ai;split at ai
 ·rename_i y own ae;rw [Bool.cond_eq_ite]at ai;split at ai
  ·cases ai
  ·rename_i hx;cases ai;obtain⟨M',hs⟩:=cT.freeze ae (by simpa using hx)
   exact h K eI a w ⟨he,hd,ew,M',β,hs⟩
 ·cases ai
def CG(r:Nat)(st:aO):aO:=match CF st.H r with
 |some x=>uc r x st
 |none=>st
def O2(r:Nat)(Q:cu→aO→Prop):cu→aO→Prop
 |.normal,st=>Q .normal (CG r st)
 |.ret,st=>Q .ret (CG r st)
 |e,st=>Q e st
def XM{K:Ctx}{M:Mem}{β:Nat→Option Nat}{tmps:Array Value}{w:World}(r:Nat)(h:bV P K M β st tmps w):∃M',bV P K M' β (CG r st) tmps w:=by
 unfold CG;cases hx:CF st.H r with
 |none=>exact⟨M,h⟩
 |some x=>
  unfold CF at hx;split at hx
  ·rename_i y own ae;rw [Bool.cond_eq_ite]at hx;split at hx
   ·cases hx
   ·rename_i ag4;cases hx;exact h.freeze ae (by simpa using ag4)
  ·cases hx
def bd.o0{x:Code}{Q:cu→aO→Prop}(r:Nat)(h:bd P N E x (O2 r Q) st):bd P N E x Q st:=by
 intro K eI a w hs;refine wp_mono (h K eI a w hs) ?_
 rintro e dH w' ⟨fJ,b_,Z,ab⟩
 cases fJ with
 |normal=>
  obtain⟨g1,g2,g3,M,β,g4⟩:=Z;obtain⟨M',g5⟩:=XM r g4;exact⟨.normal,_,⟨g1,g2,g3,M',β,g5⟩,ab⟩
 |ret=>
  obtain⟨g1,g2,g3,M,β,g4⟩:=Z;obtain⟨M',g5⟩:=XM r g4;exact⟨.ret,_,⟨g1,g2,g3,M',β,g5⟩,ab⟩
 |exit i=>exact⟨.exit i,b_,Z,ab⟩
 |aK x=>exact⟨.aK x,b_,Z,ab⟩
def CH(s e:a'):a':=match s.own with|none=>{d:=e.d} |some _=>e
def yR:List (Nat×a')→List (Nat×a')→List (Nat×a')
 |(_,s)::l,(t,e)::m=>(t,CH s e)::yR l m
 |_,m=>m
def oo:List a'→List a'→List a'
 |s::l,e::m=>CH s e::oo l m
 |_,m=>m
def yS:List (Nat×List a')→List (Nat×List a')→List (Nat×List a')
 |(_,s)::l,(t,cs)::m=>(t,oo s cs)::yS l m
 |_,m=>m
def fit(s st:aO):aO:={env:=yR s.env st.env,H:=yS s.H st.H,aZ:=st.aZ}
def HO(s e:a'):(CH s e).d=e.d∧∀T,(CH s e).own=some T→e.own=some T:=by
 unfold CH;split
 ·exact⟨rfl,λT h=>by cases h⟩
 ·exact⟨rfl,λT h=>h⟩
def XN:∀(l m:List (Nat×a')) (t:Nat) (bp:a'),look (yR l m) t=some bp→∃e,look m t=some e∧e.d=bp.d∧∀T,bp.own=some T→e.own=some T
 |[],m,t,bp,h=>⟨bp,by simpa [yR]using h,rfl,λ_ h=>h⟩
 |(a,s)::l,[],t,bp,h=>by simp [yR,look]at h
 |(a,s)::l,(q,e)::m,t,bp,h=>by
  simp only [yR,ee]at h ⊢;split at h
  ·rename_i ao;rw [if_pos ao];cases h;exact⟨e,rfl,(HO s e).1.symm,(HO s e).2⟩
  ·rename_i ao;rw [if_neg ao];exact XN l m t bp h
def XO:∀(l m:List a') (i:Nat) (bp:a'),(oo l m)[i]? = some bp→∃e,m[i]? = some e∧e.d=bp.d∧∀T,bp.own=some T→e.own=some T
 |[],m,i,bp,h=>⟨bp,by simpa [oo]using h,rfl,λ_ h=>h⟩
 |s::l,[],i,bp,h=>by simp [oo]at h
 |s::l,e::m,0,bp,h=>by
  simp only [oo,List.getElem?_cons_zero,Option.some.injEq]at h;subst h;exact⟨e,rfl,(HO s e).1.symm,(HO s e).2⟩
 |s::l,e::m,i+1,bp,h=>by
  simp only [oo,List.getElem?_cons_succ]at h ⊢;exact XO l m i bp h
def XP:∀l m:List a',(oo l m).length=m.length
 |[],m=>by simp [oo]
 |s::l,[]=>by simp [oo]
 |s::l,e::m=>by simp only [oo,List.length_cons,XP l m]
def O3:∀(l m:List (Nat×List a')) (t:Nat) (cs':List a'),look (yS l m) t=some cs'→∃cs s,look m t=some cs∧cs'=oo s cs
 |[],m,t,cs',h=>⟨cs',[],by simpa [yS]using h,by simp [oo]⟩
 |(a,s)::l,[],t,cs',h=>by simp [yS,look]at h
 |(a,s)::l,(q,cs)::m,t,cs',h=>by
  simp only [yS,ee]at h ⊢;split at h
  ·rename_i ao;rw [if_pos ao];cases h;exact⟨cs,s,rfl,rfl⟩
  ·rename_i ao;rw [if_neg ao];exact O3 l m t cs' h
def bV.fit(h:bV P K M β st tmps w)(s:aO):bV P K M β (fit s st) tmps w:=
 h.sub rfl (λl bp ae=>by
  cases l with
  |slot t=>exact XN _ _ _ _ ae
  |cell q i=>
   simp only [aO.at,Ab.fit,Option.bind_eq_some_iff]at ae;obtain⟨cs',Z,ab⟩:=ae;obtain⟨cs,z,aq,rfl⟩:=O3 _ _ _ _ Z;obtain⟨e,aN,bn⟩:=XO _ _ _ _ ab;exact⟨e,by simp only [aO.at,aq,Option.bind_some];exact aN,bn⟩) (λq cs' ao=>by
   obtain⟨cs,z,aq,rfl⟩:=O3 _ _ _ _ ao;exact⟨cs,aq,(XP _ _).symm⟩)
def bd.fit{c:Code}{Q:cu→aO→Prop}(s:aO)(h:bd P N E c Q (Ab.fit s st)):bd P N E c Q st:=by
 rintro K eI a w ⟨he,hd,ew,M,β,cT⟩
 exact h K eI a w ⟨he,hd,ew,M,β,cT.fit s⟩
def bd.pd{c:Code}{Q:cu→aO→Prop}(s:aO)(live yl:List Nat)(n:Nat)(ai:(vw live yl n st.env st.H st.aZ).map (Ab.fit s)=some b_)(b3:Nat.ble E n=true)(h:bd P N E c Q b_):bd P N E c Q st:=by
 simp only [Option.map_eq_some_iff]at ai;obtain⟨aq1,Z,rfl⟩:=ai;exact bd.drop live yl n Z b3 (h.fit s)
def forget(qa:List Nat):List (Nat×a')→List (Nat×a')
 |[]=>[]
 |(t,e)::l=>(t,bif qa.any (Nat.beq t)then {d:=e.d}else e)::forget qa l
def XQ(qa:List Nat):∀(m:List (Nat×a')) (t:Nat) (bp:a'),look (forget qa m) t=some bp→∃e,look m t=some e∧e.d=bp.d∧∀T,bp.own=some T→e.own=some T
 |[],t,bp,h=>by simp [forget,look]at h
 |(q,e)::m,t,bp,h=>by
  simp only [forget,ee]at h ⊢;split at h
  ·rename_i ao;rw [if_pos ao];cases h;refine⟨e,rfl,?_⟩
   cases qa.any (Nat.beq q)
   ·exact⟨rfl,λ_ h=>h⟩
   ·exact⟨rfl,λT h=>by cases h⟩
  ·rename_i ao;rw [if_neg ao];exact XQ qa m t bp h
def bd.forget{c:Code}{Q:cu→aO→Prop}(qa:List Nat)(h:bd P N E c Q {env:=Ab.forget qa st.env,H:=st.H,aZ:=st.aZ}):bd P N E c Q st:=by
 rintro K eI a w ⟨he,hd,ew,M,β,cT⟩
 refine h K eI a w ⟨he,hd,ew,M,β,cT.sub rfl (λl bp ae=>?_) (λq cs ao=>⟨cs,ao,rfl⟩)⟩
 cases l with
 |slot t=>exact XQ _ _ _ _ ae
 |cell q i=>exact⟨bp,ae,rfl,λ_ h=>h⟩
end
end Go.Ab

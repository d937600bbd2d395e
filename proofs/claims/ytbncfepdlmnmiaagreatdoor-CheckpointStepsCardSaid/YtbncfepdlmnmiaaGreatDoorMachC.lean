/- The abstract machine: a step of code over plain data, proved against the model. -/
import Derived.Orders
import Derived.Scope
import Derived.Recover
import Derived.Lib.Builder
import Derived.Lib.UnsafeStr
import Derived.ChangeSame
import Derived.OpenShut
import Derived.ReadAgain
import Derived.Lib.SliceRun
import Derived.Test.YtbncfepdlmnmiaaGreatDoorMachB
set_option linter.all false
namespace Go.Ab
def i_:List Prop→Prop
 |[]=>True
 |p::l=>p∧i_ l
def i_.mem:∀{l:List Prop},i_ l→∀q,q∈l→q
 |[],_,q,h=>by cases h
 |p::l,hp,q,h=>by
  rcases List.mem_cons.1 h with rfl|h
  ·exact hp.1
  ·exact i_.mem hp.2 q h
section
variable {P:Program} {N E:Nat} {st:aF} {tt:dr}
def a'.cut{x y:Code}{Q:ck→aF→Prop}(J:aF→Prop)(ab:a' P N E x (ck.then J Q) st)(ai:∀bS,J bS→a' P N E y Q bS):a' P N E (.seq x y) Q st:=
 a'.seq (ab.mono λeN bS h=>by cases eN<;>first|exact ai bS h|exact h)
def ck.mc{next:aF→Prop}{Q:ck→aF→Prop}(h:next st):ck.then next Q .normal st:=h
def ck.L7{next:aF→Prop}{Q:ck→aF→Prop}{x:V}(h:Q (.be x) st):ck.then next Q (.be x) st:=h
def ck.Y5{Q:ck→aF→Prop}{i:Nat}(h:Q .normal st):ck.inBlock i Q (.exit i) st:=by simpa [ck.inBlock]using h
def ck.Y6{Q:ck→aF→Prop}{i j:Nat}(dQ:Nat.beq j i=false)(h:Q (.exit j) st):ck.inBlock i Q (.exit j) st:=by
 have:j≠i:=by rintro rfl;simp at dQ
 simpa [ck.inBlock,this]using h
def Y7 {f : FuncId} {fn : Func} {c : Code} {args : List D} {dX : List (Nat × TypeId)} {H cw : List (List aS)} {out : Out} (b' : eF P tt = true) (bh : P.funcs[f]? = some fn) (hb : fn.body = some c) (h9 : decide (fn.name = "runtime.NumGoroutine") = false)
 (fz:Nat.ble args.length fn.ntmps=true) (h:a' P fn.ntmps H.length c (ot tt H.length fn.results.toList λo H'=>o=out∧H'=cw) {env:=gp args dX,H:=cQ 0 H,aU:=H.length}):fS P f args dX H out cw:=
 nC.of_wp b' bh hb h9 fz h
def Y8{rs:List ResultVar}{out:Out}{cw:List (List aS)}(h:leave tt E rs st=some (out,cw)):ot tt E rs (λo H'=>o=out∧H'=cw) .ret st:=⟨out,cw,.inl h,rfl,rfl⟩
def Db{rs:List ResultVar}{out:Out}{cw:List (List aS)}(h:leave tt E rs st=some (out,cw)):ot tt E rs (λo H'=>o=out∧H'=cw) .normal st:=⟨out,cw,.inl h,rfl,rfl⟩
def Y9{rs:List ResultVar}{out:Out}{cw:List (List aS)}{c:Nat}(h:oq tt E c rs st=some (out,cw)):ot tt E rs (λo H'=>o=out∧H'=cw) .ret st:=⟨out,cw,.inr ⟨c,h⟩,rfl,rfl⟩
def Y'{rs:List ResultVar}{x:V}{cw:List (List aS)}(h:(yg E st.H).map lw=some cw):ot tt E rs (λo H'=>o = .be x∧H'=cw) (.be x) st:=by
 rw [Option.map_eq_some_iff]at h;obtain⟨H',ab,ai⟩:=h;exact⟨H',ab,rfl,ai⟩
end
def au{α:Type}(b:Bool)(x:Option α):Option α:=bif b then x else none
def ou{α:Type}{b:Bool}{x:Option α}{r:α}(h:au b x=some r):b=true∧x=some r:=by
 cases b
 ·cases h
 ·exact⟨rfl,h⟩
def bind_some{α β:Type}{x:Option α}{f:α→Option β}{r:β}(h:Option.bind x f=some r):∃a,x=some a∧f a=some r:=Option.bind_eq_some_iff.1 h
def cM{α:Type}{b:Bool}{x y z:α}(hb:b=true)(h:(bif b then x else y)=z):x=z:=by subst hb;exact h
def fT{c x:Bool}(h:(!c||x)=true)(hc:c=true):x=true:=by subst hc;simpa using h
def ev{c x:Bool}(h:(c||x)=true)(hc:c=false):x=true:=by subst hc;simpa using h
def aa{α:Type}[Inhabited α](k:Nat)(e:α→V)(l:List α):V:=.bC k l.length λi=>e (l.getD i default)
def gz(x:V):f0 x x:=λ_ _ h=>h
def mJ{k n:Nat}{g eL:Nat→V}(h:∀i,i<n→g i=eL i):f0 (.bC k n g) (.bC k n eL):=by
 intro M v aA;cases aA with
 |jK=>exact .jK _ _
 |lU=>exact .lU _ _ _
 |bC b off k n cap g val hc hk cX ab ak=>
  exact .bC b off k n cap eL val hc (λi hi=>by rw [←h i hi];exact hk i hi) cX ab (λi j c hi j_=>ak i j c hi (by rw [h i hi];exact j_))
def Y_{α:Type}[Inhabited α]{k:Nat}{e:α→V}{xs:List V}{l:List α}(h:xs=l.map e)(n:Nat)(hn:n=l.length):f0 (.bC k n λi=>xs.getD i .eb) (aa k e l):=by
 subst h;subst hn;refine mJ λi hi=>?_
 simp [List.getD,List.getElem?_eq_getElem hi]
def eW{α:Type}[Inhabited α]{k:Nat}{e:α→V}(l kb:List α):f0 (.bC k (l.length+kb.length) λi=>bif Nat.blt i l.length then e (l.getD i default)else e (kb.getD (i-l.length) default)) (aa k e (l++kb)):=by
 rw [aa,List.length_append];refine mJ λi hi=>?_
 by_cases h:i<l.length
 ·have hb:Nat.blt i l.length=true:=by simpa using h
  simp [hb,List.getD,List.getElem?_append_left h]
 ·have hb:Nat.blt i l.length=false:=by rw [Bool.eq_false_iff];simpa using h
  simp [hb,List.getD,List.getElem?_append_right (Nat.le_of_not_lt h)]
def L8(l:List Int)(s:ajK):f0 (.bC 1 (l.length+s.length) λi=>bif Nat.blt i l.length then .int .u8 (l.getD i default)else .int .u8 (s.getD (i-l.length) 0).toNat) (aa 1 (λx=>.int .u8 x) (l++s.map λb=>(b.toNat:Int))):=by
 have ah:(l++s.map λb=>(b.toNat:Int)).length=l.length+s.length:=by simp
 rw [aa,ah];refine mJ λi hi=>?_
 by_cases h:i<l.length
 ·have hb:Nat.blt i l.length=true:=by simpa using h
  simp [hb,List.getD,List.getElem?_append_left h]
 ·have hb:Nat.blt i l.length=false:=by rw [Bool.eq_false_iff];simpa using h
  have ai:i-l.length<s.length:=by omega
  simp [hb,List.getD,List.getElem?_append_right (Nat.le_of_not_lt h),ai]
def Za{α:Type}[Inhabited α]{k:Nat}{e:α→V}(l:List α)(a:Int):f0 (.bC k (l.length-a.toNat) λi=>e (l.getD (a.toNat+i) default)) (aa k e (l.drop a.toNat)):=by
 rw [aa,List.length_drop];exact mJ λi hi=>by simp [List.getD]
def yi{α:Type}[Inhabited α]{k:Nat}{e:α→V}(l:List α)(b:Int)(h:0≤b∧b≤l.length):f0 (.bC k b.toNat λi=>e (l.getD i default)) (aa k e (l.take b.toNat)):=by
 have:(l.take b.toNat).length=b.toNat:=by simp;omega
 rw [aa,this];exact mJ λi hi=>by simp [List.getD,hi]
section
variable {P:Program} {N E:Nat} {st bS:aF}
def a'.drop{c:Code}{Q:ck→aF→Prop}(live sd:List Nat)(n:Nat)(ak:p8 live sd n st.env st.H st.aU=some bS)(cB:Nat.ble E n=true)(h:a' P N E c Q bS):a' P N E c Q st:=by
 rintro K dV a w ⟨he,hd,dW,M,β,cK⟩
 obtain⟨uY,hs⟩:=cK.p8 ak (λr b hb=>Nat.lt_of_lt_of_le (dV r b hb) (by simpa using cB))
 exact h K dV a w ⟨he,hd,dW,M,uY,hs⟩
end
def all_nil:i_ []:=trivial
def all_cons{p:Prop}{l:List Prop}(h:p)(ah:i_ l):i_ (p::l):=⟨h,ah⟩
inductive aO(α β:Type) where
 |ret (a:α) (b:β)
 |be (x:V) (b:β)
def aO.on{α β dx:Type}(x:aO α β)(f:α→β→dx)(g:V→β→dx):dx:=
 match x with
 |.ret a b=>f a b
 |.be x b=>g x b
def e0{b:Bool}(h:b=false):(!b)=true:=by subst h;rfl
def sF{a b:Bool}(h:a=true)(ai:b=true):(a&&b)=true:=by subst h;subst ai;rfl
inductive iI:List V→List V→Prop where
 |nil:iI [] []
 |cons {x y:V} {xs ys:List V} (h:f0 x y) (ah:iI xs ys):iI (x::xs) (y::ys)
def iI.len:∀{xs ys:List V},iI xs ys→xs.length=ys.length
 |_,_,.nil=>rfl
 |_,_,.cons _ ah=>by simp [ah.len]
def iI.at:∀{xs ys:List V},iI xs ys→∀(i:Nat) {y:V},ys[i]? = some y→∃x,xs[i]? = some x∧f0 x y
 |_,_,.nil,i,y,h=>by simp at h
 |_,_,.cons h ah,i,y,b_=>by
  cases i with
  |zero=>simp at b_;subst b_;exact⟨_,rfl,h⟩
  |succ i=>simp at b_;simpa using ah.at i b_
def L9{xs ys:List V}(h:iI xs ys):f0 (.agg xs) (.agg ys):=by
 intro M v aA;cases aA with
 |agg vs cs hn ab ak=>
  refine .agg vs ys (hn.trans h.len) ab (λi v c aA hc=>?_)
  obtain⟨x,hx,hi⟩:=h.at i hc;exact hi M v (ak i v x aA hx)
def Zb{k n:Nat}{g eL:Nat→V}(h:∀i,i<n→iI (g i).cells (eL i).cells):f0 (.bC k n g) (.bC k n eL):=by
 intro M v aA;cases aA with
 |jK=>exact .jK _ _
 |lU=>exact .lU _ _ _
 |bC b off k n cap g val hc hk cX ab ak=>
  refine .bC b off k n cap eL val hc (λi hi=>by rw [←(h i hi).len];exact hk i hi) cX ab (λi j c hi j_=>?_)
  obtain⟨x,hx,Zc⟩:=(h i hi).at j j_;exact Zc M _ (ak i j x hi hx)
inductive jS{α:Type}(e:α→V):List V→List α→Prop where
 |nil:jS e [] []
 |cons {x:V} {y:α} {xs:List V} {ys:List α} (h:iI x.cells (e y).cells) (ah:jS e xs ys):jS e (x::xs) (y::ys)
def jS.len{α:Type}{e:α→V}:∀{xs:List V} {ys:List α},jS e xs ys→xs.length=ys.length
 |_,_,.nil=>rfl
 |_,_,.cons _ ah=>by simp [ah.len]
def jS.at{α:Type}[Inhabited α]{e:α→V}:∀{xs:List V} {ys:List α},jS e xs ys→∀(i:Nat),i<ys.length→iI (xs.getD i .eb).cells (e (ys.getD i default)).cells
 |_,_,.nil,i,h=>by simp at h
 |_,_,.cons h ah,i,b_=>by
  cases i with
  |zero=>simpa using h
  |succ i=>simpa using ah.at i (by simpa using b_)
def yj{α:Type}[Inhabited α]{k:Nat}{e:α→V}{xs:List V}{l:List α}(h:jS e xs l)(n:Nat)(hn:n=l.length):f0 (.bC k n λi=>xs.getD i .eb) (aa k e l):=by
 subst hn;exact Zb λi hi=>h.at i hi
section
variable {tt:dr} {g1 g2:db} {p:Path} {o:Oper} {ops:List Oper} {cd:fN}
def Dc{x:Operand}(h:∀t,x = .tmp t→look g1.env t=look g2.env t∧look g1.bV t=look g2.bV t)(p:Path)(ty:TypeId):rd g1.env g1.bV p tt ty x=rd g2.env g2.bV p tt ty x:=by
 cases x with
 |tmp t=>
  obtain⟨ab,ai⟩:=h t rfl;simp only [rd,ab,ai]
 |const v=>cases v with
  |slice a n c=>cases a<;>cases n<;>cases c<;>rfl
  |_=>rfl
 |global _=>rfl
 |func _=>rfl
def Zd{x:Operand}(h:∀t,x = .tmp t→look g1.env t=look g2.env t):lV g1 x=lV g2 x:=by
 cases x with
 |tmp t=>simp only [lV,h t rfl]
 |_=>rfl
def uZ{α β:Type}{f pk:α→Option β}:∀{l:List α},(∀x,x∈l→f x=pk x)→mapM' f l=mapM' pk l
 |[],_=>rfl
 |x::l,h=>by simp only [mapM',h x (by simp),uZ (l:=l) λy b_=>h y (by simp [b_])]
def Dd{f pk:TypeId→Operand→Option D}:∀{l:List Operand} {ts:List TypeId},(∀x,x∈l→∀t,f t x=pk t x)→jJ f l ts=jJ pk l ts
 |[],_,_=>by simp [jJ]
 |x::l,[],_=>by simp [jJ]
 |x::l,t::ts,h=>by simp only [jJ,h x (by simp) t,Dd (l:=l) (ts:=ts) λy b_=>h y (by simp [b_])]
def hy(tt:dr)(g:db)(p:Path)(o:Oper):List Nat:=
 match o.op with
 |.alloc _ |.box _ _=>match o.dst.bind (look g.ids)with |some id=>[id] |none=>[]
 |.load _ a=>match rd g.env g.bV p tt o.type a with |some (.ptr q _)=>[q] |_=>[]
 |.store _ a _=>match rd g.env g.bV p tt o.type a with |some (.ptr q _)=>[q] |_=>[]
 |.call c=>match c.callee with
  |.value x=>match rd g.env g.bV p tt o.type x,jJ (rd g.env g.bV p tt) c.args.toList c.argTypes.toList with
   |some (.fn _ eK),some ds=>lW g.H 2 (dedup ((ds++eK).flatMap refs))
   |_,_=>[]
  |_=>[]
 |_=>[]
def yk{x:Nat}:∀{l:List Nat},x∈l→x∈dedup l
 |y::l,h=>by
  simp only [dedup];rw [Bool.cond_eq_ite];split
  ·rename_i b_;rcases List.mem_cons.1 h with rfl|h
   ·obtain⟨z,ek,Ze⟩:=List.any_eq_true.1 b_;have:x=z:=by simpa using Ze
    subst this;exact ek
   ·exact yk h
  ·rcases List.mem_cons.1 h with rfl|h
   ·simp
   ·exact List.mem_cons_of_mem _ (yk h)
def L'{H:List (Nat×List aS)}:∀{n:Nat} {l:List Nat} {x:Nat},x∈l→x∈lW H n l
 | 0,_,_,h=>h
 |n+1,_,_,h=>L' (n:=n) (yk (List.mem_append_left _ h))
def L_{α β:Type}{f pk:α→List β}:∀{l:List α},(∀x,x∈l→f x=pk x)→l.flatMap f=l.flatMap pk
 |[],_=>rfl
 |x::l,h=>by simp only [List.flatMap_cons,h x (by simp),L_ (l:=l) λy b_=>h y (by simp [b_])]
def De{H1 cw:List (Nat×List aS)}:∀{n:Nat} {l:List Nat},(∀q,q∈lW H1 n l→look H1 q=look cw q)→lW H1 n l=lW cw n l
 | 0,_,_=>rfl
 |n+1,l,h=>by
  simp only [lW]at h ⊢
  have:(l.flatMap λr=>((look H1 r).getD []).flatMap λe=>refs e.d)=l.flatMap λr=>((look cw r).getD []).flatMap λe=>refs e.d:=
   L_ λr ak=>by rw [h r (L' (yk (List.mem_append_left _ ak)))]
  rw [←this];exact De h
def Ma{H1 cw:List (Nat×List aS)}:∀{l:List Nat},(∀q,q∈l→look H1 q=look cw q)→boxes H1 l=boxes cw l
 |[],_=>rfl
 |r::l,h=>by simp only [boxes,h r (by simp),Ma (l:=l) λq aR=>h q (by simp [aR])]
def Mb{xs:List Operand}{ts:List TypeId}(hs:∀t,Operand.tmp t∈xs→look g1.env t=look g2.env t∧look g1.bV t=look g2.bV t):∀os:List Nat,handed tt g1 xs ts os=handed tt g2 xs ts os
 |[]=>rfl
 |i::os=>by
  simp only [handed,Mb hs os];split
  ·rename_i t l hx ah;obtain⟨ab,ai⟩:=hs t (List.mem_of_getElem? hx);rw [ab,ai]
  ·rfl
  ·rfl
def Zf{xs:List Operand}{ts:List TypeId}{f:FuncId}{args:List D}(hs:∀t,Operand.tmp t∈xs→look g1.env t=look g2.env t∧look g1.bV t=look g2.bV t)(eh:g1.rs=g2.rs)(ej:∀q,q∈lW g1.H 2 (dedup (args.flatMap refs))→look g1.H q=look g2.H q):r6 cd tt g1 p xs ts f args=r6 cd tt g2 p xs ts f args:=by
 have ab:lW g1.H 2 (dedup (args.flatMap refs))=lW g2.H 2 (dedup (args.flatMap refs)):=De ej;unfold r6;simp only [←ab,←eh,←Ma ej,←λos=>Mb (tt:=tt) (ts:=ts) hs os]
def nK(o:Oper):Bool:=
 match o.op with
 |.alloc _ |.box _ _=>true
 |_=>false
def Mc(nL:g1.ids=g2.ids)(hn:g1.aU=g2.aU)(ej:∀id,o.dst.bind (look g1.ids)=some id→look g1.H id=look g2.H id):ll g1 o=ll g2 o:=by
 unfold ll;rw [←nL,←hn];split
 ·rename_i id h;rw [ej id h]
 ·rfl
def Df(hs:∀x,x∈o.op.operands.toList→∀t,x = .tmp t→look g1.env t=look g2.env t∧look g1.bV t=look g2.bV t)(eh:g1.rs=g2.rs)(nL:g1.ids=g2.ids)
 (hn:nK o=true→g1.aU=g2.aU) (ej:∀q,q∈hy tt g1 p o→look g1.H q=look g2.H q):step1 cd tt ops g1 p o=step1 cd tt ops g2 p o:=by
 have R:∀x,x∈o.op.operands.toList→∀p ty,rd g1.env g1.bV p tt ty x=rd g2.env g2.bV p tt ty x:=λx hx p ty=>Dc (hs x hx) p ty
 have O:∀x,x∈o.op.operands.toList→lV g1 x=lV g2 x:=λx hx=>Zd λt ce=>(hs x hx t ce).1
 cases ax:o.op with
 |move x=>simp only [ax,Op.operands]at R O;simp only [step1,ax,R x (by simp),O x (by simp),eh]
 |assign x=>simp only [ax,Op.operands]at R O;simp only [step1,ax,R x (by simp),O x (by simp),eh]
 |pick c a b=>
  simp only [ax,Op.operands]at R O;cases c with
  |tmp c=>simp only [step1,ax,R (.tmp c) (by simp),R a (by simp),R b (by simp),eh]
  |_=>simp only [step1,ax]
 |alloc t=>
  have hi:ll g1 o=ll g2 o:=Mc nL (hn (by simp [nK,ax])) λid hid=>ej id (by simp [hy,ax,hid])
  simp only [step1,ax,eh,hi]
 |box t x=>
  have hi:ll g1 o=ll g2 o:=Mc nL (hn (by simp [nK,ax])) λid hid=>ej id (by simp [hy,ax,hid])
  simp only [ax,Op.operands]at R O;simp only [step1,ax,R x (by simp),eh,hi]
 |build t parts=>
  simp only [ax,Op.operands]at R O
  have:mapM' (fun(i,x)=>(rd g1.env g1.bV p tt (n7 tt t i) x).map λd=>(i,d)) parts.toList=mapM' (fun(i,x)=>(rd g2.env g2.bV p tt (n7 tt t i) x).map λd=>(i,d)) parts.toList:=
   uZ λy b_=>by
    obtain⟨i,x⟩:=y;simp only [R x (List.mem_map.2 ⟨(i,x),b_,rfl⟩)]
  simp only [step1,ax,this,eh]
 |buildSlice t len parts=>
  simp only [ax,Op.operands]at R O
  have:mapM' (fun(i,x)=>(rd g1.env g1.bV p tt (n7 tt t i) x).map λd=>(i,d)) parts.toList=mapM' (fun(i,x)=>(rd g2.env g2.bV p tt (n7 tt t i) x).map λd=>(i,d)) parts.toList:=
   uZ λy b_=>by
    obtain⟨i,x⟩:=y;simp only [R x (List.mem_map.2 ⟨(i,x),b_,rfl⟩)]
  simp only [step1,ax,this,eh]
 |load t a=>
  simp only [ax,Op.operands]at R O;simp only [hy,ax,R a (by simp)]at ej
  simp only [step1,ax,R a (by simp),eh]
  split
  ·rename_i q off aD ha x7;simp only [ha]at ej;simp only [ej q (by simp)]
  ·rfl
  ·rfl
 |store t a x=>
  simp only [ax,Op.operands]at R O;simp only [hy,ax,R a (by simp)]at ej
  simp only [step1,ax,R a (by simp),R x (by simp),O x (by simp),eh]
  split
  ·rename_i q off d aD ha hd x7;simp only [ha]at ej;simp only [ej q (by simp)]
  ·rfl
 |nilCheck x=>simp only [ax,Op.operands]at R O;simp only [step1,ax,R x (by simp),eh]
 |binOp op t x y t2=>simp only [ax,Op.operands]at R O;simp only [step1,ax,R x (by simp),R y (by simp),eh]
 |unOp op t x=>simp only [ax,Op.operands]at R O;simp only [step1,ax,R x (by simp),eh]
 |convert s t x=>simp only [ax,Op.operands]at R O;simp only [step1,ax,R x (by simp),eh]
 |makeInterface t x=>simp only [ax,Op.operands]at R O;simp only [step1,ax,R x (by simp),eh]
 |makeFunc fn first eK=>
  simp only [ax,Op.operands]at R O;cases fn with
  |func f=>
   have:mapM' (rd g1.env g1.bV p tt o.type) eK.toList=mapM' (rd g2.env g2.bV p tt o.type) eK.toList:=uZ λx hx=>R x (by rw [Array.toList_append];exact List.mem_append_right _ hx) _ _
   simp only [step1,ax,this,eh]
  |_=>simp only [step1,ax]
 |slice t x lo hi lX=>
  simp only [ax,Op.operands]at R O
  have ip:lo.map (rd g1.env g1.bV p tt o.type)=lo.map (rd g2.env g2.bV p tt o.type):=by
   cases lo with
   |none=>rfl
   |some l=>simp [R l (by simp)]
  have hR:hi.map (rd g1.env g1.bV p tt o.type)=hi.map (rd g2.env g2.bV p tt o.type):=by
   cases hi with
   |none=>rfl
   |some l=>simp [R l (by simp)]
  have Zg:lX.map (rd g1.env g1.bV p tt o.type)=lX.map (rd g2.env g2.bV p tt o.type):=by
   cases lX with
   |none=>rfl
   |some m=>simp [R m (by simp)]
  simp only [step1,ax,R x (by simp),ip,hR,Zg,eh]
 |fieldAddr s x f=>simp only [ax,Op.operands]at R O;simp only [step1,ax,R x (by simp),eh]
 |field s x f=>simp only [ax,Op.operands]at R O;simp only [step1,ax,R x (by simp),eh]
 |indexAddr t x i=>simp only [ax,Op.operands]at R O;simp only [step1,ax,R x (by simp),R i (by simp),eh]
 |index t x i=>simp only [ax,Op.operands]at R O;simp only [step1,ax,R x (by simp),R i (by simp),eh]
 |typeAssert x a t ok=>simp only [ax,Op.operands]at R O;simp only [step1,ax,R x (by simp),eh]
 |extract x i=>simp only [ax,Op.operands]at R O;simp only [step1,ax,R x (by simp),eh]
 |panic x=>simp only [ax,Op.operands]at R O;simp only [step1,ax,R x (by simp)]
 |call c=>
  simp only [ax,Op.operands,Call.operands]at R O hs;cases hc:c.callee with
  |value x=>
   have hx:=R x (by simp [hc])
   have ha:jJ (rd g1.env g1.bV p tt) c.args.toList c.argTypes.toList=jJ (rd g2.env g2.bV p tt) c.args.toList c.argTypes.toList:=Dd λy b_ t=>R y (by rw [Array.toList_append];exact List.mem_append_right _ b_) p t
   simp only [hy,ax,hc,hx,ha]at ej;simp only [step1,ax,hc,hx,ha];split
   ·rename_i f eK ds ab ai;simp only [ab,ai]at ej;exact Zf (λt ce=>hs (.tmp t) (by rw [Array.toList_append];exact List.mem_append_right _ ce) t rfl) eh ej
   ·rfl
  |invoke x m=>simp only [step1,ax,hc]
  |builtin b=>
   have ha:mapM' (λy=>rd g1.env g1.bV p tt o.type y) c.args.toList=mapM' (λy=>rd g2.env g2.bV p tt o.type y) c.args.toList:=uZ λx hx=>R x (by rw [Array.toList_append];exact List.mem_append_right _ hx) _ _
   cases b with
   |len=>simp only [step1,ax,hc,ha,eh]
   |min=>simp only [step1,ax,hc,ha,eh]
   |max=>simp only [step1,ax,hc,ha,eh]
   |append=>
    simp only [step1,ax,hc,eh];split
    ·rename_i t x e fj aik ail _ t2 ah _ _;have hm:∀y,y∈[Operand.tmp t,x]→y∈(match c.callee with|.value f => #[f] |.invoke r _ => #[r] |.builtin _ => #[]:Array Operand).toList++c.args.toList:=λy b_=>by rw [ah];exact List.mem_append_right _ b_
     have iq:∀y,y∈[Operand.tmp t,x]→y∈((match c.callee with|.value f => #[f] |.invoke r _ => #[r] |.builtin _ => #[]:Array Operand)++c.args).toList:=λy b_=>by rw [Array.toList_append];exact hm y b_
     simp only [R (.tmp t) (iq _ (by simp)),R x (iq _ (by simp)),(hs (.tmp t) (iq _ (by simp)) t rfl).1]
    ·rfl
   |_=>simp only [step1,ax,hc]
 |_=>simp only [step1,ax]
end
structure ea where
 dst:Option Nat
 p:Path
 f:jl
 ir:List Nat
 kS:List Nat
 mK:Bool
 rs:List eR
 fZ:Nat:=0
 qO:V:=.eb
 mL:List (Nat×List aS):=[]
 pm:List (Nat×List aS):=[]
 lx:Nat:=0
def mM(ops:List Oper)(o:Oper):List Nat:=
 (o.op.operands.toList.filterMap fun|.tmp t=>some t|_=>none)++(match o.guard with
  |some (j,_)=>((ops[j]?).bind (·.dst)).toList
  |none=>[])
def ed(E:ea)(g:db):db:=
 match E.dst with
 |none=>{g with env:=fV E.f.f5 g.env,H:=E.f.hs++g.H,aU:=g.aU+E.f.e4}
 |some t=>match E.p with
  |[]=>{g with
   env:=match E.f.e with|some e=>(t,e)::fV E.f.f5 g.env|none=>del (fV E.f.f5 g.env) t
   bV:=del g.bV t,H:=E.f.hs++g.H,aU:=g.aU+E.f.e4}
  |_::_=>match E.f.e with
   |some e=>{g with env:=del g.env t,bV:=(t,E.p,e.d)::del g.bV t}
   |none=>g
def ly(E:ea):List Nat:=E.dst.toList++E.f.f5
def md(E:ea):List Nat:=E.f.hs.map (·.1)
def sG{α:Type}:∀(a b:List (Nat×α)) (q:Nat),look (a++b) q=(match look a q with|some x=>some x|none=>look b q)
 |[],_,_=>rfl
 |(j,x)::a,b,q=>by
  simp only [List.cons_append,dn,sG a b q];by_cases h:j=q<;>simp [h]
def Md{α:Type}:∀{a:List (Nat×α)} {q:Nat},q∉a.map (·.1)→look a q=none
 |[],_,_=>rfl
 |(j,x)::a,q,h=>by
  simp only [List.map_cons,List.mem_cons,not_or]at h;rw [dn,if_neg (Ne.symm h.1)];exact Md h.2
section
variable {E:ea} {g g1 g2:db}
def kt(g1 g2:db)(t:Nat):Prop:=look g1.env t=look g2.env t∧look g1.bV t=look g2.bV t
def qP(g1 g2:db)(q:Nat):Prop:=look g1.H q=look g2.H q
def qQ{t:Nat}(h:t∉ly E):kt (ed E g) g t:=by
 simp only [ly,List.mem_append,not_or]at h;unfold kt ed;cases hd:E.dst with
 |none=>simp only [kM,if_neg h.2,and_self]
 |some u=>
  have hu:u≠t:=by rintro rfl;simp [hd]at h
  cases hp:E.p with
  |nil=>
   dsimp only
   cases he:E.f.e with
   |some e=>simp only [dn,if_neg hu,kM,if_neg h.2,ns,and_self]
   |none=>simp only [kM,if_neg h.2,ns,if_neg hu,and_self]
  |cons x p=>
   dsimp only
   cases he:E.f.e with
   |some e=>simp only [dn,if_neg hu,ns,and_self]
   |none=>exact⟨rfl,rfl⟩
def Dg{t:Nat}(h:kt g1 g2 t):kt (ed E g1) (ed E g2) t:=by
 obtain⟨ab,ai⟩:=h;unfold kt ed;cases hd:E.dst with
 |none=>simp only [kM,ab,ai,and_self]
 |some u=>
  cases hp:E.p with
  |nil=>
   dsimp only
   cases he:E.f.e with
   |some e=>simp only [dn,kM,ab,ai,ns,and_self]
   |none=>simp only [kM,ns,ab,ai,and_self]
  |cons x p=>
   dsimp only
   cases he:E.f.e with
   |some e=>simp only [dn,ns,ab,ai,and_self]
   |none=>exact⟨ab,ai⟩
def Dh:(ed E g).H=E.f.hs++g.H∨(ed E g).H=g.H:=by
 unfold ed;cases E.dst with
 |none=>exact .inl rfl
 |some u=>
  cases E.p with
  |nil=>exact .inl rfl
  |cons x p=>dsimp only;cases E.f.e<;>exact .inr rfl
def sH{q:Nat}(h:q∉md E):qP (ed E g) g q:=by
 unfold qP;rcases Dh (E:=E) (g:=g)with ab|ab<;>rw [ab]
 rw [sG,Md h]
def Di{q:Nat}(h:qP g1 g2 q):qP (ed E g1) (ed E g2) q:=by
 unfold qP at *;unfold ed;cases E.dst with
 |none=>simp only [sG,h]
 |some u=>
  cases E.p with
  |nil=>simp only [sG,h]
  |cons x p=>dsimp only;cases E.f.e<;>exact h
def sI(E:ea):Nat:=
 match E.dst with
 |none=>E.f.e4
 |some _=>match E.p with
  |[]=>E.f.e4
  |_::_=>0
def yl:(ed E g).aU=g.aU+sI E:=by
 unfold ed sI;cases E.dst with
 |none=>rfl
 |some u=>
  cases E.p with
  |nil=>rfl
  |cons x p=>dsimp only;cases E.f.e<;>rfl
structure Alike(g1 g2:db):Prop where
 slot:∀t,kt g1 g2 t
 box:∀q,qP g1 g2 q
 aU:g1.aU=g2.aU
 ids:g1.ids=g2.ids
def ym:(ed E g).ids=g.ids:=by
 unfold ed;cases E.dst with
 |none=>rfl
 |some u=>
  cases E.p with
  |nil=>rfl
  |cons x p=>dsimp only;cases E.f.e<;>rfl
def Alike.refl:Alike g g:=⟨λ_=>⟨rfl,rfl⟩,λ_=>rfl,rfl,rfl⟩
def Alike.symm(h:Alike g1 g2):Alike g2 g1:=⟨λt=>⟨(h.slot t).1.symm,(h.slot t).2.symm⟩,λq=>(h.box q).symm,h.aU.symm,h.ids.symm⟩
def Alike.trans{g3:db}(h:Alike g1 g2)(dk:Alike g2 g3):Alike g1 g3:=⟨λt=>⟨(h.slot t).1.trans (dk.slot t).1,(h.slot t).2.trans (dk.slot t).2⟩,λq=>(h.box q).trans (dk.box q),h.aU.trans dk.aU,h.ids.trans dk.ids⟩
def Alike.ap(h:Alike g1 g2):Alike (ed E g1) (ed E g2):=
 ⟨λt=>Dg (h.slot t),λq=>Di (h.box q),(by simp only [yl,h.aU]),by simp only [ym,h.ids]⟩
def sep(a b:List Nat):Bool:=a.all λx=>!b.any (Nat.beq x)
def qR{a b:List Nat}(h:sep a b=true){x:Nat}(ha:x∈a):x∉b:=by
 intro hb;have:=List.all_eq_true.1 h x ha
 simp only [Bool.not_eq_true',List.any_eq_false]at this;exact this x hb (by simp)
def u0(E dd:ea):Bool:=
 sep (ly E) dd.kS&&sep (ly E) (ly dd)&&sep (ly dd) E.kS&&(sep (md E) dd.ir||Nat.beq E.lx 2&&Nat.beq dd.lx 1)&&sep (md E) (md dd)&&(sep (md dd) E.ir||Nat.beq dd.lx 2&&Nat.beq E.lx 1)&&(!E.mK||Nat.beq (sI dd) 0)&&(!dd.mK||Nat.beq (sI E) 0)
def Zh{E dd:ea}(ab:sep (ly E) (ly dd)=true)(ai:sep (md E) (md dd)=true):Alike (ed E (ed dd g)) (ed dd (ed E g)):=by
 refine⟨λt=>?_,λq=>?_,?_,by simp only [ym]⟩
 ·by_cases ce:t∈ly E
  ·have l8:=qR ab ce;have a:kt (ed E (ed dd g)) (ed E g) t:=Dg (qQ l8);have b:kt (ed dd (ed E g)) (ed E g) t:=qQ l8;exact⟨a.1.trans b.1.symm,a.2.trans b.2.symm⟩
  ·have a:kt (ed E (ed dd g)) (ed dd g) t:=qQ ce;have b:kt (ed dd (ed E g)) (ed dd g) t:=Dg (qQ ce);exact⟨a.1.trans b.1.symm,a.2.trans b.2.symm⟩
 ·by_cases ce:q∈md E
  ·have l8:=qR ai ce;exact(Di (E:=E) (sH (E:=dd) (g:=g) l8)).trans (sH (E:=dd) (g:=ed E g) l8).symm
  ·exact(sH (E:=E) (g:=ed dd g) ce).trans (Di (E:=dd) (sH (E:=E) (g:=g) ce)).symm
 ·simp only [yl];omega
end
section
variable {tt:dr} {ops:List Oper} {cd:fN} {o:Oper} {E:ea} {g g1 g2:db}
def Me(h:∀t,t∈mM ops o→kt g1 g2 t):mA ops g1 o=mA ops g2 o:=by
 unfold mA;split
 ·rfl
 ·rename_i j w hg;cases ce:(ops[j]?).bind (·.dst) with
  |none=>rfl
  |some t=>
   have:=h t (by simp [mM,hg,ce])
   simp only [this.1,this.2]
def yn:∀{p:Path} {q:Prop},(∀x,x∈p→kt g1 g2 x.1)→under g1 p q=under g2 p q
 |[],_,_=>rfl
 |(t,w)::p,q,h=>by
  have ce:=h (t,w) (by simp)
  have bv:=yn (p:=p) (q:=q) λx hx=>h x (by simp [hx])
  have:ud g1.env g1.bV t=ud g2.env g2.bV t:=by unfold ud;rw [ce.1,ce.2]
  simp only [under,this,bv]
def Zi{p:Path}(hs:∀x,x∈o.op.operands.toList→∀t,x = .tmp t→look g1.env t=look g2.env t∧look g1.bV t=look g2.bV t)(nL:g1.ids=g2.ids)(ej:∀q,q∈hy tt g1 p o→look g1.H q=look g2.H q):hy tt g1 p o=hy tt g2 p o:=by
 have R:∀x,x∈o.op.operands.toList→∀p ty,rd g1.env g1.bV p tt ty x=rd g2.env g2.bV p tt ty x:=λx hx p ty=>Dc (hs x hx) p ty
 cases ax:o.op with
 |alloc t=>simp only [hy,ax,nL]
 |box t x=>simp only [hy,ax,nL]
 |load t a=>simp only [ax,Op.operands]at R;simp only [hy,ax,R a (by simp)]
 |store t a x=>simp only [ax,Op.operands]at R;simp only [hy,ax,R a (by simp)]
 |call c=>
  simp only [ax,Op.operands,Call.operands]at R;cases hc:c.callee with
  |value x=>
   have hx:=R x (by simp [hc])
   have ha:jJ (rd g1.env g1.bV p tt) c.args.toList c.argTypes.toList=jJ (rd g2.env g2.bV p tt) c.args.toList c.argTypes.toList:=Dd λy b_ t=>R y (by rw [Array.toList_append];exact List.mem_append_right _ b_) p t
   simp only [hy,ax,hc,hx,ha]at ej ⊢;split
   ·rename_i f eK ds ab ai;simp only [ab,ai]at ej;exact De ej
   ·rfl
  |_=>simp only [hy,ax,hc]
 |_=>simp only [hy,ax]
structure Dj(cd:fN)(tt:dr)(ops:List Oper)(o:Oper)(E:ea)(g:db):Prop where
 yo:mA ops g o=some E.p
 st:step1 cd tt ops {g with rs:=E.rs} E.p o=some (bif Nat.beq E.fZ 0 then .go E.f else .be E.qO E.mL E.f.a6)
 a6:∀q,q∈E.f.a6→under g E.p q
 ir:∀q,q∈hy tt g E.p o→q∈E.ir
 fin:E.fZ=1→∀q,q∈E.ir→look g.H q=look E.pm q
def Can(cd:fN)(tt:dr)(ops:List Oper)(o:Oper)(E:ea)(g:db):Prop:=E.fZ=2∨Dj cd tt ops o E g
def Can.congr(h:Can cd tt ops o E g1)(qS:∀t,t∈mM ops o++E.p.map (·.1)→t∈E.kS)(ny:nK o=E.mK)(hs:∀t,t∈E.kS→kt g1 g2 t)(hb:∀q,q∈E.ir→qP g1 g2 q)(hn:E.mK=true→g1.aU=g2.aU)(nL:g1.ids=g2.ids):Can cd tt ops o E g2:=by
 rcases h with h|h
 ·exact .inl h
 right
 have nM:∀x,x∈o.op.operands.toList→∀t,x = .tmp t→look g1.env t=look g2.env t∧look g1.bV t=look g2.bV t:=by
  rintro x hx t rfl
  exact hs t (qS t (List.mem_append_left _ (by simp only [mM,List.mem_append,List.mem_filterMap];exact .inl ⟨_,hx,rfl⟩)))
 have jR:hy tt g1 E.p o=hy tt g2 E.p o:=Zi nM nL (λq aR=>hb q (h.ir q aR))
 refine⟨?_,?_,λq aR=>?_,(by rw [←jR];exact h.ir),λhk q aR=>(hb q aR).symm.trans (h.fin hk q aR)⟩
 ·rw [←Me (g1:=g1) (g2:=g2) λt ce=>hs t (qS t (List.mem_append_left _ ce))];exact h.yo
 ·rw [←h.st];refine(Df (g1:={g1 with rs:=E.rs}) (g2:={g2 with rs:=E.rs}) nM rfl nL (λhm=>hn (by rw [←ny];exact hm)) (λq aR=>hb q ?_)).symm
  exact h.ir q aR
 ·rw [←yn (g1:=g1) (g2:=g2) λx hx=>hs x.1 (qS _ (List.mem_append_right _ (List.mem_map.2 ⟨x,hx,rfl⟩)))]
  exact h.a6 q aR
def qT(o:Oper)(rs:List eR):Nat:=
 match o.op with
 |.load _ _=>match rs with
  |.own::_=>2
  |.marks _::_=>0
  |_=>1
 |_=>0
def pn(g1 g2:db)(q:Nat):Prop:=(look g1.H q).map (·.map (·.d))=(look g2.H q).map (·.map (·.d))
def Mf:∀(cs:List aS) (off:Nat) (e:aS),cs[off]? = some e→(setAt cs off [{d:=e.d}]).map (·.d)=cs.map (·.d)
 |[],off,e,h=>by simp at h
 |c::cs,0,e,h=>by
  simp only [List.getElem?_cons_zero,Option.some.injEq]at h;subst h;simp [setAt]
 |c::cs,off+1,e,h=>by
  simp only [List.getElem?_cons_succ]at h;simp only [setAt,List.map_cons,Mf cs off e h]
def Zj(h:Dj cd tt ops o E g)(ah:qT o E.rs=2)(hk:E.fZ=0)(q:Nat):pn (ed E g) g q:=by
 have eA:=h.st;rw [hk]at eA;unfold qT at ah;split at ah
 case h_2=>cases ah
 rename_i t a ax;simp only [step1,ax,show Nat.beq 0 0=true from rfl,cond_true]at eA
 have nil:E.f.hs=[]→pn (ed E g) g q:=by
  intro bz;unfold pn;rcases Dh (E:=E) (g:=g)with ab|ab<;>rw [ab]
  rw [bz];rfl
 split at eA
 ·rename_i Zk off aD ak cV;split at eA
  ·rename_i cs dP;rw [Bool.cond_eq_ite]at eA;split at eA
   ·rw [Bool.cond_eq_ite]at eA;split at eA
    ·split at eA
     ·rename_i eh;rw [eh]at ah;cases ah
     ·simp only [Option.map_some,Option.some.injEq,lk.go.injEq]at eA;exact nil (by rw [←eA])
    ·cases eA
   ·split at eA
    ·rename_i e he;split at eA
     ·rw [Bool.cond_eq_ite]at eA;split at eA
      ·simp only [Option.some.injEq,lk.go.injEq]at eA;unfold pn;rcases Dh (E:=E) (g:=g)with ab|ab<;>rw [ab]
       rw [←eA];simp only [List.cons_append,List.nil_append,dn];split
       ·rename_i aR;subst aR;rw [dP];simp only [Option.map_some,Mf cs off e he]
       ·rfl
      ·cases eA
     ·simp only [Option.map_some,Option.some.injEq,lk.go.injEq]at eA;exact nil (by rw [←eA])
    ·cases eA
  ·cases eA
 ·rename_i x aD ak cV;rw [Bool.cond_eq_ite]at eA;split at eA
  ·simp only [Option.map_some,Option.some.injEq,lk.go.injEq]at eA;exact nil (by rw [←eA])
  ·cases eA
 ·cases eA
def Zl{p:Path}{rs:List eR}{t:TypeId}{a:Operand}(ax:o.op = .load t a)(eh:∀l,rs ≠ .own::l)(yp:∀c l,rs ≠ .marks c::l)(R:rd g1.env g1.bV p tt o.type a=rd g2.env g2.bV p tt o.type a)(Zm:∀q off,rd g2.env g2.bV p tt o.type a=some (.ptr q off)→pn g1 g2 q):
 step1 cd tt ops {g1 with rs:=rs} p o=step1 cd tt ops {g2 with rs:=rs} p o:=by
 simp only [step1,ax,R];split
 ·rename_i q off aD ak cV;have hd:=Zm q off ak;unfold pn at hd;cases ab:look g1.H q with
  |none=>
   rw [ab]at hd;cases ai:look g2.H q with
   |none=>rfl
   |some c2=>rw [ai]at hd;cases hd
  |some c1=>
   rw [ab]at hd;cases ai:look g2.H q with
   |none=>rw [ai]at hd;cases hd
   |some c2=>
    rw [ai]at hd;simp only [Option.map_some,Option.some.injEq]at hd;have hlen:c1.length=c2.length:=by have:=congrArg List.length hd;simpa using this
    have Zn:((c1.drop off).take aD.size).map (·.d)=((c2.drop off).take aD.size).map (·.d):=by rw [List.map_take,List.map_drop,hd,←List.map_drop,←List.map_take]
    have hr:(c1[off]?).map (·.d)=(c2[off]?).map (·.d):=by rw [←List.getElem?_map,hd,List.getElem?_map]
    simp only [hlen,Zn];cases aD.k.isAgg with
    |true=>
     cases rs with
     |nil=>rfl
     |cons x l=>
      cases x with
      |marks=>exact absurd rfl (yp _ l)
      |_=>rfl
    |false=>
     simp only [cond_false];cases Mg:c1[off]? with
     |none=>
      rw [Mg]at hr;cases yq:c2[off]? with
      |none=>rfl
      |some e2=>rw [yq]at hr;cases hr
     |some e1=>
      rw [Mg]at hr;cases yq:c2[off]? with
      |none=>rw [yq]at hr;cases hr
      |some e2=>
       rw [yq]at hr;simp only [Option.map_some,Option.some.injEq]at hr;cases rs with
       |nil=>cases e1.own<;>cases e2.own<;>simp [hr]
       |cons r l=>
        cases r with
        |own=>exact absurd rfl (eh l)
        |val x=>cases e1.own<;>cases e2.own<;>simp [hr]
        |raw=>cases e1.own<;>cases e2.own<;>simp [hr]
        |marks=>exact absurd rfl (yp _ l)
        |call u v z=>cases e1.own<;>cases e2.own<;>simp [hr]
 ·rfl
 ·rfl
def Can.Mh(h:Can cd tt ops o E g1)(ah:qT o E.rs=1)(hk:E.fZ=0)(qS:∀t,t∈mM ops o++E.p.map (·.1)→t∈E.kS)(hs:∀t,t∈E.kS→kt g1 g2 t)(hb:∀q,pn g1 g2 q):Can cd tt ops o E g2:=by
 rcases h with h|h
 ·exact .inl h
 right
 have nM:∀x,x∈o.op.operands.toList→∀t,x = .tmp t→look g1.env t=look g2.env t∧look g1.bV t=look g2.bV t:=by
  rintro x hx t rfl
  exact hs t (qS t (List.mem_append_left _ (by simp only [mM,List.mem_append,List.mem_filterMap];exact .inl ⟨_,hx,rfl⟩)))
 unfold qT at ah;split at ah
 case h_2=>cases ah
 rename_i t a ax
 have eh:∀l,E.rs ≠ .own::l:=by
  intro l e;rw [e]at ah;cases ah
 have yp:∀c l,E.rs ≠ .marks c::l:=by
  intro c l e;rw [e]at ah;cases ah
 have R:rd g1.env g1.bV E.p tt o.type a=rd g2.env g2.bV E.p tt o.type a:=Dc (nM a (by simp [ax,Op.operands])) _ _
 have jR:hy tt g1 E.p o=hy tt g2 E.p o:=by simp only [hy,ax,R]
 refine⟨?_,?_,λq aR=>?_,(by rw [←jR];exact h.ir),λqG=>by rw [hk]at qG;cases qG⟩
 ·rw [←Me (g1:=g1) (g2:=g2) λt ce=>hs t (qS t (List.mem_append_left _ ce))];exact h.yo
 ·rw [←h.st];exact(Zl ax eh yp R λq off _=>hb q).symm
 ·rw [←yn (g1:=g1) (g2:=g2) λx hx=>hs x.1 (qS _ (List.mem_append_right _ (List.mem_map.2 ⟨x,hx,rfl⟩)))]
  exact h.a6 q aR
end
def h'(ops:List Oper)(o:Oper)(E:ea):Bool:=Zo (mM ops o++E.p.map (·.1)) E.kS&&(nK o == E.mK)&&decide (E.dst=o.dst)&&(match E.f.rs with|[]=>true|_=>false)&&(Nat.beq E.lx 0||Nat.beq E.lx (qT o E.rs)&&Nat.beq E.fZ 0)
where Zo (a b:List Nat):Bool:=a.all λx=>b.any (Nat.beq x)
def yr{ops:List Oper}{o:Oper}{E:ea}(h:h' ops o E=true):(∀t,t∈mM ops o++E.p.map (·.1)→t∈E.kS)∧nK o=E.mK∧E.dst=o.dst∧E.f.rs=[]:=by
 simp only [h',Bool.and_eq_true,beq_iff_eq,decide_eq_true_eq]at h;obtain⟨⟨⟨⟨ab,ai⟩,ay⟩,bg⟩,_⟩:=h;refine⟨λt ce=>?_,ai,ay,?_⟩
 ·obtain⟨y,b_,fY⟩:=List.any_eq_true.1 (List.all_eq_true.1 ab t ce);have:t=y:=by simpa using fY
  rw [this];exact b_
 ·split at bg
  ·assumption
  ·cases bg
def waits(ops:List Oper)(i:Nat):Nat→Nat→Bool
 | 0,_=>false
 |n+1,j=>match ops[j]? with
  |some o=>o.after.toList.any λe=>Region.binds .any e&&(Nat.beq e.on i||waits ops i n e.on)
  |none=>false
def lz(opsA:Array Oper)(listed:Array Bool):Prop:=∀(j:Nat) o,opsA[j]? = some o→listed.getD j false=true→∀e,e∈o.after→Region.binds .any e=true→listed.getD e.on false=true
def yt{opsA:Array Oper}{listed:Array Bool}(hc:lz opsA listed){i:Nat}:∀{n j:Nat},waits opsA.toList i n j=true→listed.getD j false=true→listed.getD i false=true
 | 0,_,h,_=>by simp [waits]at h
 |n+1,j,h,hj=>by
  simp only [waits]at h;split at h
  ·rename_i o ax;obtain⟨e,he,hb⟩:=List.any_eq_true.1 h;simp only [Bool.and_eq_true,Bool.or_eq_true,Nat.beq_eq]at hb;have ab:=hc j o (by simpa using ax) hj e (by simpa using he) hb.1
   rcases hb.2 with rfl|ai
   ·exact ab
   ·exact yt hc ai ab
  ·cases h
def lz.set{opsA:Array Oper}{listed:Array Bool}(hc:lz opsA listed){i:Nat}(ak:i∈Region.ready .any opsA listed):lz opsA (listed.setIfInBounds i true):=by
 intro j o ax hj e he hb;by_cases mN:i=j
 ·subst mN;obtain⟨_,o',iY,l4⟩:=mem_ready.1 ak;rw [ax]at iY;cases iY;exact getD_set_true (l4 e he hb)
 ·rw [getD_set_ne false mN]at hj;exact getD_set_true (hc j o ax hj e he hb)
section
variable {cd:fN} {tt:dr} {opsA:Array Oper} {cC:List ea} {Fi:db→Prop} {g g1 g2:db}
def hS(cd:fN)(tt:dr)(opsA:Array Oper)(cC:List ea)(Fi:db→Prop):Nat→Array Bool→db→Prop
 | 0,listed,g=>Region.ready .any opsA listed=[]∧Fi g
 |n+1,listed,g=>(Region.ready .any opsA listed=[]→Fi g)∧∀i,i∈Region.ready .any opsA listed→∃o E,opsA[i]? = some o∧cC[i]? = some E∧Can cd tt opsA.toList o E g∧
  hS cd tt opsA cC Fi n (listed.setIfInBounds i true) (ed E g)
def hS.alike(fQ:∀(i:Nat) o E,opsA[i]? = some o→cC[i]? = some E→h' opsA.toList o E=true)(du:∀g1 g2,Alike g1 g2→Fi g1→Fi g2):∀{n:Nat} {listed:Array Bool} {g1 g2:db},Alike g1 g2→hS cd tt opsA cC Fi n listed g1→hS cd tt opsA cC Fi n listed g2
 | 0,_,_,_,ha,h=>⟨h.1,du _ _ ha h.2⟩
 |n+1,_,_,_,ha,h=>⟨λak=>du _ _ ha (h.1 ak),λi hi=>by
  obtain⟨o,E,ax,cB,h_,hn⟩:=h.2 i hi;obtain⟨c6,ar,_,_⟩:=yr (fQ i o E ax cB);exact⟨o,E,ax,cB,h_.congr c6 ar (λt _=>ha.slot t) (λq _=>ha.box q) (λ_=>ha.aU) ha.ids,hS.alike fQ du ha.ap hn⟩⟩
def u1{ops:List Oper}{o:Oper}{E:ea}{n:Nat}(h:h' ops o E=true)(ah:E.lx=n+1):qT o E.rs=n+1∧E.fZ=0:=by
 simp only [h',Bool.and_eq_true,Bool.or_eq_true,Nat.beq_eq]at h;rcases h.2 with h|h
 ·rw [ah]at h;cases h
 ·exact⟨h.1.symm.trans ah,h.2⟩
def Can.data{cd:fN}{tt:dr}{ops:List Oper}{o:Oper}{E:ea}{g:db}(h:Can cd tt ops o E g)(fQ:h' ops o E=true)(ah:E.lx=2)(q:Nat):pn (ed E g) g q:=by
 obtain⟨ab,ai⟩:=u1 fQ ah;rcases h with h|h
 ·rw [ai]at h;cases h
 ·exact Zj h ab ai q
def Zp{E dd:ea}(h:u0 E dd=true):sep (ly E) dd.kS=true∧sep (ly E) (ly dd)=true∧sep (ly dd) E.kS=true∧(sep (md E) dd.ir=true∨E.lx=2∧dd.lx=1)∧sep (md E) (md dd)=true∧(sep (md dd) E.ir=true∨dd.lx=2∧E.lx=1)∧(E.mK=true→sI dd=0)∧(dd.mK=true→sI E=0):=by
 simp only [u0,Bool.and_eq_true,Bool.or_eq_true,Bool.not_eq_true',Nat.beq_eq]at h;obtain⟨⟨⟨⟨⟨⟨⟨ab,ai⟩,ay⟩,bg⟩,bQ⟩,dh⟩,e5⟩,gH⟩:=h;exact⟨ab,ai,ay,bg,bQ,dh,λhm=>e5.resolve_left (by simp [hm]),λhm=>gH.resolve_left (by simp [hm])⟩
def hS.first(fQ:∀(i:Nat) o E,opsA[i]? = some o→cC[i]? = some E→h' opsA.toList o E=true)(du:∀g1 g2,Alike g1 g2→Fi g1→Fi g2){i:Nat}{o:Oper}{E:ea}(hi:opsA[i]? = some o)(cB:cC[i]? = some E):
 ∀(fuel:Nat) (listed:Array Bool) (g:db),
  (∀(j:Nat) mO ke,opsA[j]? = some mO→cC[j]? = some ke→j≠i→listed.getD j true=false→waits opsA.toList i 3 j=false→u0 E ke=true)→lz opsA listed→
  i∈Region.ready .any opsA listed→Can cd tt opsA.toList o E g→hS cd tt opsA cC Fi fuel (listed.setIfInBounds i true) (ed E g)→hS cd tt opsA cC Fi (fuel+1) listed g:=by
 intro fuel;induction fuel with
 |zero=>
  intro listed g _ _ ak h_ H;refine⟨λh=>(by rw [h]at ak;cases ak),λj hj=>?_⟩
  by_cases mN:j=i
  ·subst mN;exact⟨o,E,hi,cB,h_,H⟩
  ·have:=ready_mono hj mN
   rw [H.1]at this;cases this
 |succ fuel bv=>
  intro listed g iF ht ak h_ H;refine⟨λh=>(by rw [h]at ak;cases ak),λj hj=>?_⟩
  by_cases mN:j=i
  ·subst mN;exact⟨o,E,hi,cB,h_,H⟩
  obtain⟨mO,ke,mP,po,Mi,Zq⟩:=H.2 j (ready_mono hj mN);obtain⟨Mj,aim,Mk,l4⟩:=mem_ready.1 hj;rw [mP]at Mk;cases Mk
  have lA:listed.getD i false=false:=by
   have h0:=(mem_ready.1 ak).1;rcases Nat.lt_or_ge i listed.size with dk|dk
   ·simpa [Array.getD_eq_getD_getElem?,dk]using h0
   ·simp [Array.getD_eq_getD_getElem?,Array.getElem?_eq_none dk]
  have Zr:waits opsA.toList i 3 j=false:=by
   rw [Bool.eq_false_iff];intro hw;rw [waits]at hw;have ah:opsA.toList[j]? = some mO:=by simpa using mP
   simp only [ah]at hw;obtain⟨e,he,hb⟩:=List.any_eq_true.1 hw;simp only [Bool.and_eq_true,Bool.or_eq_true,Nat.beq_eq]at hb;have ab:=l4 e (by simpa using he) hb.1
   rcases hb.2 with rfl|ai
   ·rw [lA]at ab;cases ab
   ·rw [yt ht ai ab]at lA;cases lA
  obtain⟨d1,d2,d3,d4,d5,d6,d7,d8⟩:=Zp (iF j mO ke mP po mN Mj Zr);obtain⟨c6,ar,_,_⟩:=yr (fQ i o E hi cB);obtain⟨hl,kb,_,_⟩:=yr (fQ j mO ke mP po)
  have c1:Can cd tt opsA.toList mO ke g:=by
   rcases d4 with d4|⟨e1,e2⟩
   ·exact Mi.congr hl kb (λt ce=>qQ λhw=>qR d1 hw ce) (λq aR=>sH λhw=>qR d4 hw aR) (λhm=>by rw [yl,d8 hm];rfl) ym
   ·exact Mi.Mh (u1 (fQ j mO ke mP po) e2).1 (u1 (fQ j mO ke mP po) e2).2 hl (λt ce=>qQ λhw=>qR d1 hw ce) (h_.data (fQ i o E hi cB) e1)
  have c2:Can cd tt opsA.toList o E (ed ke g):=by
   have Ml:∀t,t∈E.kS→kt g (ed ke g) t:=λt ce=>by have:=qQ (E:=ke) (g:=g) (t:=t) λhw=>qR d3 hw ce;exact⟨this.1.symm,this.2.symm⟩
   rcases d6 with d6|⟨e1,e2⟩
   ·exact h_.congr c6 ar Ml (λq aR=>(sH (E:=ke) (g:=g) (q:=q) λhw=>qR d6 hw aR).symm) (λhm=>by rw [yl,d7 hm];rfl) ym.symm
   ·exact h_.Mh (u1 (fQ i o E hi cB) e2).1 (u1 (fQ i o E hi cB) e2).2 c6 Ml (λq=>(c1.data (fQ j mO ke mP po) e1 q).symm)
  refine⟨mO,ke,mP,po,c1,bv (listed.setIfInBounds j true) (ed ke g) ?_ (ht.set hj) (ready_mono ak (Ne.symm mN)) c2 ?_⟩
  ·intro k ok Zs hk Zt Zu lA l_;refine iF k ok Zs hk Zt Zu ?_ l_;by_cases pp:j=k
   ·subst pp;exact Mj
   ·rw [getD_set_ne true pp]at lA;exact lA
  ·rw [Array.setIfInBounds_comm _ _ mN];exact hS.alike fQ du (Zh d2 d5).symm Zq
structure yu(n k:Nat)(listed:Array Bool):Prop where
 size:listed.size=n
 at':∀j,j<n→listed[j]? = some (decide (j<k))
def yu.set{n k:Nat}{listed:Array Bool}(h:yu n k listed):yu n (k+1) (listed.setIfInBounds k true):=by
 refine⟨by simp [h.size],λj hj=>?_⟩
 by_cases pp:k=j
 ·subst pp;simp [h.size,hj]
 ·rw [Array.getElem?_setIfInBounds_ne pp,h.at' j hj]
  congr 1
  have:(j<k)=(j<k+1):=by apply propext;omega
  simp [this]
def Zv(o:Oper)(k:Nat):Bool:=o.after.toList.all λe=>!Region.binds .any e||Nat.blt e.on k
def yv(ops:List Oper)(E:ea)(k:Nat):Nat→List (Oper×ea)→Bool
 |_,[]=>true
 |j,(_,dd)::l=>(u0 E dd||waits ops k 3 j)&&yv ops E k (j+1) l
def yw(ops:List Oper):Nat→List (Oper×ea)→Bool
 |_,[]=>true
 |k,(o,E)::l=>Zv o k&&yv ops E k (k+1) l&&yw ops (k+1) l
def yx(cd:fN)(tt:dr)(ops:List Oper)(Fi:db→Prop):List (Oper×ea)→db→Prop
 |[],g=>Fi g
 |(o,E)::l,g=>Can cd tt ops o E g∧yx cd tt ops Fi l (ed E g)
def Mm{ops:List Oper}{E:ea}{k:Nat}:∀{l:List (Oper×ea)} {n:Nat},yv ops E k n l=true→∀(j:Nat) o dd,l[j]? = some (o,dd)→waits ops k 3 (n+j)=false→u0 E dd=true
 |[],_,_,j,o,dd,hj,_=>by simp at hj
 |(cL,aY)::l,n,h,j,o,dd,hj,l_=>by
  simp only [yv,Bool.and_eq_true,Bool.or_eq_true]at h;cases j with
  |zero=>
   simp at hj
   obtain⟨rfl,rfl⟩:=hj;exact h.1.resolve_right (by rw [Nat.add_zero]at l_;rw [l_];simp)
  |succ j=>exact Mm h.2 j o dd (by simpa using hj) (by rwa [show n+1+j=n+(j+1)by omega])
def hS.text(fQ:∀(i:Nat) o E,opsA[i]? = some o→cC[i]? = some E→h' opsA.toList o E=true)(du:∀g1 g2,Alike g1 g2→Fi g1→Fi g2):
 ∀(l:List (Oper×ea)) (k:Nat) (listed:Array Bool) (g:db),(∀j:Nat,(l[j]?).map (·.1)=opsA[k+j]?)→(∀j:Nat,(l[j]?).map (·.2)=cC[k+j]?)→yu opsA.size k listed→lz opsA listed→yw opsA.toList k l=true→yx cd tt opsA.toList Fi l g→
  hS cd tt opsA cC Fi l.length listed g
 |[],k,listed,g,ab,_,kT,_,_,hc=>by
  refine⟨?_,hc⟩
  have hk:opsA[k]? = none:=by have:=ab 0;simpa using this.symm
  have qG:opsA.size≤k:=by simpa using hk
  refine List.eq_nil_iff_forall_not_mem.2 λj hj=>?_
  obtain⟨hu,o,ax,_⟩:=mem_ready.1 hj;have cV:j<opsA.size:=(Array.getElem?_eq_some_iff.1 ax).1;have:=kT.at' j cV
  rw [Array.getD_eq_getD_getElem?,this]at hu;have pp:j<k:=by omega
  simp [pp]at hu
 |(o,E)::l,k,listed,g,ab,ai,kT,ht,hx,hc=>by
  have ax:opsA[k]? = some o:=by have:=ab 0;simpa using this.symm
  have cB:cC[k]? = some E:=by have:=ai 0;simpa using this.symm
  have cV:k<opsA.size:=(Array.getElem?_eq_some_iff.1 ax).1;simp only [yw,Bool.and_eq_true]at hx;obtain⟨⟨ak,bh⟩,hx⟩:=hx
  have Mn:k∈Region.ready .any opsA listed:=by
   refine mem_ready.2 ⟨?_,o,ax,λe he hb=>?_⟩
   ·rw [Array.getD_eq_getD_getElem?,kT.at' k cV];simp
   ·have:=List.all_eq_true.1 ak e (by simpa using he)
    simp only [hb,Bool.not_true,Bool.false_or,Nat.blt_eq]at this;rw [Array.getD_eq_getD_getElem?,kT.at' e.on (by omega)]
    simp [this]
  refine hS.first fQ du ax cB l.length listed g ?_ ht Mn hc.1 (hS.text fQ du l (k+1) _ _ (λj=>?_) (λj=>?_) kT.set (ht.set Mn) hx hc.2)
  ·intro j mO ke mP po dQ lA l_;have qv:j<opsA.size:=(Array.getElem?_eq_some_iff.1 mP).1
   have pp:k<j:=by
    rw [Array.getD_eq_getD_getElem?,kT.at' j qv]at lA;simp at lA
    omega
   have e1:=ab (j-k);have e2:=ai (j-k);have Mo:k+(j-k)=j:=by omega
   rw [Mo,mP]at e1;rw [Mo,po]at e2
   have e3:(((o,E)::l)[j-k]?)=l[j-k-1]? := by
    have:j-k=(j-k-1)+1:=by omega
    rw [this];simp
   rw [e3]at e1 e2;cases ah:l[j-k-1]? with
   |none=>rw [ah]at e1;simp at e1
   |some x=>
    rw [ah]at e1 e2;simp at e1 e2
    obtain⟨fA,gP⟩:=x;simp only at e1 e2
    subst e1;subst e2;exact Mm bh _ _ _ ah (by rwa [show k+1+(j-k-1)=j by omega])
  ·have:=ab (j+1);simpa [Nat.add_assoc,Nat.add_comm 1 j]using this
  ·have:=ai (j+1);simpa [Nat.add_assoc,Nat.add_comm 1 j]using this
end
def nN(N:Nat)(E:ea):Bool:=
 match E.dst with
 |none=>E.p.isEmpty
 |some t=>Nat.blt t N&&match E.p with
  |[]=>true
  |p=>E.f.e.isSome&&E.f.hs.isEmpty&&E.f.f5.isEmpty&&p.all (λy=>!Nat.beq y.1 t)&&Nat.beq E.f.e4 0
def u2(ops:List Oper)(i:Nat)(t:Nat):Nat→List ea→Bool
 |_,[]=>true
 |j,dd::l=>(match dd.p with
  |[]=>true
  |p=>(match dd.dst with |some h4=>Nat.beq h4 t |none=>false)||p.all (λy=>!Nat.beq y.1 t)||waits ops i 3 j)&&u2 ops i t (j+1) l
def yy(ops:List Oper)(cC:List ea):Nat→List ea→Bool
 |_,[]=>true
 |i,E::l=>(match E.dst with
  |none=>true
  |some t=>u2 ops i t 0 cC)&&yy ops cC (i+1) l
def u3(ops:List Oper)(cC:List ea):Bool:=yy ops cC 0 cC
def Mp{ops:List Oper}{i t:Nat}:∀{l:List ea} {k:Nat},u2 ops i t k l=true→∀(j:Nat) (dd:ea),l[j]? = some dd→dd.p≠[]→
 ((match dd.dst with|some h4=>Nat.beq h4 t|none=>false)||dd.p.all (λy=>!Nat.beq y.1 t))=true∨waits ops i 3 (k+j)=true
 |[],_,_,j,dd,h,_=>by simp at h
 |aY::l,k,h,j,dd,hj,dQ=>by
  simp only [u2,Bool.and_eq_true]at h;cases j with
  |zero=>
   simp at hj
   subst hj;have ab:=h.1;split at ab
   ·rename_i mB;exact absurd mB dQ
   ·rw [Bool.or_eq_true]at ab;exact ab
  |succ j=>
   have:=Mp h.2 j dd (by simpa using hj) dQ
   rwa [show k+(j+1)=k+1+j by omega]
def Mq{ops:List Oper}{cC:List ea}:∀{l:List ea} {k:Nat},yy ops cC k l=true→∀(i:Nat) (E:ea) (t:Nat),l[i]? = some E→E.dst=some t→u2 ops (k+i) t 0 cC=true
 |[],_,_,i,E,t,h,_=>by simp at h
 |aY::l,k,h,i,E,t,hi,hd=>by
  simp only [yy,Bool.and_eq_true]at h;cases i with
  |zero=>
   simp at hi
   subst hi;have ab:=h.1;rw [hd]at ab;exact ab
  |succ i=>
   have:=Mq h.2 i E t (by simpa using hi) hd
   rwa [show k+(i+1)=k+1+i by omega]
section
variable {P:Program} {K:Ctx} {N:Nat} {M:Mem} {β:Nat→Option Nat} {tt:dr} {opsA:Array Oper} {cC:List ea} {g:db} {w:World} {tmps:Array Value}
def pq(cC:List ea)(listed:Array Bool)(g:db):Prop:=∀x,x∈g.bV→∃(i:Nat) (E:ea),cC[i]? = some E∧listed.getD i false=true∧E.dst=some x.1∧E.p=x.2.1∧E.p≠[]
def yz{α:Type}:∀{l:List (Nat×α)} {t:Nat} {x:Nat×α},x∈del l t→x∈l
 |[],_,_,h=>by simp [del]at h
 |(j,y)::l,t,x,h=>by
  simp only [del]at h;rw [Bool.cond_eq_ite]at h;split at h
  ·exact List.mem_cons_of_mem _ (yz h)
  ·rcases List.mem_cons.1 h with rfl|h
   ·simp
   ·exact List.mem_cons_of_mem _ (yz h)
def pq.ap{listed:Array Bool}{i:Nat}{E:ea}(cB:cC[i]? = some E)(hi:i<listed.size)(h:pq cC listed g):pq cC (listed.setIfInBounds i true) (ed E g):=by
 have dk:pq cC (listed.setIfInBounds i true) g:=λx hx=>by
  obtain⟨j,dd,ab,ai,ay⟩:=h x hx;exact⟨j,dd,ab,getD_set_true ai,ay⟩
 intro x hx;unfold ed at hx;cases hd:E.dst with
 |none=>simp only [hd]at hx;exact dk x hx
 |some t=>
  simp only [hd]at hx;cases hp:E.p with
  |nil=>simp only [hp]at hx;exact dk x (yz hx)
  |cons y p=>
   simp only [hp]at hx;cases he:E.f.e with
   |none=>simp only [he]at hx;exact dk x hx
   |some e=>
    simp only [he]at hx;rcases List.mem_cons.1 hx with rfl|hx
    ·exact⟨i,E,cB,by simp [hi],by simp [hd],by simp [hp],by simp [hp]⟩
    ·exact dk x (yz hx)
def Zw{listed:Array Bool}{i:Nat}{E:ea}{t:Nat}(iF:u3 opsA.toList cC=true)(cB:cC[i]? = some E)(hd:E.dst=some t)(hc:lz opsA listed)(hi:listed.getD i false=false)(h:pq cC listed g):r9 g.bV t=true:=by
 unfold r9;rw [List.all_eq_true];intro x hx;obtain⟨j,dd,ov,ah,iB,yd,dQ⟩:=h x hx;have ab:=Mq iF i E t cB hd;rw [Nat.zero_add]at ab;rcases Mp ab j dd ov dQ with ai|ai
 ·rw [iB,yd]at ai;exact ai
 ·rw [Nat.zero_add]at ai;have:=yt hc ai ah
  rw [hi]at this;cases this
def Mr{listed:Array Bool}{cd:fN}{o:Oper}{E:ea}{i:Nat}(hJ:E.fZ=0)(h_:Dj cd tt opsA.toList o E g)(cB:cC[i]? = some E)(fQ:h' opsA.toList o E=true)(b5:nN N E=true)(iF:u3 opsA.toList cC=true)(hc:lz opsA listed)(hi:listed.getD i false=false)(hE:pq cC listed g):
 ii cd tt N opsA.toList {g with rs:=E.rs,a6:=[]} o=some (.go {ed E g with rs:=[],a6:=E.f.a6.map (under g E.p)}):=by
 obtain⟨_,_,eS,dS⟩:=yr fQ;have hg:mA opsA.toList {g with rs:=E.rs,a6:=[]} o=some E.p:=h_.yo
 have hs:step1 cd tt opsA.toList {g with rs:=E.rs,a6:=[]} E.p o=some (.go E.f):=by
  have eA:=h_.st;rw [hJ]at eA;refine Eq.trans ?_ eA;exact Df (g1:={g with rs:=E.rs,a6:=[]}) (g2:={g with rs:=E.rs}) (λ_ _ _ _=>⟨rfl,rfl⟩) rfl rfl (λ_=>rfl) (λ_ _=>rfl)
 have hu:∀q,under {g with rs:=E.rs,a6:=[]} E.p q=under g E.p q:=λq=>yn λ_ _=>⟨rfl,rfl⟩
 unfold ii;rw [hg]
 dsimp only
 rw [hs]
 dsimp only
 rw [←eS];have cv:E.f.a6.map (under {g with rs:=E.rs,a6:=[]} E.p)++[]=E.f.a6.map (under g E.p):=by rw [List.append_nil];exact List.map_congr_left λq _=>hu q
 rw [cv,dS];unfold nN at b5;unfold ed;cases hd:E.dst with
 |none=>
  rw [hd]at b5
  dsimp only at b5 ⊢
  rw [b5];rfl
 |some t=>
  rw [hd]at b5;have bh:=Zw iF cB hd hc hi hE;simp only [Bool.and_eq_true]at b5;obtain⟨cV,b5⟩:=b5
  dsimp only
  rw [cV,bh];cases hp:E.p with
  |nil=>rfl
  |cons x p=>
   rw [hp]at b5;simp only [Bool.and_eq_true,List.isEmpty_iff,Nat.beq_eq,Option.isSome_iff_exists]at b5;obtain⟨⟨⟨⟨⟨e,he⟩,bz⟩,hc⟩,l4⟩,hn⟩:=b5;simp only [he,bz,hc,hn,l4];rfl
def hS.sound(b':eF P tt=true)(hJ:∀(i:Nat) E,cC[i]? = some E→E.fZ=0)(fQ:∀(i:Nat) o E,opsA[i]? = some o→cC[i]? = some E→h' opsA.toList o E=true)(b5:∀(i:Nat) E,cC[i]? = some E→nN N E=true)(iF:u3 opsA.toList cC=true){Fi:db→Prop}{Q:Exit→Act→World→Prop}
 (dR:∀g dU w' M' β',Fi g→eZ P K N M' β' g dU w'→Q .normal ⟨dU,K.ds⟩ w'):
 ∀(n:Nat) (listed:Array Bool) (g:db) (tmps:Array Value) (w:World) (M:Mem) (β:Nat→Option Nat),hS (gd P) tt opsA cC Fi n listed g→listed.size=opsA.size→lz opsA listed→pq cC listed g→eZ P K N M β g tmps w→wpAny P .any opsA Q n listed ⟨tmps,K.ds⟩ w
 | 0,_,g,tmps,w,M,β,h,_,_,_,hs=>⟨h.1,dR g tmps w M β h.2 hs⟩
 |n+1,listed,g,tmps,w,M,β,h,dW,ht,hE,hs=>by
  refine⟨λak=>dR g tmps w M β (h.1 ak) hs,λi hi=>?_⟩
  obtain⟨o,E,ax,cB,yA,hn⟩:=h.2 i hi;have h_:=yA.resolve_left (by rw [hJ i E cB];simp)
  have cV:i<listed.size:=by rw [dW];exact(Array.getElem?_eq_some_iff.1 ax).1
  have lA:listed.getD i false=false:=by have:=(mem_ready.1 hi).1;simpa [Array.getD_eq_getD_getElem?,cV]using this
  have Dk:=Mr (N:=N) (hJ i E cB) h_ cB (fQ i o E ax cB) (b5 i E cB) iF ht lA hE;have fu:eZ P K N M β {g with rs:=E.rs,a6:=[]} tmps w:=⟨hs.bn,hs.size,hs.fresh,hs.cond⟩;unfold wpOp;simp only [ax];refine uW fu b' (opsA:=opsA) rfl Dk (λq aR=>?_) (λdU w' M' β' dk=>?_)
  ·obtain⟨q',mG,rfl⟩:=List.mem_map.1 aR;exact h_.a6 q' mG
  ·exact hS.sound b' hJ fQ b5 iF dR n _ (ed E g) dU w' M' β' hn (by simpa using dW) (ht.set hi) (hE.ap cB cV) ⟨dk.bn,dk.size,dk.fresh,dk.cond⟩
end
def findD(cd:fN)(tt:dr)(ops:List Oper)(g:db)(o:Oper)(rs:List eR):Option ea:=
 match mA ops g o with
 |none=>none
 |some p=>match step1 cd tt ops {g with rs:=rs} p o with
  |some (.go f)=>some {dst:=o.dst,p,f,ir:=hy tt g p o,kS:=mM ops o++p.map (·.1),mK:=nK o,rs,lx:=qT o rs}
  |_=>none
def qU(cd:fN)(tt:dr)(ops:List Oper):List Oper→List (List eR)→db→Option (List ea×db×List Prop)
 |[],[],g=>some ([],g,[])
 |o::l,rs::ia,g=>match findD cd tt ops g o rs with
  |some E=>match qU cd tt ops l ia (ed E g) with
   |some (cC,eL,a6)=>some (E::cC,eL,a6++E.f.a6.map (under g E.p))
   |none=>none
  |none=>none
 |_,_,_=>none
def jx:List Oper→List ea→List (Oper×ea)
 |o::l,E::m=>(o,E)::jx l m
 |_,_=>[]
def yB(N:Nat)(ops:List Oper)(cC:List ea):Bool:=
 (jx ops cC).all (λx=>h' ops x.1 x.2)&&cC.all (nN N)&&u3 ops cC&&yw ops 0 (jx ops cC)
section
variable {cd:fN} {tt:dr} {ops:List Oper}
def Ms{Fi:db→Prop}:∀{l:List Oper} {ia:List (List eR)} {g:db} {cC:List ea} {eL:db} {a6:List Prop},qU cd tt ops l ia g=some (cC,eL,a6)→(∀q,q∈a6→q)→Fi eL→
 cC.length=l.length∧(∀E,E∈cC→E.fZ=0)∧yx cd tt ops Fi (jx l cC) g
 |[],[],g,cC,eL,a6,h,_,du=>by
  simp only [qU,Option.some.injEq,Prod.mk.injEq]at h;obtain⟨rfl,rfl,rfl⟩:=h;exact⟨rfl,by simp,du⟩
 |o::l,rs::ia,g,cC,eL,a6,h,cv,du=>by
  simp only [qU]at h;split at h
  case h_2=>cases h
  rename_i E cB;split at h
  case h_2=>cases h
  rename_i qV g1 yC ab;simp only [Option.some.injEq,Prod.mk.injEq]at h;obtain⟨rfl,rfl,rfl⟩:=h;obtain⟨ai,Zx,ay⟩:=Ms ab (λq aR=>cv q (List.mem_append_left _ aR)) du
  have Zy:E.fZ=0:=by
   unfold findD at cB;split at cB
   ·cases cB
   split at cB
   ·cases cB;rfl
   ·cases cB
  refine⟨by simp [ai],λdd ov=>?_,?_,ay⟩
  ·rcases List.mem_cons.1 ov with rfl|ov
   ·exact Zy
   ·exact Zx dd ov
  have Dl:∀q,q∈E.f.a6→under g E.p q:=λq aR=>cv _ (List.mem_append_right _ (List.mem_map.2 ⟨q,aR,rfl⟩))
  unfold findD at cB;split at cB
  ·cases cB
  rename_i p hp;split at cB
  ·rename_i f bh;cases cB;exact .inr ⟨hp,bh,Dl,λ_ h=>h,λh=>by cases h⟩
  ·cases cB
 |[],_::_,_,_,_,_,h,_,_=>by simp [qU]at h
 |_::_,[],_,_,_,_,h,_,_=>by simp [qU]at h
def qW:∀{l:List Oper} {m:List ea},m.length=l.length→∀(j:Nat),((jx l m)[j]?).map (·.1)=l[j]? ∧ ((jx l m)[j]?).map (·.2)=m[j]?
 |[],[],_,j=>by simp [jx]
 |o::l,E::m,h,j=>by
  cases j with
  |zero=>simp [jx]
  |succ j=>simpa [jx]using qW (by simpa using h) j
 |[],_::_,h,_=>by simp at h
 |_::_,[],h,_=>by simp at h
def Dm:∀{l:List Oper} {m:List ea},m.length=l.length→(jx l m).length=l.length
 |[],[],_=>rfl
 |_::l,_::m,h=>by simp [jx,Dm (l:=l) (m:=m) (by simpa using h)]
 |[],_::_,h=>by simp at h
 |_::_,[],h=>by simp at h
end
section
variable {P:Program} {N E:Nat} {st:aF} {tt:dr}
def Alike.bn{K:Ctx}{M:Mem}{β:Nat→Option Nat}{g1 g2:db}{tmps:Array Value}{w:World}(ha:Alike g1 g2)(h:bE P K M β {env:=g1.env,H:=g1.H,aU:=g1.aU} tmps w):bE P K M β {env:=g2.env,H:=g2.H,aU:=g2.aU} tmps w:=by
 have eM:∀l,({env:=g2.env,H:=g2.H,aU:=g2.aU}:aF).at l=({env:=g1.env,H:=g1.H,aU:=g1.aU}:aF).at l:=by
  intro l;cases l with
  |slot s=>exact(ha.slot s).1.symm
  |cell r i=>simp only [aF.at];rw [←ha.box r]
 have hb:∀r,look g2.H r=look g1.H r:=λr=>(ha.box r).symm
 constructor
 ·intro l e ah;rw [eM]at ah;exact h.ez l e ah
 ·intro l e T ah;rw [eM]at ah;exact h.own l e T ah
 ·intro l cz e aZ T T' b ah aN cF;rw [eM]at ah cF;exact h.uniq l cz e aZ T T' b ah aN cF
 ·intro l e T b r cs ah aN l1 ak;rw [eM]at ah;exact h.unbox l e T b r cs ah aN l1 (by rw [←hb r];exact ak)
 ·intro r cs ak;exact h.box r cs (by rw [←hb r];exact ak)
 ·intro r cA b cs cs' ak eD;exact h.inj r cA b cs cs' (by rw [←hb r];exact ak) (by rw [←hb cA];exact eD)
 ·intro r b ak;exact(by have:=h.lt r b ak;simpa [ha.aU]using this)
 ·exact h.mem
 ·exact h.m0
 ·exact h.frame
 ·exact h.gO
 ·exact h.hD
 ·exact h.gj
def bE.drew{K:Ctx}{M:Mem}{β:Nat→Option Nat}{tmps:Array Value}{w:World}(h:bE P K M β st tmps w)(k:Nat):bE P K M β st tmps {w with drawn:=k}:=
 ⟨h.ez,h.own,h.uniq,h.unbox,h.box,h.inj,h.lt,h.mem,h.m0,h.frame,h.gO,h.hD,h.gj⟩
end
def a'.scope{P:Program}{N E:Nat}{c:Code}{Q:ck→aF→Prop}{st:aF}(h:a' P N E c Q st):a' P N E (.scope c) Q st:=by
 intro K dV a w hs;refine wp_scope_straight (wp_mono (h K dV a w hs) ?_)
 rintro e dF w' ⟨eN,bS,ab,ai⟩
 cases eN with
 |normal=>obtain⟨rfl,ay⟩:=ab;exact⟨.normal,bS,⟨rfl,ay⟩,ai⟩
 |exit i=>obtain⟨rfl,ay⟩:=ab;exact⟨.exit i,bS,⟨rfl,ay⟩,ai⟩
 |ret=>obtain⟨rfl,ay⟩:=ab;exact⟨.ret,bS,⟨rfl,ay⟩,ai⟩
 |be x=>obtain⟨v,rfl,ay⟩:=ab;exact⟨.be x,bS,⟨v,rfl,ay⟩,ai⟩
def ja.on{α β dx:Type}(x:α ⊕ β)(f:α→dx)(g:β→dx):dx:=
 match x with
 |.inl a=>f a
 |.inr b=>g b
def yD.on{α β dx:Type}(x:α×β)(f:α→β→dx):dx:=f x.1 x.2
def yE(P:Program)(w:World):Prop:=(∀g,g∈BO P→∃fc,w.cell? ⟨g,0,none⟩=some fc∧(fc = .nilIface∨∃cg n_,fc = .iface cg n_))∧
 ∀ g, P.globalNamed "internal/strconv.uint64pow10" = some g → ∃ t iW, w.heap[g]? = some (.cells BP t iW)
section
variable {P:Program}
def bE.Zz{K:Ctx}{M:Mem}{β:Nat→Option Nat}{st:aF}{tmps:Array Value}{w:World}(h:bE P K M β st tmps w):yE P w:=⟨λg hg=>by
 obtain⟨cs,t,iW,fc,ab,ai,ay⟩:=h.hD.1 g hg;refine⟨fc,?_,ay⟩
 have:=(h.frame g _ ab).1
 unfold World.cell?;rw [this];exact ai,λg hg=>by
 obtain⟨t,iW,ab⟩:=h.hD.2 g hg;exact⟨t,iW,(h.frame g _ ab).1⟩⟩
def Mt {f : FuncId} {args : List D} {vsOf : World → List Value → Prop} {d : D} {fd : Func} (kq : P.funcs[f]? = some fd) (hb : fd.body.isSome = true) (hn : decide (fd.name = "runtime.NumGoroutine") = false)
 (fz:∀(w:World) (M:Mem) (β:Nat→Option Nat) (vs:List Value),(∀b o v,M b o=some v→w.cell? ⟨b,o,none⟩=some v)→vs.length=args.length→(∀(i:Nat) v a,vs[i]? = some v→args[i]? = some a→co M β v a)→vsOf w vs)
 (qL:∀(vs:List Value) (w:World),vsOf w vs→yE P w→Calls P f ⟨vs⟩ w λe w'=>∃v,e = .returned v∧(∀M β,co M β v d)∧(∀(b:Nat) (a6:Obj),w.heap[b]? = some a6→w'.heap[b]? = some a6)∧(w'.os,w'.output)=(w.os,w.output)):
 fS P f args [] [] (.ret d none) []:=by
 refine⟨⟨fd,kq,hb,by simpa using hn⟩,λK w vs M β hlen hs f'=>?_⟩
 have aA:vsOf w vs:=fz w M β vs hs.mem hlen λi v a hi ha=>by
  have ab:=hs.ez (.slot i) ⟨a,none⟩ (by
   simp only [aF.at,gp,kP,uB,ha,Option.map_some,look])
  have ai:b9 (⟨vs⟩:Array Value) w β (.slot i)=v:=by
   simp [b9,hi]
  rw [ai]at ab;exact ab
 refine(qL vs w aA hs.Zz).mono ?_
 rintro e w' ⟨v,rfl,fl,nw,lZ⟩
 refine⟨.ret d none,[],v,M,β,⟨rfl,rfl⟩,rfl,?_⟩
 have gG:∀b o v,w.cell? ⟨b,o,none⟩=some v→w'.cell? ⟨b,o,none⟩=some v:=by
  intro b o v h;unfold World.cell? at h ⊢;cases hb:w.heap[b]? with
  |none=>simp [hb]at h
  |some a6=>rw [nw b a6 hb];rw [hb]at h;exact h
 constructor
 ·intro l e ah;cases l with
  |slot s=>
   simp only [aF.at,gv,dn]at ah;split at ah
   ·rename_i h0;subst h0;cases ah;exact fl M β
   ·simp [look]at ah
  |cell r i=>simp [aF.at,cQ,look]at ah
 ·intro l e T ah aN;cases l with
  |slot s=>
   simp only [aF.at,gv,dn]at ah;split at ah
   ·cases ah;cases aN
   ·simp [look]at ah
  |cell r i=>simp [aF.at,cQ,look]at ah
 ·intro l cz e aZ T T' b ah aN;cases l with
  |slot s=>
   simp only [aF.at,gv,dn]at ah;split at ah
   ·cases ah;cases aN
   ·simp [look]at ah
  |cell r i=>simp [aF.at,cQ,look]at ah
 ·intro l e T b r cs ah aN hb ak;simp [cQ,look]at ak
 ·intro r cs ak;simp [cQ,look]at ak
 ·intro r cA b cs cs' ak;simp [cQ,look]at ak
 ·exact hs.lt
 ·exact λb o v h=>gG b o v (hs.mem b o v h)
 ·exact hs.m0
 ·exact λb a6 h=>⟨nw b a6 (hs.frame b a6 h).1,(hs.frame b a6 h).2⟩
 ·exact hs.gO
 ·exact hs.hD
 ·exact lZ.trans hs.gj
def qX {f : FuncId} {args : List D} {vsOf : List Value → Prop} {d : D} {fd : Func} (kq : P.funcs[f]? = some fd) (hb : fd.body.isSome = true) (hn : decide (fd.name = "runtime.NumGoroutine") = false)
 (fz:∀(M:Mem) (β:Nat→Option Nat) (vs:List Value),vs.length=args.length→(∀(i:Nat) v a,vs[i]? = some v→args[i]? = some a→co M β v a)→vsOf vs)
 (qL:∀(vs:List Value) (w:World),vsOf vs→yE P w→Calls P f ⟨vs⟩ w λe w'=>∃v,e = .returned v∧(∀M β,co M β v d)∧(∀(b:Nat) (a6:Obj),w.heap[b]? = some a6→w'.heap[b]? = some a6)∧(w'.os,w'.output)=(w.os,w.output)):
 fS P f args [] [] (.ret d none) []:=
 Mt (vsOf:=λ_ vs=>vsOf vs) kq hb hn (λ_ M β vs _=>fz M β vs) qL
end
def qY(cd:fN)(tt:dr)(N:Nat)(ops:List Oper)(rs:List eR)(st:aF):Option Fin:=
 match o3 cd tt N ops ops {env:=st.env,bV:=[],H:=st.H,aU:=st.aU,rs,a6:=[]} with
 |some (.go g)=>match g.rs with
  |[]=>some (.go {env:=g.env,H:=g.H,aU:=g.aU} g.a6)
  |_=>none
 |some (.be x st a6)=>some (.be x st a6)
 |none=>none
def qZ:List Oper→Nat→List (Nat×Nat)
 |[],_=>[]
 |o::l,n=>match nK o,o.dst with
  |true,some t=>(t,n)::qZ l (n+1)
  |_,_=>qZ l n
def yF(ops:List Oper)(st:aF):db:=
 {env:=st.env,bV:=[],H:=st.H,aU:=st.aU+(qZ ops st.aU).length,rs:=[],a6:=[],ids:=qZ ops st.aU}
def yG(cd:fN)(tt:dr)(N:Nat)(ops:List Oper)(ia:List (List eR))(st:aF):Option Fin:=
 match qU cd tt ops ops ia (yF ops st) with
 |some (cC,g,a6)=>bif yB N ops cC then some (.go {env:=g.env,H:=g.H,aU:=g.aU} a6)else none
 |none=>none
def ib:Option Fin→aF
 |some (.go st _)=>st
 |some (.be _ st _)=>st
 |none=>{env:=[],H:=[],aU:=0}
def kf:Option Fin→Option (List Prop)
 |some (.go _ a6)=>some a6
 |_=>none
def Dn:Option Fin→Option (V×List Prop)
 |some (.be x _ a6)=>some (x,a6)
 |_=>none
def spread:Nat→Nat→List (Nat×List eR)→List (List eR)
 | 0,_,_=>[]
 |n+1,i,l=>(look l i).getD []::spread n (i+1) l
def yH:∀(l:List Oper) (n:Nat) (x:Nat×Nat),x∈qZ l n→n≤x.2∧True
 |[],n,x,h=>by simp [qZ]at h
 |o::l,n,x,h=>by
  unfold qZ at h;split at h
  ·rcases List.mem_cons.1 h with h|h
   ·subst h;exact⟨Nat.le_refl _,trivial⟩
   ·have:=(yH l (n+1) x h).1;exact⟨by omega,trivial⟩
  ·exact yH l n x h
def bE.up{P:Program}{K:Ctx}{M:Mem}{β:Nat→Option Nat}{st:aF}{tmps:Array Value}{w:World}(h:bE P K M β st tmps w)(k:Nat):bE P K M β {env:=st.env,H:=st.H,aU:=st.aU+k} tmps w:=
 ⟨h.ez,h.own,h.uniq,h.unbox,h.box,h.inj,(λr b hb=>Nat.lt_of_lt_of_le (h.lt r b hb) (Nat.le_add_right _ _)),h.mem,h.m0,h.frame,h.gO,h.hD,h.gj⟩
section
variable {P:Program} {N E:Nat} {st:aF} {tt:dr}
def a'.rg{id:Nat}{opsA:Array Oper}{Q:ck→aF→Prop}(b':eF P tt=true)(rs:List eR){cx:List Prop}(ak:kf (qY (gd P) tt N opsA.toList rs st)=some cx)(cv:i_ cx)
 (dR:Q .normal (ib (qY (gd P) tt N opsA.toList rs st))):a' P N E (.region id opsA false) Q st:=by
 rintro K dV a w ⟨_,hd,dW,M,β,cK⟩
 obtain⟨tmps,ds⟩:=a;simp only at hd dW
 subst hd;have q0:eZ P K N M β {env:=st.env,bV:=[],H:=st.H,aU:=st.aU,rs:=rs,a6:=[]} tmps w:=⟨cK,dW,(λ_ _ h=>by simp [look]at h),λ_ _ _ h=>by simp [look]at h⟩
 refine wp_region ?_;unfold qY at ak dR;have hlen:List.range opsA.size=List.range' 0 opsA.toList.length:=by rw [List.range_eq_range'];simp
 rw [hlen];split at ak
 ·rename_i g el;split at ak
  case h_2=>cases ak
  rename_i eh;simp only [kf,Option.some.injEq]at ak;subst ak;rw [el]at dR;simp only [eh,ib]at dR;refine C8 b' rfl (fin:=.go g) cv.mem ?_ opsA.toList 0 _ tmps w M β (λj=>by simp) q0 el
  intro dU w' M' β' dk;exact⟨.normal,_,⟨rfl,rfl,dk.size,M',β',dk.bn⟩,dR⟩
 ·cases ak
 ·cases ak
def a'.Do{id:Nat}{opsA:Array Oper}{Q:ck→aF→Prop}(b':eF P tt=true)(rs:List eR){x:V}{cx:List Prop}(ak:Dn (qY (gd P) tt N opsA.toList rs st)=some (x,cx))(cv:i_ cx)
 (dR:Q (.be x) (ib (qY (gd P) tt N opsA.toList rs st))):a' P N E (.region id opsA false) Q st:=by
 rintro K dV a w ⟨_,hd,dW,M,β,cK⟩
 obtain⟨tmps,ds⟩:=a;simp only at hd dW
 subst hd;have q0:eZ P K N M β {env:=st.env,bV:=[],H:=st.H,aU:=st.aU,rs:=rs,a6:=[]} tmps w:=⟨cK,dW,(λ_ _ h=>by simp [look]at h),λ_ _ _ h=>by simp [look]at h⟩
 refine wp_region ?_;unfold qY at ak dR;have hlen:List.range opsA.size=List.range' 0 opsA.toList.length:=by rw [List.range_eq_range'];simp
 rw [hlen];split at ak
 ·split at ak<;>cases ak
 ·rename_i y bS a6 el;simp only [Dn,Option.some.injEq,Prod.mk.injEq]at ak;obtain⟨rfl,rfl⟩:=ak;rw [el]at dR;refine C8 b' rfl (fin:=.be y bS a6) cv.mem ?_ opsA.toList 0 _ tmps w M β (λj=>by simp) q0 el
  intro e dF w' dk;exact⟨.be y,_,dk,dR⟩
 ·cases ak
def a'.yI{id:Nat}{opsA:Array Oper}{Q:ck→aF→Prop}(b':eF P tt=true)(hm:P.follows .mixedOrders=true)(ia:List (Nat×List eR)){cx:List Prop}(ak:kf (yG (gd P) tt N opsA.toList (spread opsA.toList.length 0 ia) st)=some cx)(cv:i_ cx)
 (dR:Q .normal (ib (yG (gd P) tt N opsA.toList (spread opsA.toList.length 0 ia) st))):a' P N E (.region id opsA true) Q st:=by
 rintro K dV a w ⟨_,hd,dW,M,β,cK⟩
 obtain⟨tmps,ds⟩:=a;simp only at hd dW
 subst hd;refine wp_region_any hm ?_;unfold yG at ak dR;split at ak
 case h_2=>cases ak
 rename_i cC g pj el;rw [el]at dR
 dsimp only at dR
 rw [Bool.cond_eq_ite]at ak dR;split at ak
 case isFalse=>cases ak
 rename_i hc;rw [if_pos hc]at dR;simp only [kf,Option.some.injEq]at ak;subst ak;simp only [ib]at dR;obtain⟨hlen,hJ,Dp⟩:=Ms (Fi:=λg1=>Alike g g1) el cv.mem Alike.refl
 simp only [yB,Bool.and_eq_true]at hc;obtain⟨⟨⟨c1,c2⟩,c3⟩,c4⟩:=hc
 have fQ:∀(i:Nat) o E,opsA[i]? = some o→cC[i]? = some E→h' opsA.toList o E=true:=by
  intro i o E ax cB;obtain⟨i8,z2⟩:=qW hlen i;have iY:opsA.toList[i]? = some o:=by simpa using ax
  rw [iY]at i8;rw [cB]at z2;cases ek:(jx opsA.toList cC)[i]? with
  |none=>rw [ek]at i8;simp at i8
  |some x=>
   rw [ek]at i8 z2;simp at i8 z2
   subst i8;subst z2;exact List.all_eq_true.1 c1 x (List.mem_of_getElem? ek)
 have b5:∀(i:Nat) E,cC[i]? = some E→nN N E=true:=λi E cB=>List.all_eq_true.1 c2 E (List.mem_of_getElem? cB)
 have u4:lz opsA (Array.replicate opsA.size false):=λj o ax hj=>by have cV:j<opsA.size:=(Array.getElem?_eq_some_iff.1 ax).1;simp [Array.getD_eq_getD_getElem?,cV]at hj
 have u5:=hS.text fQ (λg1 g2 Dq ab=>Alike.trans ab Dq) (jx opsA.toList cC) 0 (Array.replicate opsA.size false) _ (λj=>by have:=(qW hlen j).1;simpa using this) (λj=>by have:=(qW hlen j).2;simpa using this)
  ⟨by simp,λj hj=>by simp [hj]⟩ u4 c4 Dp
 have qs:(jx opsA.toList cC).length=opsA.size:=by rw [Dm hlen];simp
 rw [qs]at u5;refine hS.sound (K:=K) b' (λi E cB=>hJ E (List.mem_of_getElem? cB)) fQ b5 c3 ?_ _ _ _ tmps _ M β u5 (by simp) u4 (λx hx=>by cases hx) ⟨(cK.drew _).up _,dW,(λs id h _ b hb=>by have ab:=cK.lt _ _ hb;have ai:=(yH _ _ _ (oc h)).1;simp only at ai;omega),λ_ _ _ h=>by simp [yF,look]at h⟩
 intro g1 dU w' M' β' ZA dk;exact⟨.normal,_,⟨rfl,rfl,dk.size,M',β',Alike.bn ZA.symm dk.bn⟩,dR⟩
def a'.Dr{α:Type}{b:Bool}{x y:Option α}{r:Option α}(h:(bif b then x else y)=r){c:Nat}{q1 q2:Code}{Q:ck→aF→Prop}(hc:(look st.env c).map (·.d)=some (.v (.bool b)))
 (ce:x=r→a' P N E q1 Q st) (bh:y=r→a' P N E q2 Q st):a' P N E (.cond (.tmp c) q1 q2) Q st:=by
 simp only [Option.map_eq_some_iff]at hc;obtain⟨⟨d,own⟩,he,rfl⟩:=hc;exact a'.cond b own he (λhb=>ce (by subst hb;exact h)) (λhb=>bh (by subst hb;exact h))
def a'.Mu{c:Nat}{q1 q2:Code}{Q:ck→aF→Prop}(hc:(look st.env c).map (·.d)=some (.v (.bool true)))(ce:a' P N E q1 Q st):a' P N E (.cond (.tmp c) q1 q2) Q st:=by
 simp only [Option.map_eq_some_iff]at hc;obtain⟨⟨d,own⟩,he,rfl⟩:=hc;exact a'.cond true own he (λ_=>ce) (λhb=>by cases hb)
def a'.Ds{c:Nat}{q1 q2:Code}{Q:ck→aF→Prop}(hc:(look st.env c).map (·.d)=some (.v (.bool false)))(bh:a' P N E q2 Q st):a' P N E (.cond (.tmp c) q1 q2) Q st:=by
 simp only [Option.map_eq_some_iff]at hc;obtain⟨⟨d,own⟩,he,rfl⟩:=hc;exact a'.cond false own he (λhb=>by cases hb) (λ_=>bh)
end
def bD{P:Program}{f:FuncId}{args:List D}{dX:List (Nat×TypeId)}{H cw:List (List aS)}{out:Out}(_:fS P f args dX H out cw)(os:List Nat):eR:=.call out (some cw) os
def a_{P:Program}{f:FuncId}{args:List D}{dX:List (Nat×TypeId)}{H cw:List (List aS)}{out:Out}(_:fS P f args dX H out cw)(os:List Nat):eR:=.call out none os
def cZ{c:Prop}{P:Program}{f:FuncId}{args:List D}{dX:List (Nat×TypeId)}{H cw:List (List aS)}{out:Out}(_:c→fS P f args dX H out cw):eR:=.call out none []
def sJ{c c2:Prop}{P:Program}{f:FuncId}{args:List D}{dX:List (Nat×TypeId)}{H cw:List (List aS)}{out:Out}(_:c→c2→fS P f args dX H out cw):eR:=.call out none []
def fB{raw x:V}(_:f0 raw x):eR:=.val x
def ee{α:Type}[Inhabited α]{k:Nat}{e:α→V}(l:List α):f0 (.bC k l.length λi=>(l.map e).getD i .eb) (aa k e l):=Y_ rfl _ rfl
def ow(l:List Int):Bool:=l.all λx=>decide (0≤x)&&decide (x<256)
def jT(l:List Int):ajK:=l.map λx=>UInt8.ofNat x.toNat
def u6{l:List Int}(h:ow l=true):(jT l).length=l.length∧∀i,i<l.length→V.int .u8 (l.getD i default) = .int .u8 (((jT l).getD i 0).toNat:Int):=by
 refine⟨by simp [jT],λi hi=>?_⟩
 unfold ow at h;rw [List.all_eq_true]at h;have:=h l[i] (List.getElem_mem hi)
 simp only [Bool.and_eq_true,decide_eq_true_eq]at this;simp only [jT,List.getD,List.getElem?_map,List.getElem?_eq_getElem hi,Option.getD_some,Option.map_some,UInt8.toNat_ofNat'];rw [Nat.mod_eq_of_lt (by omega)]
 congr 1
 omega
def yJ(T:TypeId):V→Option (Int×Int)
 |.iface t (.agg [.int .i64 a,.int .i64 b])=>bif Nat.beq t T then some (a,b)else none
 |_=>none
def Mv{T:TypeId}{x:V}{r:Int×Int}(h:yJ T x=some r):x = .iface T (.agg [.int .i64 r.1,.int .i64 r.2]):=by
 unfold yJ at h;split at h
 ·rw [Bool.cond_eq_ite]at h;split at h
  ·rename_i hb;cases h;rw [Nat.beq_eq]at hb;subst hb;rfl
  ·cases h
 ·cases h
def q3(M:Mem):Option V→FrameMode→Prop
 |none,m=>m = .returning
 |some x,m=>∃v,m = .panicking [{v,recovered:=false}]∧dc M v x
def pr(P:Program)(fd:FuncId)(args:List D)(H:List (List aS))(x:Option V)(R:List (List aS)→Prop):Prop:=
 ∀(K:Ctx) (w:World) (vs:List Value) (M:Mem) (β:Nat→Option Nat) (mode:FrameMode),vs.length=args.length→
  bE P K M β {env:=gp args [],H:=cQ 0 H,aU:=H.length} ⟨vs⟩ w→(∀r b,β r=some b→K.h5 r=some b)→q3 M x mode→
  CallsD P fd ⟨vs⟩ mode w λe kU w'=>∃v H' M' β',e = .returned v∧settle kU = .returning∧R H'∧bE P K M' β' {env:=gv (.ret (.cf []) none),H:=cQ 0 H',aU:=H.length} #[v] w'
section
variable {P:Program} {K:Ctx} {M:Mem} {β:Nat→Option Nat} {st:aF} {tmps:Array Value} {w:World} {tt:dr}
def q3.ZB{x:Option V}{m:FrameMode}(h:q3 M x m):m ≠ .run:=by
 cases x with
 |none=>intro hm;rw [hm]at h;cases h
 |some x=>obtain⟨v,ab,_⟩:=h;intro hm;rw [hm]at ab;cases ab
def q3.mono{M':Mem}(cX:M.le M'){x:Option V}{m:FrameMode}(h:q3 M x m):q3 M' x m:=by
 cases x with
 |none=>exact h
 |some x=>obtain⟨v,ab,ai⟩:=h;exact⟨v,ab,ai.mono cX⟩
def nO(P:Program)(tt:dr)(E:Nat)(rs:List ResultVar)(fd:FuncId)(ds:List D)(R:Out→List (List aS)→Prop)(x:Option V)(st:aF):Prop:=
 ∃(ρ:List Nat) (bs H1:List (List aS)) (h3:List D) (Dt:List (List aS)→Prop),kJ ρ=true∧boxes st.H ρ=some bs∧ih (idx ρ) bs=some H1∧jm (idx ρ) ds=some h3∧pr P fd h3 H1 x Dt∧
  ∀cw,Dt cw→∃hh o H',cw.length=ρ.length∧ih (λj=>ρ[j]?) cw=some hh∧Ab.leave tt E rs {env:=st.env,H:=jn ρ hh++st.H,aU:=st.aU}=some (o,H')∧R o (lw H')
def Du{fn:Func}{E:Nat}(b':eF P tt=true)(dV:∀r b,K.h5 r=some b→r<E)(hs:bE P K M β st tmps w){fd:FuncId}{ds:List D}{vs:List Value}(hlen:vs.length=ds.length)(aA:∀(i:Nat) v d,vs[i]? = some v→ds[i]? = some d→co M β v d)
 {x : Option V} {mode : FrameMode} (hm : q3 M x mode) {f : Func} (bh : P.funcs[fd]? = some f) (hb : f.body.isSome = true) (h9 : decide (f.name = "runtime.NumGoroutine") = false) {R : Out → List (List aS) → Prop} (i' : nO P tt E fn.results.toList fd ds R x st) :
 Leaves P fn tmps (λe w'=>∃o H' v M' β',R o H'∧e=nB o v∧bE P K M' β' {env:=gv o,H:=cQ 0 H',aU:=E} #[v] w') [{target:=.fn (.func fd) ⟨vs⟩,args := #[]}] mode w:=by
 obtain⟨ρ,bs,H1,h3,Dt,hn,i7,ka,fz,hd,sE⟩:=i';have nI:f.body≠none:=by intro bz;rw [bz]at hb;cases hb
 have ZC : f.name ≠ "runtime.NumGoroutine" := by simpa using h9
 refine leaves_cons (f:=fd) (args:=⟨vs⟩) hm.ZB (by simp [invoke,callFunc,bh,nI,ZC]) ?_
 have hc:=K_ (hd:=[]) hs hn i7 ka hlen aA fz ⟨by simp,by simp,by simp⟩
 have fg:H1.length=ρ.length:=by rw [(sr ka).1,(qt i7).1]
 refine(hd (iG M β st tmps w ρ []) w vs M _ mode (by rw [hlen,LD fz]) hc (λr b h=>h) hm).mono ?_
 rintro e kU w' ⟨v,H',M',β',rfl,hu,ZD,cK⟩
 obtain⟨hh,o,Mw,ab,ai,ay,bg⟩:=sE H' ZD;rw [fg]at cK;obtain⟨cX,Dv,_,_⟩:=CH hs hn i7 ai ab cK
 dsimp only
 rw [hu];obtain⟨v2,bQ,h8,M2,ox,dh,e5⟩:=yh b' dV Dv ay;exact⟨v2,bQ,o,lw Mw,h8,M2,ox,bg,dh,e5.era⟩
def mQ(P:Program)(_tt:dr)(fn:Func)(E:Nat)(c:Code)(R:Out→List (List aS)→Prop)(st:aF):Prop:=
 ∀(K:Ctx),K.ds=[]→(∀r b,K.h5 r=some b→r<E)→∀(a:Act) (w:World),nJ P K fn.ntmps .normal st .normal a w→
  c.wp P (bodyPostD P fn λe w'=>∃o H' v M' β',R o H'∧e=nB o v∧bE P K M' β' {env:=gv o,H:=cQ 0 H',aU:=E} #[v] w') a w
def Dw(P:Program)(tt:dr)(fn:Func)(E:Nat)(y:Code)(R:Out→List (List aS)→Prop):ck→aF→Prop
 |.normal,st=>mQ P tt fn E y R st
 |.ret,st=>∃o H',Ab.leave tt E fn.results.toList st=some (o,H')∧R o (lw H')
 |_,_=>False
def mQ.seq{fn:Func}{E:Nat}{x y:Code}{R:Out→List (List aS)→Prop}(b':eF P tt=true)(h:a' P fn.ntmps E x (Dw P tt fn E y R) st):mQ P tt fn E (.seq x y) R st:=by
 intro K gw dV a w hs;refine wp_seq (wp_mono (h K dV a w hs) ?_)
 rintro e dF w' ⟨eN,bS,ab,ai⟩
 cases eN with
 |normal=>obtain⟨rfl,ay⟩:=ab;exact ai K gw dV dF w' ⟨rfl,ay⟩
 |ret=>
  obtain⟨rfl,hd,_,M',β',cK⟩:=ab;obtain⟨o,H',ay,bg⟩:=ai;obtain⟨v,bQ,h8,M2,ox,dh,e5⟩:=yh b' dV cK ay;show Leaves P fn dF.tmps _ dF.defers .returning w'
  rw [hd,gw];exact⟨v,bQ,o,lw H',h8,M2,ox,bg,dh,e5.era⟩
 |exit i=>exact ai.elim
 |be x=>exact ai.elim
def Dx(P:Program)(tt:dr)(E:Nat)(rs:List ResultVar)(fd:FuncId)(ds:List D)(R:Out→List (List aS)→Prop):ck→aF→Prop
 |.normal,st |.ret,st=>nO P tt E rs fd ds R none st
 |.be x,st=>nO P tt E rs fd ds R (some x) st
 |.exit _,_=>False
def mQ.defer{fn:Func}{E:Nat}{id:Nat}{opsA:Array Oper}{cL gI:Oper}{y:Code}{R:Out→List (List aS)→Prop}(b':eF P tt=true)(kR:opsA = #[cL,gI]){t:Nat}{fd:FuncId}{eK:Array Operand}{c:Call}
 (ab:cL.op = .makeFunc (.func fd) #[] eK) (ai:cL.dst=some t) (ay:cL.guard=none) (bg:gI.op = .defer c) (bQ:gI.dst=none) (dh:gI.guard=none) (e5:c.callee = .value (.tmp t)) (gH:c.args = #[]) (ce:Nat.blt t fn.ntmps=true)
 {ds : List D} (ZE : mapM' (rd st.env [] [] tt 0) eK.toList = some ds) (_hE : Nat.ble E st.aU = true) {f : Func} (bh : P.funcs[fd]? = some f) (hb : f.body.isSome = true) (h9 : decide (f.name = "runtime.NumGoroutine") = false)
 (gw:p7 st.aU ds=true)
 (h:a' P fn.ntmps st.aU y (Dx P tt E fn.results.toList fd ds R) {env:=del st.env t,H:=st.H,aU:=st.aU}):mQ P tt fn E (.seq (.region id opsA false) y) R st:=by
 rintro K ZF dV a w ⟨_,hd,dW,M,β,cK⟩
 obtain⟨tmps,defers⟩:=a;simp only at hd dW
 rw [ZF]at hd;subst hd;have cV:t<tmps.size:=by rw [dW];simpa using ce
 -- jN captured values
 obtain⟨fg,eE⟩:=o8 ZE;have q0:eZ P K fn.ntmps M β {env:=st.env,bV:=[],H:=st.H,aU:=st.aU,rs:=[],a6:=[]} tmps w:=⟨cK,dW,(λ_ _ h=>by simp [look]at h),λ_ _ _ h=>by simp [look]at h⟩
 have kN:∀(i:Nat) v d,(eK.toList.map (⟨tmps,[]⟩:Act).eval)[i]? = some v→ds[i]? = some d→co M β v d:=by
  intro i v d aA hd;rw [List.getElem?_map,Option.map_eq_some_iff]at aA;obtain⟨x,hx,rfl⟩:=aA;exact dL (ds:=[]) (p:=[]) q0 (λx hx=>by cases hx) (eE i x d hx hd)
 have hlen:(eK.toList.map (⟨tmps,[]⟩:Act).eval).length=ds.length:=by simp at fg ⊢;omega
 -- jN frame behind jN region
 have mR:bE P K M β {env:=del st.env t,H:=st.H,aU:=st.aU} (tmps.setIfInBounds t (.func (.func fd) #[] ⟨eK.toList.map (⟨tmps,[]⟩:Act).eval⟩)) w:=cK.drop
 let nP:Ctx:={p9:=M,F:=K.F,h5:=λr=>if r<st.aU then β r else none,gj:=K.gj,ds:=[{target:=.fn (.func fd) ⟨eK.toList.map (⟨tmps,[]⟩:Act).eval⟩,args := #[]}]}
 have Dv:bE P nP M β {env:=del st.env t,H:=st.H,aU:=st.aU} (tmps.setIfInBounds t (.func (.func fd) #[] ⟨eK.toList.map (⟨tmps,[]⟩:Act).eval⟩)) w:=
  ⟨mR.ez,mR.own,mR.uniq,mR.unbox,mR.box,mR.inj,mR.lt,mR.mem,Mem.le_refl _,(λb a6 du=>⟨(mR.frame b a6 du).1,λ_=>rfl⟩),(λr b hb=>by
   simp only [nP]at hb;split at hb
   ·exact hb
   ·cases hb),mR.hD,mR.gj⟩
 have Dy:∀{M':Mem} {β':Nat→Option Nat} {bS:aF} {dU:Array Value} {w':World},bE P nP M' β' bS dU w'→bE P K M' β' bS dU w':=by
  intro M' β' bS dU w' dk
  exact⟨dk.ez,dk.own,dk.uniq,dk.unbox,dk.box,dk.inj,dk.lt,dk.mem,Mem.le_trans cK.m0 dk.m0,(λb a6 du=>⟨(dk.frame b a6 du).1,λo=>((dk.frame b a6 du).2 o).trans ((cK.frame b a6 du).2 o)⟩),(λr b hb=>dk.gO r b (by
   have sl:=cK.gO r b hb;have ZG:=cK.lt r b sl;simp only [nP];rw [if_pos ZG];exact sl)),dk.hD,dk.gj⟩
 have f':∀{M':Mem} {β':Nat→Option Nat} {bS:aF} {dU:Array Value} {w':World},bE P nP M' β' bS dU w'→∀r,r<st.aU→∀b,β r=some b→β' r=some b:=λdk r ak b hb=>dk.gO r b (by simp only [nP];rw [if_pos ak];exact hb)
 refine wp_seq (wp_region ?_);subst kR
 have e1:(execOp (Act.eval ⟨tmps,[]⟩) cL).run P w = .ok (.value (.func (.func fd) #[] ⟨eK.toList.map (⟨tmps,[]⟩:Act).eval⟩)) w:=by
  simp only [execOp,ab,Instr.makeFunc];refine hF _ ?_;simp
  congr 1
  apply Array.ext';simp
 have e2:(execOp (Act.eval ⟨tmps.setIfInBounds t (.func (.func fd) #[] ⟨eK.toList.map (⟨tmps,[]⟩:Act).eval⟩),[]⟩) gI).run P w = .ok (.defer {target:=.fn (.func fd) ⟨eK.toList.map (⟨tmps,[]⟩:Act).eval⟩,args := #[]}) w:=by
  simp [execOp,bg,resolve,e5,gH,Deferred.ofValue,Act.eval,cV]
 show wpOps P #[cL,gI] _ (List.range 2) ⟨tmps,[]⟩ w
 simp only [List.range,List.range.loop,wpOps];have u7:∀iJ,Region.wanted cL (yielded #[cL,gI] iJ)=true:=λiJ=>by simp [Region.wanted,ay]
 have u9:∀iJ,Region.wanted gI (yielded #[cL,gI] iJ)=true:=λiJ=>by simp [Region.wanted,dh]
 simp only [show(#[cL,gI]:Array Oper)[0]? = some cL from rfl,show(#[cL,gI]:Array Oper)[1]? = some gI from rfl,u7,u9,if_true]
 refine .inl ?_;unfold Oper.wp;rw [e1,Oper.upon_value,ai];refine .inl ?_;have ZH:(execOp ((⟨tmps,[]⟩:Act).put (some t) (.func (.func fd) #[] ⟨eK.toList.map (⟨tmps,[]⟩:Act).eval⟩)).eval gI).run P w = .ok (.defer {target:=.fn (.func fd) ⟨eK.toList.map (⟨tmps,[]⟩:Act).eval⟩,args := #[]}) w:=e2;rw [ZH,Oper.upon_defer,bQ];show y.wp P _ ⟨tmps.setIfInBounds t _,[_]⟩ w
 have ov:∀r b,nP.h5 r=some b→r<st.aU:=by
  intro r b hb;simp only [nP]at hb;split at hb
  ·assumption
  ·cases hb
 refine wp_mono (h nP ov _ w ⟨rfl,rfl,by simpa using dW,M,β,Dv⟩) ?_
 rintro e dF w' ⟨eN,bS,g1,g2⟩
 have l7:∀{M':Mem} {β':Nat→Option Nat} {bS:aF} {dU:Array Value} {w':World},bE P nP M' β' bS dU w'→∀(i:Nat) v d,(eK.toList.map (⟨tmps,[]⟩:Act).eval)[i]? = some v→ds[i]? = some d→co M' β' v d:=by
  intro M' β' bS dU w' dk i v d aA hd;have cX:M.le M':=dk.m0;exact((kN i v d aA hd).mono cX).WL (λr ak b hb=>f' dk r ak b hb) (o4 gw hd)
 cases eN with
 |normal=>
  obtain⟨rfl,hd,_,M',β',hs⟩:=g1;show Leaves P fn dF.tmps _ dF.defers .returning w'
  rw [hd];exact Du b' dV (Dy hs) hlen (l7 hs) (x:=none) rfl bh hb h9 g2
 |ret=>
  obtain⟨rfl,hd,_,M',β',hs⟩:=g1;show Leaves P fn dF.tmps _ dF.defers .returning w'
  rw [hd];exact Du b' dV (Dy hs) hlen (l7 hs) (x:=none) rfl bh hb h9 g2
 |exit i=>exact g2.elim
 |be x=>
  obtain⟨v,rfl,hd,M',β',fl,hs⟩:=g1;show Leaves P fn dF.tmps _ dF.defers (.panicking _) w'
  rw [hd];exact Du b' dV (Dy hs) hlen (l7 hs) (x:=some x) ⟨v,rfl,fl⟩ bh hb h9 g2
def nC.ZI {f : FuncId} {fn : Func} {c : Code} {args : List D} {dX : List (Nat × TypeId)} {H : List (List aS)} {R : Out → List (List aS) → Prop} (bh : P.funcs[f]? = some fn) (hb : fn.body = some c) (h9 : decide (fn.name = "runtime.NumGoroutine") = false)
 (fz:Nat.ble args.length fn.ntmps=true) (h:mQ P tt fn H.length c R {env:=gp args dX,H:=cQ 0 H,aU:=H.length}):nC P f args dX H R:=by
 refine⟨⟨fn,bh,by rw [hb];rfl,by simpa using h9⟩,?_⟩
 intro cr w vs M β hlen C_ Da
 suffices key:∀K:Ctx,K.ds=[]→bE P K M β {env:=gp args dX,H:=cQ 0 H,aU:=H.length} ⟨vs⟩ w→(∀r b,β r=some b→K.h5 r=some b)→
  Calls P f ⟨vs⟩ w λe w'=>∃o H' v M' β',R o H'∧e=nB o v∧bE P K M' β' {env:=gv o,H:=cQ 0 H',aU:=H.length} #[v] w' from
  (key {cr with ds:=[]} rfl (C_.qN []) Da).mono λe w' ⟨o,H',v,M',β',ab,ai,ay⟩=>⟨o,H',v,M',β',ab,ai,ay.qN cr.ds⟩
 intro K gw cK f';have dV:∀r b,K.h5 r=some b→r<H.length:=λr b hb=>cK.lt r b (cK.gO r b hb)
 simp only [Nat.ble_eq]at fz;exact calls_of_wp_defers bh hb (h K gw dV {tmps:=(⟨vs⟩:Array Value)++Array.replicate (fn.ntmps-(⟨vs⟩:Array Value).size) undef,defers:=[]} w ⟨rfl,gw.symm,by simp;omega,M,β,C' hlen cK⟩)
def pr.Mx{fd:FuncId}{fn:Func}{i0:Nat}{opsA:Array Oper}{cL gI:Oper}{rest:Code}{r t2:Nat}{c:Call}(b':eF P tt=true)(bh:P.funcs[fd]? = some fn)(hb:fn.body=some (.seq (.region i0 opsA false) rest))(kR:opsA = #[cL,gI])
 (ab:cL.op = .call c) (ai:cL.dst=some r) (ay:cL.guard=none) (bg:c.callee = .builtin .recover) (bQ:c.args = #[]) (dh:gI.op = .assign (.tmp r)) (e5:gI.dst=some t2) (gH:gI.guard=none)
 {args:List D} {H:List (List aS)} {x:Option V} {R:List (List aS)→Prop} (ak:Nat.blt r fn.ntmps=true) (uV:Nat.blt t2 fn.ntmps=true) (fz:Nat.ble args.length fn.ntmps=true)
 (h:a' P fn.ntmps H.length rest (ot tt H.length fn.results.toList λo H'=>o = .ret (.cf []) none∧R H') {env:=(t2,{d:=.v (x.getD .gN)})::del (gp args []) r,H:=cQ 0 H,aU:=H.length}):pr P fd args H x R:=by
 intro K w vs M β mode hlen cK f' hm;have dV:∀r b,K.h5 r=some b→r<H.length:=λr b hb=>cK.lt r b (cK.gO r b hb)
 simp only [Nat.ble_eq]at fz;simp only [Nat.blt_eq]at ak uV;refine callsD_of_wpS bh hb λps cs hu=>?_
 apply wpS_seq;apply wpS_region;subst kR;have u7:∀iJ,Region.wanted cL (yielded #[cL,gI] iJ)=true:=λiJ=>by simp [Region.wanted,ay]
 have u9:∀iJ,Region.wanted gI (yielded #[cL,gI] iJ)=true:=λiJ=>by simp [Region.wanted,gH]
 have e1:∀a:Act,(execOp a.eval cL).run P w = .ok .recover w:=λa=>by
  simp [execOp,ab,resolve,bg,bQ,invoke,builtin]
 have eA:=C' (n:=fn.ntmps-(⟨vs⟩:Array Value).size) hlen cK
 -- xR 'recover' YE
 have key:∃(v:Value) (kU:FrameMode),dc M v (x.getD .gN)∧settle kU = .returning∧(recoverD (ps::cs)=some (v,{ps with mode:=kU}::cs)∨(recoverD (ps::cs)=none∧v = .nilIface∧({ps with mode:=kU}:Frame)=ps)):=by
  cases x with
  |none=>
   have iq:mode = .returning:=hm;subst iq;exact⟨.nilIface,.returning,.gN,rfl,.inr ⟨by simp [recoverD,hu],rfl,by rw [←hu]⟩⟩
  |some y=>
   obtain⟨v,iq,aA⟩:=hm;subst iq;exact⟨v,.panicking [{v,recovered:=true}],aA,by simp [settle],.inl (by simp [recoverD,hu])⟩
 obtain⟨v,kU,aA,jr,u'⟩:=key;show wpOpsS P #[cL,gI] _ (List.range 2) _ (ps::cs) w
 simp only [List.range,List.range.loop,wpOpsS,show(#[cL,gI]:Array Oper)[0]? = some cL from rfl,show(#[cL,gI]:Array Oper)[1]? = some gI from rfl,u7,u9,if_true,e1]
 have e2:∀iJ:Array Value,r<iJ.size→(execOp (Act.eval ⟨iJ.setIfInBounds r v,[]⟩) gI).run P w = .ok (.value v) w:=λiJ ce=>by
  simp [execOp,dh,Act.eval,ce]
 have dW:((⟨vs⟩:Array Value)++Array.replicate (fn.ntmps-(⟨vs⟩:Array Value).size) undef).size=fn.ntmps:=by simp;omega
 generalize ain:(⟨vs⟩:Array Value)++Array.replicate (fn.ntmps-(⟨vs⟩:Array Value).size) undef=iJ at eA dW
 have i':∀cs',cs'={ps with mode:=kU}::cs→rest.wpS P (bodyPostS P fn ps cs λe kU w'=>∃v H' M' β',e = .returned v∧settle kU = .returning∧R H'∧bE P K M' β' {env:=gv (.ret (.cf []) none),H:=cQ 0 H',aU:=H.length} #[v] w')
  ⟨(iJ.setIfInBounds r v).setIfInBounds t2 v,[]⟩ cs' w:=by
  intro cs' dP
  have ZJ:bE P {K with ds:=[]} M β {env:=(t2,{d:=.v (x.getD .gN)})::del (gp args []) r,H:=cQ 0 H,aU:=H.length} ((iJ.setIfInBounds r v).setIfInBounds t2 v) w:=
   ((eA.drop (t:=r) (v:=v)).put (t:=t2) (v:=v) (e:={d:=.v (x.getD .gN)}) (by rw [Array.size_setIfInBounds,dW];exact uV) (.v _ _ aA) (λT aN=>by cases aN)).qN []
  refine wpS_of_wp (wp_mono (h {K with ds:=[]} dV _ w ⟨rfl,rfl,by simpa using dW,M,β,ZJ⟩) ?_)
  rintro e dF w' ⟨eN,bS,g1,g2⟩
  cases eN with
  |normal=>
   obtain⟨rfl,hd,_,M',β',hs⟩:=g1;obtain⟨o,H',g3,rfl,g4⟩:=g2;obtain⟨v2,g5,h8,M2,ox,g6,g7⟩:=L6 b' (K:={K with ds:=[]}) dV hs g3;cases g6;exact⟨hd,kU,dP,v2,g5,v2,H',M2,ox,rfl,jr,g4,g7.qN K.ds⟩
  |ret=>
   obtain⟨rfl,hd,_,M',β',hs⟩:=g1;obtain⟨o,H',g3,rfl,g4⟩:=g2;obtain⟨v2,g5,h8,M2,ox,g6,g7⟩:=L6 b' (K:={K with ds:=[]}) dV hs g3;cases g6;exact⟨hd,kU,dP,v2,g5,v2,H',M2,ox,rfl,jr,g4,g7.qN K.ds⟩
  |exit i=>exact g2.elim
  |be y=>
   obtain⟨H',_,g4,_⟩:=g2;cases g4
 have e3:(execOp ((({tmps:=iJ,defers:=[]}:Act).put cL.dst v).eval) gI).run P w = .ok (.value v) w:=by
  rw [ai];exact e2 iJ (by omega)
 rcases u' with u'|⟨u',rfl,hc0⟩
 ·simp only [u',e3];rw [Oper.upon_value,ai,e5];exact i' _ rfl
 ·simp only [u',e3];rw [Oper.upon_value,ai,e5];exact i' _ (by rw [hc0])
end
def mS(H:List (Nat×List aS)):Nat→List (Nat×List aS)
 | 0=>[]
 |n+1=>match look H n with
  |some cs=>(n,cs)::mS H n
  |none=>mS H n
def Dz{H:List (Nat×List aS)}:∀{n q:Nat} {cs:List aS},look (mS H n) q=some cs→q<n∧look H q=some cs
 | 0,q,cs,h=>by simp [mS,look]at h
 |n+1,q,cs,h=>by
  unfold mS at h;split at h
  ·rename_i c hc;rw [dn]at h;split at h
   ·rename_i aR;subst aR;cases h;exact⟨by omega,hc⟩
   ·obtain⟨ab,ai⟩:=Dz h;exact⟨by omega,ai⟩
  ·obtain⟨ab,ai⟩:=Dz h;exact⟨by omega,ai⟩
def My(mk:Nat)(ops:List Oper)(o:Oper)(x:V)(hs:List (Nat×List aS))(a6:List Prop)(ir:List Nat)(rs:List eR)(pm:List (Nat×List aS)):ea:=
 {dst:=o.dst,p:=[],f:={e:=none,rs:=[],hs:=[(mk,[])],a6},ir,kS:=mM ops o,mK:=nK o,rs,fZ:=1,qO:=x,mL:=hs,pm}
def Mz(ops:List Oper)(o:Oper):ea:=
 {dst:=o.dst,p:=[],f:={e:=none,rs:=[]},ir:=[],kS:=mM ops o,mK:=nK o,rs:=[],fZ:=2}
def oy(cd:fN)(tt:dr)(ops:List Oper)(fC mk:Nat):Nat→List Oper→List (List eR)→db→Option (List ea×db×List Prop×List (V×List (Nat×List aS)))
 |_,[],[],g=>some ([],g,[],[])
 |i,o::l,rs::ia,g=>bif Nat.beq i fC then match mA ops g o with
  |some []=>match step1 cd tt ops {g with rs:=rs} [] o with
   |some (.be x hs a6)=>match oy cd tt ops fC mk (i+1) l ia (ed (My mk ops o x hs a6 (hy tt g [] o++List.range mk) rs g.H) g) with
    |some (cC,eL,pj,xs)=>some (My mk ops o x hs a6 (hy tt g [] o++List.range mk) rs g.H::cC,eL,pj++a6,(x,hs++mS g.H mk)::xs)
    |none=>none
   |_=>none
  |_=>none
  else bif waits ops fC 3 i then match oy cd tt ops fC mk (i+1) l ia (ed (Mz ops o) g) with
   |some (cC,eL,pj,xs)=>some (Mz ops o::cC,eL,pj,xs)
   |none=>none
  else match findD cd tt ops g o rs with
   |some E=>bif E.f.hs.all (λy=>!Nat.beq y.1 mk)then match oy cd tt ops fC mk (i+1) l ia (ed E g) with
    |some (cC,eL,pj,xs)=>some (E::cC,eL,pj++E.f.a6.map (under g E.p),xs)
    |none=>none
    else none
   |none=>none
 |_,_,_,_=>none
def u_(cd:fN)(tt:dr)(N:Nat)(ops:List Oper)(fC mk:Nat)(ia:List (List eR))(st:aF):Option (V×List (Nat×List aS)×List Prop):=
 match oy cd tt ops fC mk 0 ops ia (yF ops st) with
 |some (cC,g,a6,[(x,hs)])=>bif yB N ops cC&&(look g.H mk).isSome&&(look st.H mk).isNone then some (x,hs,a6)else none
 |_=>none
def DA:Option (V×List (Nat×List aS)×List Prop)→Option (V×List Prop)
 |some (x,_,cx)=>some (x,cx)
 |none=>none
def DB:Option (V×List (Nat×List aS)×List Prop)→List (Nat×List aS)
 |some (_,H,_)=>H
 |none=>[]
section
variable {P:Program} {K:Ctx} {N E:Nat} {st:aF} {tt:dr} {opsA:Array Oper} {cd:fN}
structure MA(opsA:Array Oper)(cC:List ea)(fC mk:Nat)(x:V)(hs:List (Nat×List aS)):Prop where
 dead:∀(i:Nat) E,cC[i]? = some E→E.fZ=2→waits opsA.toList fC 3 i=true
 be:∀(i:Nat) E,cC[i]? = some E→E.fZ=1→E.p=[]∧E.qO=x∧E.mL++mS E.pm mk=hs∧∀q,q<mk→q∈E.ir
 go:∀(i:Nat) E,cC[i]? = some E→E.fZ=0→i≠fC∧(E.f.hs.all (λy=>!Nat.beq y.1 mk))=true
 fZ:∀(i:Nat) E,cC[i]? = some E→E.fZ=0∨E.fZ=1∨E.fZ=2
def ZK{listed:Array Bool}(ht:lz opsA listed){i fC:Nat}(hi:i∈Region.ready .any opsA listed){n:Nat}(hw:waits opsA.toList fC n i=true):listed.getD fC false=true:=by
 cases n with
 |zero=>simp [waits]at hw
 |succ n=>
  obtain⟨_,o,ax,l4⟩:=mem_ready.1 hi;rw [waits]at hw;have ah:opsA.toList[i]? = some o:=by simpa using ax
  simp only [ah]at hw;obtain⟨e,he,hb⟩:=List.any_eq_true.1 hw;simp only [Bool.and_eq_true,Bool.or_eq_true,Nat.beq_eq]at hb;have ab:=l4 e (by simpa using he) hb.1
  rcases hb.2 with rfl|ai
  ·exact ab
  ·exact yt ht ai ab
def DC{mk:Nat}:∀{l H:List (Nat×List aS)},(l.all λy=>!Nat.beq y.1 mk)=true→look H mk=none→look (l++H) mk=none
 |[],_,_,h=>h
 |(a,b)::l,H,ah,h=>by
  simp only [List.all_cons,Bool.and_eq_true,Bool.not_eq_true']at ah;rw [List.cons_append,dn];have:a≠mk:=by intro e;subst e;simp at ah
  rw [if_neg this];exact DC ah.2 h
def ZL{E:ea}{g:db}{mk:Nat}(h:(E.f.hs.all λy=>!Nat.beq y.1 mk)=true)(hg:look g.H mk=none):look (ed E g).H mk=none:=by
 unfold ed;cases E.dst with
 |none=>exact DC h hg
 |some t=>
  cases E.p with
  |nil=>exact DC h hg
  |cons x p=>dsimp only;cases E.f.e<;>exact hg
def hS.MB(b':eF P tt=true){cC:List ea}{fC mk:Nat}{x:V}{hs:List (Nat×List aS)}(kd:MA opsA cC fC mk x hs)(fQ:∀(i:Nat) o E,opsA[i]? = some o→cC[i]? = some E→h' opsA.toList o E=true)(b5:∀(i:Nat) E,cC[i]? = some E→nN N E=true)(iF:u3 opsA.toList cC=true){Q:Exit→Act→World→Prop}
 (dR:∀n e dF w',nJ P K N (.be x) {env:=[],H:=hs,aU:=n} e dF w'→Q e dF w'):
 ∀(n:Nat) (listed:Array Bool) (g:db) (tmps:Array Value) (w:World) (M:Mem) (β:Nat→Option Nat),hS (gd P) tt opsA cC (λg=>(look g.H mk).isSome=true) n listed g→listed.size=opsA.size→lz opsA listed→pq cC listed g→listed.getD fC false=false→look g.H mk=none→eZ P K N M β g tmps w→wpAny P .any opsA Q n listed ⟨tmps,K.ds⟩ w
 | 0,_,g,tmps,w,M,β,h,_,_,_,_,ej,_=>by have:(look g.H mk).isSome=true:=h.2;rw [ej]at this;cases this
 |n+1,listed,g,tmps,w,M,β,h,dW,ht,hE,MC,ej,fu=>by
  refine⟨(λak=>by have:(look g.H mk).isSome=true:=h.1 ak;rw [ej]at this;cases this),λi hi=>?_⟩
  obtain⟨o,E,ax,cB,yA,hn⟩:=h.2 i hi;have cV:i<listed.size:=by rw [dW];exact(Array.getElem?_eq_some_iff.1 ax).1
  have lA:listed.getD i false=false:=by have:=(mem_ready.1 hi).1;simpa [Array.getD_eq_getD_getElem?,cV]using this
  have oo:eZ P K N M β {g with rs:=E.rs,a6:=[]} tmps w:=⟨fu.bn,fu.size,fu.fresh,fu.cond⟩;unfold wpOp;simp only [ax];rcases kd.fZ i E cB with hk|hk|hk
  ·have h_:=yA.resolve_left (by rw [hk];simp)
   obtain⟨yK,qK⟩:=kd.go i E cB hk;have Dk:=Mr (N:=N) hk h_ cB (fQ i o E ax cB) (b5 i E cB) iF ht lA hE;refine uW oo b' (opsA:=opsA) rfl Dk (λq aR=>?_) (λdU w' M' β' dk=>?_)
   ·obtain⟨q',mG,rfl⟩:=List.mem_map.1 aR;exact h_.a6 q' mG
   ·exact hS.MB b' kd fQ b5 iF dR n _ (ed E g) dU w' M' β' hn (by simpa using dW) (ht.set hi) (hE.ap cB cV) (by rw [getD_set_ne false yK];exact MC) (ZL qK ej) ⟨dk.bn,dk.size,dk.fresh,dk.cond⟩
  ·have h_:=yA.resolve_left (by rw [hk];simp)
   obtain⟨hp,hx,ZM,ma⟩:=kd.be i E cB hk
   have eA:step1 (gd P) tt opsA.toList {g with rs:=E.rs,a6:=[]} [] o=some (.be x E.mL E.f.a6):=by
    have ab:=h_.st;rw [hk,hp,hx]at ab;refine Eq.trans ?_ ab;exact Df (g1:={g with rs:=E.rs,a6:=[]}) (g2:={g with rs:=E.rs}) (λ_ _ _ _=>⟨rfl,rfl⟩) rfl rfl (λ_=>rfl) (λ_ _=>rfl)
   have DD:mA opsA.toList {g with rs:=E.rs,a6:=[]} o=some []:=by rw [←hp];exact h_.yo
   have ZN:ii (gd P) tt N opsA.toList {g with rs:=E.rs,a6:=[]} o=some (.be x {env:=mz g.env,H:=E.mL++g.H,aU:=g.aU} (E.f.a6++[])):=by
    unfold ii;rw [DD]
    dsimp only
    rw [eA];rfl
   refine LT oo b' (opsA:=opsA) rfl ZN (λq aR=>?_) (λe dF w' ov=>?_)
   ·rw [List.append_nil]at aR;have:=h_.a6 q aR
    rw [hp]at this;exact this
   ·obtain⟨v,ab,ai,ql,oe,ay,bg⟩:=ov;have i':=h_.fin hk
    have jQ:∀q cs,look hs q=some cs→look (E.mL++g.H) q=some cs:=by
     intro q cs aR;rw [←ZM,sG]at aR;rw [sG];cases ah:look E.mL q with
     |some c=>rw [ah]at aR;exact aR
     |none=>
      rw [ah]at aR;obtain⟨bQ,dh⟩:=Dz aR;rw [←dh];exact i' q (ma q bQ)
    refine dR g.aU e dF w' ⟨v,ab,ai,ql,oe,ay,(bg.uT _).sub rfl (λl aZ ah=>?_) (λq cs aR=>⟨cs,jQ q cs aR,rfl⟩)⟩
    cases l with
    |slot s=>simp [aF.at,look]at ah
    |cell q i=>
     simp only [aF.at]at ah ⊢;cases aR:look hs q with
     |none=>rw [aR]at ah;simp at ah
     |some cs=>
      rw [aR]at ah;rw [jQ q cs aR];exact⟨aZ,ah,rfl,λ_ h=>h⟩
  ·have:=ZK ht hi (kd.dead i E cB hk)
   rw [MC]at this;cases this
def yL{ops:List Oper}{fC mk:Nat}{Fi:db→Prop}:∀{l:List Oper} {i:Nat} {ia:List (List eR)} {g:db} {cC:List ea} {eL:db} {a6:List Prop} {xs:List (V×List (Nat×List aS))},oy cd tt ops fC mk i l ia g=some (cC,eL,a6,xs)→(∀q,q∈a6→q)→Fi eL→
 cC.length=l.length∧yx cd tt ops Fi (jx l cC) g∧
 (∀(j:Nat) E,cC[j]? = some E→(E.fZ=0∧i+j≠fC∧(E.f.hs.all (λy=>!Nat.beq y.1 mk))=true)∨(E.fZ=1∧E.p=[]∧(E.qO,E.mL++mS E.pm mk)∈xs∧∀q,q<mk→q∈E.ir)∨(E.fZ=2∧waits ops fC 3 (i+j)=true))
 |[],i,[],g,cC,eL,a6,xs,h,_,du=>by
  simp only [oy,Option.some.injEq,Prod.mk.injEq]at h;obtain⟨rfl,rfl,rfl,rfl⟩:=h;exact⟨rfl,du,by simp⟩
 |[],_,_::_,_,_,_,_,_,h,_,_=>by simp [oy]at h
 |_::_,_,[],_,_,_,_,_,h,_,_=>by simp [oy]at h
 |o::l,i,rs::ia,g,cC,eL,a6,xs,h,cv,du=>by
  have next:∀{E:ea} {qV:List ea} {sK:List (V×List (Nat×List aS))},(∀(j:Nat) E,qV[j]? = some E→(E.fZ=0∧i+1+j≠fC∧(E.f.hs.all (λy=>!Nat.beq y.1 mk))=true)∨(E.fZ=1∧E.p=[]∧(E.qO,E.mL++mS E.pm mk)∈sK∧∀q,q<mk→q∈E.ir)∨(E.fZ=2∧waits ops fC 3 (i+1+j)=true))→(∀z,z∈sK→z∈xs)→
   ((E.fZ=0∧i≠fC∧(E.f.hs.all (λy=>!Nat.beq y.1 mk))=true)∨(E.fZ=1∧E.p=[]∧(E.qO,E.mL++mS E.pm mk)∈xs∧∀q,q<mk→q∈E.ir)∨(E.fZ=2∧waits ops fC 3 i=true))→
   ∀(j:Nat) dd,(E::qV)[j]? = some dd→(dd.fZ=0∧i+j≠fC∧(dd.f.hs.all (λy=>!Nat.beq y.1 mk))=true)∨(dd.fZ=1∧dd.p=[]∧(dd.qO,dd.mL++mS dd.pm mk)∈xs∧∀q,q<mk→q∈dd.ir)∨(dd.fZ=2∧waits ops fC 3 (i+j)=true):=by
   intro E qV sK ab hx ai j dd hj;cases j with
   |zero=>simp at hj;subst hj;exact ai
   |succ j=>
    have:=ab j dd (by simpa using hj)
    rw [show i+1+j=i+(j+1)by omega]at this
    rcases this with ay|⟨ay,bg,bQ,dh⟩|ay
    ·exact .inl ay
    ·exact .inr (.inl ⟨ay,bg,hx _ bQ,dh⟩)
    ·exact .inr (.inr ay)
  simp only [oy]at h;rw [Bool.cond_eq_ite]at h;split at h
  ·rename_i yK;split at h
   case h_2=>cases h
   rename_i DD;split at h
   case h_2=>cases h
   rename_i x hs yC eA;split at h
   case h_2=>cases h
   rename_i qV g1 MD sK ab;simp only [Option.some.injEq,Prod.mk.injEq]at h;obtain⟨rfl,rfl,rfl,rfl⟩:=h;obtain⟨ai,ay,bg⟩:=yL ab (λq aR=>cv q (List.mem_append_left _ aR)) du
   refine⟨by simp [ai],⟨.inr ⟨DD,eA,(λq aR=>cv q (List.mem_append_right _ aR)),(λq aR=>List.mem_append_left _ aR),λ_ q _=>rfl⟩,ay⟩,next bg (λz ek=>List.mem_cons_of_mem _ ek) (.inr (.inl ⟨rfl,rfl,List.mem_cons_self ..,λq aR=>List.mem_append_right _ (List.mem_range.2 aR)⟩))⟩
  ·rename_i yK;rw [Bool.cond_eq_ite]at h;split at h
   ·rename_i hw;split at h
    case h_2=>cases h
    rename_i qV g1 MD sK ab;simp only [Option.some.injEq,Prod.mk.injEq]at h;obtain⟨rfl,rfl,rfl,rfl⟩:=h;obtain⟨ai,ay,bg⟩:=yL ab cv du;exact⟨by simp [ai],⟨.inl rfl,ay⟩,next bg (λz ek=>ek) (.inr (.inr ⟨rfl,hw⟩))⟩
   ·split at h
    case h_2=>cases h
    rename_i E cB;rw [Bool.cond_eq_ite]at h;split at h
    case isFalse=>cases h
    rename_i mB;split at h
    case h_2=>cases h
    rename_i qV g1 MD sK ab;simp only [Option.some.injEq,Prod.mk.injEq]at h;obtain⟨rfl,rfl,rfl,rfl⟩:=h;obtain⟨ai,ay,bg⟩:=yL ab (λq aR=>cv q (List.mem_append_left _ aR)) du
    have Dl:∀q,q∈E.f.a6→under g E.p q:=λq aR=>cv _ (List.mem_append_right _ (List.mem_map.2 ⟨q,aR,rfl⟩))
    have qK:=mB;unfold findD at cB;split at cB
    ·cases cB
    rename_i p hp;split at cB
    ·rename_i f bh;cases cB;exact⟨by simp [ai],⟨.inr ⟨hp,bh,Dl,λ_ h=>h,λh=>by cases h⟩,ay⟩,next bg (λz ek=>ek) (.inl ⟨rfl,(by simpa using yK),qK⟩)⟩
    ·cases cB
def a'.ZO{id:Nat}{Q:ck→aF→Prop}(b':eF P tt=true)(hm:P.follows .mixedOrders=true)(fC:Nat)(ia:List (Nat×List eR)){x:V}{cx:List Prop}(ak:DA (u_ (gd P) tt N opsA.toList fC (st.aU+opsA.toList.length) (spread opsA.toList.length 0 ia) st)=some (x,cx))(cv:i_ cx)
 (dR:∀n,Q (.be x) {env:=[],H:=DB (u_ (gd P) tt N opsA.toList fC (st.aU+opsA.toList.length) (spread opsA.toList.length 0 ia) st),aU:=n}):a' P N E (.region id opsA true) Q st:=by
 rintro K dV a w ⟨_,hd,dW,M,β,cK⟩
 obtain⟨tmps,ds⟩:=a;simp only at hd dW
 subst hd;refine wp_region_any hm ?_;cases jR:u_ (gd P) tt N opsA.toList fC (st.aU+opsA.toList.length) (spread opsA.toList.length 0 ia) st with
 |none=>rw [jR]at ak;cases ak
 |some res=>
 obtain⟨ff,aio,DE⟩:=res;rw [jR]at ak dR;simp only [DA,Option.some.injEq,Prod.mk.injEq]at ak;obtain⟨rfl,rfl⟩:=ak;simp only [DB]at dR;unfold u_ at jR;split at jR
 case h_2=>cases jR
 rename_i cC g pj fh fu el;rw [Bool.cond_eq_ite]at jR;split at jR
 case isFalse=>cases jR
 rename_i hc;simp only [Option.some.injEq,Prod.mk.injEq]at jR;obtain⟨rfl,rfl,rfl⟩:=jR;simp only [Bool.and_eq_true,Option.isNone_iff_eq_none]at hc;obtain⟨⟨hc,ny⟩,ME⟩:=hc;generalize aip:st.aU+opsA.toList.length=mk at el ny ME
 obtain⟨hlen,Dp,yM⟩:=yL (Fi:=λg=>(look g.H mk).isSome=true) el cv.mem ny
 simp only [yB,Bool.and_eq_true]at hc;obtain⟨⟨⟨c1,c2⟩,c3⟩,c4⟩:=hc
 have fQ:∀(i:Nat) o E,opsA[i]? = some o→cC[i]? = some E→h' opsA.toList o E=true:=by
  intro i o E ax cB;obtain⟨i8,z2⟩:=qW hlen i;have iY:opsA.toList[i]? = some o:=by simpa using ax
  rw [iY]at i8;rw [cB]at z2;cases ek:(jx opsA.toList cC)[i]? with
  |none=>rw [ek]at i8;simp at i8
  |some x=>
   rw [ek]at i8 z2;simp at i8 z2
   subst i8;subst z2;exact List.all_eq_true.1 c1 x (List.mem_of_getElem? ek)
 have b5:∀(i:Nat) E,cC[i]? = some E→nN N E=true:=λi E cB=>List.all_eq_true.1 c2 E (List.mem_of_getElem? cB)
 have u4:lz opsA (Array.replicate opsA.size false):=λj o ax hj=>by have cV:j<opsA.size:=(Array.getElem?_eq_some_iff.1 ax).1;simp [Array.getD_eq_getD_getElem?,cV]at hj
 have u5:=hS.text fQ (λg1 g2 Dq ab=>by rw [←Dq.box mk];exact ab) (jx opsA.toList cC) 0 (Array.replicate opsA.size false) _ (λj=>by have:=(qW hlen j).1;simpa using this) (λj=>by have:=(qW hlen j).2;simpa using this)
  ⟨by simp,λj hj=>by simp [hj]⟩ u4 c4 Dp
 have qs:(jx opsA.toList cC).length=opsA.size:=by rw [Dm hlen];simp
 rw [qs]at u5
 have kd:MA opsA cC fC mk fh fu:=by
  constructor
  ·intro i E cB hk;rcases yM i E cB with⟨ab,_⟩|⟨ab,_⟩|⟨_,ab⟩
   ·omega
   ·omega
   ·simpa using ab
  ·intro i E cB hk;rcases yM i E cB with⟨ab,_⟩|⟨_,ab,ai,ay⟩|⟨ab,_⟩
   ·omega
   ·simp only [List.mem_singleton,Prod.mk.injEq]at ai;exact⟨ab,ai.1,ai.2,ay⟩
   ·omega
  ·intro i E cB hk;rcases yM i E cB with⟨_,ab,ai⟩|⟨ab,_⟩|⟨ab,_⟩
   ·exact⟨by simpa using ab,ai⟩
   ·omega
   ·omega
  ·intro i E cB;rcases yM i E cB with⟨ab,_⟩|⟨ab,_⟩|⟨ab,_⟩
   ·exact .inl ab
   ·exact .inr (.inl ab)
   ·exact .inr (.inr ab)
 refine hS.MB (K:=K) (mk:=mk) b' kd fQ b5 c3 (λn e dF w' dk=>⟨_,_,dk,dR n⟩) _ _ _ tmps _ M β u5 (by simp) u4 (λx hx=>by cases hx) ?_ ME ⟨(cK.drew _).up _,dW,(λs id h _ b hb=>by have ab:=cK.lt _ _ hb;have ai:=(yH _ _ _ (oc h)).1;simp only at ai;omega),λ_ _ _ h=>by simp [yF,look]at h⟩
 rw [Array.getD_eq_getD_getElem?];by_cases MF:fC<opsA.size
 ·simp [MF]
 ·simp [MF]
end
section
variable {P:Program} {tt:dr} {fn:Func} {E:Nat} {st:aF}
def DF{y:Code}{R:Out→List (List aS)→Prop}(h:mQ P tt fn E y R st):Dw P tt fn E y R .normal st:=h
def ZP{y:Code}{out:Out}{va:List (List aS)}(h:(Ab.leave tt E fn.results.toList st).map (λx=>(x.1,lw x.2))=some (out,va)):Dw P tt fn E y (λo H'=>o=out∧H'=va) .ret st:=by
 rw [Option.map_eq_some_iff]at h;obtain⟨⟨o,H'⟩,ab,ai⟩:=h;cases ai;exact⟨o,H',ab,rfl,rfl⟩
def MG(tt:dr)(E:Nat)(rs:List ResultVar)(ds:List D)(ρ:List Nat)(cw:List (List aS))(st:aF):Option (List (List aS)×List D×Out×List (List aS)):=
 bif !kJ ρ then none else match boxes st.H ρ,jm (idx ρ) ds,ih (λj=>ρ[j]?) cw with
  |some bs,some h3,some hh=>bif Nat.beq cw.length ρ.length then match ih (idx ρ) bs,Ab.leave tt E rs {env:=st.env,H:=jn ρ hh++st.H,aU:=st.aU} with
   |some H1,some (o,H')=>some (H1,h3,o,lw H')
   |_,_=>none
   else none
  |_,_,_=>none
def nO.of{rs:List ResultVar}{fd:FuncId}{ds h3:List D}{x:Option V}(ρ:List Nat){H1 cw va:List (List aS)}{o:Out}(d:pr P fd h3 H1 x λH'=>H'=cw)(hc:MG tt E rs ds ρ cw st=some (H1,h3,o,va)):
 nO P tt E rs fd ds (λo' H'=>o'=o∧H'=va) x st:=by
 unfold MG at hc;rw [Bool.cond_eq_ite]at hc;split at hc
 ·cases hc
 rename_i hn;split at hc
 case h_2=>cases hc
 rename_i bs a hh i7 ha qz;rw [Bool.cond_eq_ite]at hc;split at hc
 case isFalse=>cases hc
 rename_i ah;split at hc
 case h_2=>cases hc
 rename_i ZQ o' H' ka nH;simp only [Option.some.injEq,Prod.mk.injEq]at hc;obtain⟨rfl,rfl,rfl,rfl⟩:=hc;refine⟨ρ,bs,ZQ,a,_,(by simpa using hn),i7,ka,ha,d,λMw ay=>?_⟩
 subst ay;exact⟨hh,o',H',(by simpa using ah),qz,nH,rfl,rfl⟩
def ZR{rs:List ResultVar}{fd:FuncId}{ds:List D}{R:Out→List (List aS)→Prop}(h:nO P tt E rs fd ds R none st):Dx P tt E rs fd ds R .ret st:=h
def MH{rs:List ResultVar}{fd:FuncId}{ds:List D}{R:Out→List (List aS)→Prop}{x:V}(h:nO P tt E rs fd ds R (some x) st):Dx P tt E rs fd ds R (.be x) st:=h
end
section
variable {P:Program}
def ZS{w:World}{b off:Nat}{vs:List Value}{T:TypeId}{lY:Nat×Nat}(h:w.heap[b]? = some (.cells ⟨vs⟩ T lY))(u:Value):
 (w.setCell ⟨b,off,none⟩ u).heap[b]? = some (.cells ⟨vs.set off u⟩ T lY):=by
 have cV:=lt_of_heap h;have dk:w.heap[b] = .cells ⟨vs⟩ T lY:=by simpa [Array.getElem?_eq_getElem cV]using h
 show(w.heap.modify b _)[b]? = _
 rw [Array.getElem?_eq_getElem (by simpa using cV),Array.getElem_modify_self,dk]
 simp
def ZT{w:World}{b off:Nat}{u:Value}(k:Nat)(h:k≠b):(w.setCell ⟨b,off,none⟩ u).heap[k]? = w.heap[k]? := Go.RowKit.Below.heap_setCell w ⟨b,off,none⟩ u k h
def MI {f : FuncId} {fd : Func} {off : Nat} {u : TypeId} (kq : P.funcs[f]? = some fd) (DG : fd.body.isSome = true) (hn : decide (fd.name = "runtime.NumGoroutine") = false)
 (ZU:∀(b:Nat) (w:World),w.cell? ⟨b,off,none⟩=some (.pointer (some ⟨b,off,none⟩))→Calls P f #[.pointer (some ⟨b,off,none⟩)] w λe w'=>e = .returned (.tuple #[])∧w'=w)
 (ZV:∀(b:Nat) (w:World) (T:TypeId) (k:Nat),w.cell? ⟨b,off,none⟩=some (.pointer none)→w.shape? b=some (T,k)→off<k→liesAt P P.depth T (k / P.cellsOf T) off u 1=true→w.frozen? ⟨b,off,none⟩=false→
  Calls P f #[.pointer (some ⟨b,off,none⟩)] w λe w'=>e = .returned (.tuple #[])∧w'=w.setCell ⟨b,off,none⟩ (.pointer (some ⟨b,off,none⟩)))
 {cs:List aS} (dP:cs[off]? = some ⟨.cn 0 off u,none⟩):fS P f [.ptr 0 off] [] [cs] (.ret (.cf []) none) [cs]:=by
 refine⟨⟨fd,kq,DG,by simpa using hn⟩,λK w vs M β hlen hs f'=>?_⟩
 obtain⟨v,rfl⟩:∃v,vs=[v]:=by
  match vs,hlen with
  |[v],_=>exact⟨v,rfl⟩
 have og:=hs.ez (.slot 0) ⟨.ptr 0 off,none⟩ (by simp [aF.at,gp,oi,cQ,look])
 have qD:b9 (⟨[v]⟩:Array Value) w β (.slot 0)=v:=by simp [b9]
 rw [qD]at og;obtain⟨b,hb,rfl⟩:∃b,β 0=some b∧v = .pointer (some ⟨b,off,none⟩):=by cases og with|ptr r o b h=>exact⟨b,h,rfl⟩
 have hl0:look (cQ 0 [cs]) 0=some cs:=by simp [cQ,look]
 obtain⟨bM,ws,T,bO,bz,MJ,ZW,ZX,fP,hlies⟩:=hs.box 0 cs hl0;rw [hb]at bO;cases bO;have pg:off<cs.length:=(List.getElem?_eq_some_iff.1 dP).1;have vb:ws[off]? = some ws[off]:=List.getElem?_eq_getElem (by omega)
 have gG:w.cell? ⟨b,off,none⟩=some ws[off]:=by rw [cell_of_heap bz,vb]
 have fl:=hs.ez (.cell 0 off) ⟨.cn 0 off u,none⟩ (by simp [aF.at,hl0,dP])
 have b8:b9 (⟨[.pointer (some ⟨b,off,none⟩)]⟩:Array Value) w β (.cell 0 off)=ws[off]:=by simp [b9,hb,gG]
 rw [b8]at fl
 have fin:∀w',bE P K M β {env:=[],H:=cQ 0 [cs],aU:=[cs].length} #[.tuple #[]] w'→bE P K M β {env:=gv (.ret (.cf []) none),H:=cQ 0 [cs],aU:=[cs].length} #[.tuple #[]] w':=λw' h=>by
  have:=h.put (t:=0) (v:=.tuple #[]) (e:=⟨.cf [],none⟩) (by simp) (.cf [] [] rfl λi v c aA=>by simp at aA) (λT aN=>by cases aN)
  exact this
 generalize hx:ws[off]=x at gG fl vb
 cases fl with
 |jL r o kU=>
  have hsh:w.shape? b=some (T,ws.length):=by simp [World.shape?,bz]
  have hfz:w.frozen? ⟨b,off,none⟩=false:=by simp [World.frozen?,bz]
  have iX:=hlies _ (List.mem_of_getElem? dP) 0 off u rfl;refine(ZV b w T ws.length gG hsh (by omega) iX hfz).mono ?_
  rintro e w' ⟨rfl,rfl⟩
  refine⟨_,_,.tuple #[],M,β,⟨rfl,rfl⟩,rfl,fin _ ?_⟩
  have ab:=(hs.uT #[.tuple #[]]).xF (r:=0) (b:=b) (cs:=cs) (w':=w.setCell ⟨b,off,none⟩ (.pointer (some ⟨b,off,none⟩))) hl0 hb bz (vs':=ws.set off (.pointer (some ⟨b,off,none⟩))) (cs':=cs) (by simpa using MJ)
   (λy b_=>by
    rcases List.mem_or_eq_of_mem_set b_ with h|rfl
    ·exact fP y h
    ·rfl) (λh=>by rw [List.length_set];exact h) rfl (ZS bz _) (λk hk=>ZT k hk) cs.length (λi y e b_ he=>by
    by_cases hi:off=i
    ·subst hi;rw [List.getElem?_set_self (by omega)]at b_
     cases b_;rw [dP]at he;cases he;exact⟨.cn 0 off b u hb,λT aN=>by cases aN⟩
    ·rw [List.getElem?_set_ne hi]at b_;have KG:=(List.getElem?_eq_some_iff.1 he).1;refine⟨?_,λT aN=>.inl ⟨by omega,⟨e,he,aN⟩,b_⟩⟩
     have:=hs.ez (.cell 0 i) e (by simp [aF.at,hl0,he])
     simpa [b9,hb,cell_of_heap bz,b_]using this)
  refine ab.sub rfl (λl e ah=>⟨e,?_,rfl,λ_ h=>h⟩) (λr c ak=>⟨c,?_,rfl⟩)
  ·cases l with
   |slot s=>exact ah
   |cell r i=>
    simp only [aF.at,dn]at ah ⊢;by_cases ak:r=0
    ·subst ak;rw [hl0]at ah;simpa using ah
    ·simp [cQ,dn,Ne.symm ak,look]at ah
  ·simp only [dn]at ak ⊢;by_cases jY:r=0
   ·subst jY;rw [hl0]at ak;simpa using ak
   ·simp [cQ,dn,Ne.symm jY,look]at ak
 |cn r o ls kU e6=>
  rw [hb]at e6;cases e6;refine(ZU b w gG).mono ?_
  rintro e w' ⟨rfl,rfl⟩
  exact⟨_,_,.tuple #[],M,β,⟨rfl,rfl⟩,rfl,fin _ (hs.uT _)⟩
end
section
variable {P:Program}
def MK {f : FuncId} {fd : Func} {T5 : TypeId} (kq : P.funcs[f]? = some fd) (DG : fd.body.isSome = true) (hn : decide (fd.name = "runtime.NumGoroutine") = false) (ZY : P.cellsOf T5 = 1)
 (mB:∀(b:Nat) (w:World),w.cell? ⟨b,1,none⟩=some (.slice none 0 0)→Calls P f #[.pointer (some ⟨b,0,none⟩)] w λe w'=>e = .returned (.string ⟨#[]⟩)∧w'=w.drew)
 (qo:∀(b g cap:Nat) (w:World),cap≠0→w.cell? ⟨b,1,none⟩=some (.slice (some ⟨g,0,none⟩) 0 cap)→Calls P f #[.pointer (some ⟨b,0,none⟩)] w λe w'=>e = .returned (.string ⟨#[]⟩)∧w'=w.drew)
 (ZZ:∀(b g:Nat) (w:World) (vs:List Value),w.cell? ⟨b,1,none⟩=some (.slice (some ⟨g,0,none⟩) 0 0)→b<w.heap.size→w.heap[g]? = some (.cells ⟨vs⟩ T5 (0,0))→
  Calls P f #[.pointer (some ⟨b,0,none⟩)] w λe w'=>e = .returned (.string ⟨#[]⟩)∧w'=(w.drew.alloc (.view ⟨g,0,none⟩ T5)))
 (qy:∀(b g cap:Nat) (w:World) (vs:List Value) (l:ajK),l≠[]→w.cell? ⟨b,1,none⟩=some (.slice (some ⟨g,0,none⟩) l.length cap)→w.heap[g]? = some (.cells ⟨vs⟩ T5 (0,0))→
  l.length≤cap→cap≤vs.length→l.length≤9223372036854775807→(∀(j:Nat) (x:UInt8),l[j]? = some x→vs[j]? = some (Value.int .u8 x.toNat))→
  Calls P f #[.pointer (some ⟨b,0,none⟩)] w λe w'=>e = .returned (.string ⟨l.toArray⟩)∧w'=w.drew.freeze ⟨g,0,none⟩ l.length)
 {d0:aS} {cs:List aS} {l:ajK} {n:Nat} {get:Nat→V} (hr:n=l.length∧∀i,i<l.length→get i = .int .u8 ((l.getD i 0).toNat:Int)) (h63:l.length≤9223372036854775807):
 fS P f [.ptr 0 0] [] [d0::⟨.v (.bC 1 n get),some T5⟩::cs] (.ret (.v (.str l)) none) [d0::⟨.v (.bC 1 n get),none⟩::cs]:=by
 obtain⟨rfl,hr⟩:=hr;refine⟨⟨fd,kq,DG,by simpa using hn⟩,λK w vs M β hlen hs f'=>?_⟩
 obtain⟨v,rfl⟩:∃v,vs=[v]:=by
  match vs,hlen with
  |[v],_=>exact⟨v,rfl⟩
 have og:=hs.ez (.slot 0) ⟨.ptr 0 0,none⟩ (by simp [aF.at,gp,oi,cQ,look])
 have qD:b9 (⟨[v]⟩:Array Value) w β (.slot 0)=v:=by simp [b9]
 rw [qD]at og;obtain⟨b,hb,rfl⟩:∃b,β 0=some b∧v = .pointer (some ⟨b,0,none⟩):=by cases og with|ptr r o b h=>exact⟨b,h,rfl⟩
 generalize j_:d0::(⟨.v (.bC 1 l.length get),some T5⟩:aS)::cs=kV at hs
 have im:kV[1]? = some ⟨.v (.bC 1 l.length get),some T5⟩:=by rw [←j_];rfl
 have hl0:look (cQ 0 [kV]) 0=some kV:=by simp [cQ,look]
 obtain⟨bM,ws,T,bO,bz,MJ,ZW,ZX,fP⟩:=hs.box 0 kV hl0;rw [hb]at bO;cases bO;have pg:1<kV.length:=(List.getElem?_eq_some_iff.1 im).1;have vb:ws[1]? = some ws[1]:=List.getElem?_eq_getElem (by omega)
 have gG:w.cell? ⟨b,1,none⟩=some ws[1]:=by rw [cell_of_heap bz,vb]
 have ML:({env:=gp [.ptr 0 0] [],H:=cQ 0 [kV],aU:=[kV].length}:aF).at (.cell 0 1)=some ⟨.v (.bC 1 l.length get),some T5⟩:=by simp [aF.at,hl0,im]
 have fl:=hs.ez _ _ ML;have fk:=hs.own _ _ T5 ML rfl;have b8:b9 (⟨[.pointer (some ⟨b,0,none⟩)]⟩:Array Value) w β (.cell 0 1)=ws[1]:=by simp [b9,hb,gG]
 rw [b8]at fl fk
 -- jN state behind it
 have qx:∀(j:Nat) aZ,(d0::(⟨.v (.bC 1 l.length get),none⟩:aS)::cs)[j]? = some aZ→∃bP,kV[j]? = some bP∧bP.d=aZ.d∧(∀T,aZ.own=some T→bP.own=some T∧j≠1):=by
  intro j aZ hj;rw [←j_]
  match j with
  | 0=>simp only [List.getElem?_cons_zero,Option.some.injEq]at hj ⊢;subst hj;exact⟨_,rfl,rfl,λT aN=>⟨aN,by omega⟩⟩
  | 1=>simp only [List.getElem?_cons_succ,List.getElem?_cons_zero,Option.some.injEq]at hj ⊢;subst hj;exact⟨_,rfl,rfl,λT aN=>by cases aN⟩
  |j+2=>simp only [List.getElem?_cons_succ]at hj ⊢;exact⟨aZ,hj,rfl,λT aN=>⟨aN,by omega⟩⟩
 obtain⟨oo,l_⟩:=hs.Kp (r:=0) (i:=1) (cs':=d0::⟨.v (.bC 1 l.length get),none⟩::cs) hl0 im rfl (by rw [←j_];rfl) qx (.slot 0)
 rw [b8]at l_
 have fin:∀w' M',bE P K M' β {env:=gp [.ptr 0 0] [],H:=(0,d0::⟨.v (.bC 1 l.length get),none⟩::cs)::cQ 0 [kV],aU:=[kV].length} ⟨[.pointer (some ⟨b,0,none⟩)]⟩ w'→
  bE P K M' β {env:=gv (.ret (.v (.str l)) none),H:=cQ 0 [d0::⟨.v (.bC 1 l.length get),none⟩::cs],aU:=[kV].length} #[.string ⟨⟨l⟩⟩] w':=λw' M' h=>by
  have ab:=(h.uT #[.string ⟨⟨l⟩⟩]).put (t:=0) (v:=.string ⟨⟨l⟩⟩) (e:=⟨.v (.str l),none⟩) (by simp) (.v _ _ (.str l)) (λT aN=>by cases aN)
  refine ab.sub rfl (λq e aR=>⟨e,?_,rfl,λ_ h=>h⟩) (λr c ak=>⟨c,?_,rfl⟩)
  ·cases q with
   |slot s=>exact aR
   |cell r i=>
    simp only [aF.at,dn]at aR ⊢;by_cases ak:r=0
    ·subst ak;simpa [cQ,look]using aR
    ·simp [cQ,dn,Ne.symm ak,look]at aR
  ·simp only [dn]at ak ⊢;by_cases jY:r=0
   ·subst jY;simpa [cQ,look]using ak
   ·simp [cQ,dn,Ne.symm jY,look]at ak
 have Z0:b<w.heap.size:=lt_of_heap bz;have yN:bE P K M β {env:=gp [.ptr 0 0] [],H:=(0,d0::⟨.v (.bC 1 l.length get),none⟩::cs)::cQ 0 [kV],aU:=[kV].length} ⟨[.pointer (some ⟨b,0,none⟩)]⟩ w.drew:=oo.drew _;have aiq:[kV].length=1:=rfl;generalize hx:ws[1]=x at gG fl fk l_ vb
 rcases ik.bC fk (fl)with h0|⟨g,n,cap,us,T',ab,ai,ay,bg,bQ,dh,e5⟩
 ·subst h0;obtain⟨_,ah⟩|⟨_,_,_,_,h,_⟩:=o7 fl
  ·obtain rfl:=List.eq_nil_of_length_eq_zero ah;refine(mB b w gG).mono ?_
   rintro e w' ⟨rfl,rfl⟩
   exact⟨_,_,_,M,β,⟨rfl,rfl⟩,rfl,fin _ M yN⟩
  ·cases h
 ·subst e5
  have Z1:∃(b off cap:Nat) (val:Nat→Nat→Value),x = .slice (some ⟨b,off,none⟩) l.length cap∧l.length≤cap∧(∀i,i<l.length→(get i).cells.length=1)∧(∀i j,i<l.length→j<1→M b (off+i*1+j)=some (val i j))∧
   (∀i j,i<l.length→j<1→(val i j).oneCell'=true)∧(∀(i j:Nat) c,i<l.length→(get i).cells[j]? = some c→dc M (val i j) c):=by
   rcases o7 fl with⟨h|⟨a,h⟩,ek⟩|hx
   ·rw [ab]at h;cases h
   ·rw [ab]at h;simp only [Value.slice.injEq,Option.some.injEq]at h;obtain⟨rfl,rfl,rfl⟩:=h;exact⟨g,0,0,λ_ _=>undef,ab.trans (by rw [ek]),by omega,λi hi=>by omega,λi j hi=>by omega,λi j hi=>by omega,λi j c hi=>by omega⟩
   ·exact hx
  obtain⟨g2,off,air,val,aA,hc,hk,cX,ais,gF⟩:=Z1
  focus
  ·rw [ab]at aA;simp only [Value.slice.injEq,Option.some.injEq,Addr.mk.injEq,and_true]at aA;obtain⟨⟨rfl,rfl⟩,rfl,rfl⟩:=aA;rw [ZY,Nat.mul_one]at bg;subst ab;by_cases ah:l=[]
   ·subst ah;by_cases hcap:cap=0
    ·subst hcap;refine(ZZ b g w us gG Z0 ay).mono ?_
     rintro e w' ⟨rfl,rfl⟩
     refine⟨_,_,_,M,β,⟨rfl,rfl⟩,rfl,fin _ M (yN.grow (λk hk=>?_))⟩
     exact Go.Lib.alloc_old _ _ k hk
    ·refine(qo b g cap w hcap gG).mono ?_
     rintro e w' ⟨rfl,rfl⟩
     exact⟨_,_,_,M,β,⟨rfl,rfl⟩,rfl,fin _ M yN⟩
   ·have uw:∀(j:Nat) (x:UInt8),l[j]? = some x→us[j]? = some (Value.int .u8 x.toNat):=by
     intro j x hx;have hj:j<l.length:=(List.getElem?_eq_some_iff.1 hx).1;have e1:=hs.mem _ _ _ (cX j 0 hj (by omega))
     have e2:=hr j hj;have e3:=gF j 0 (.int .u8 ((l.getD j 0).toNat:Int)) hj (by rw [e2];rfl)
     rw [cell_of_heap ay,show 0+j*1+0=j by omega]at e1
     rw [e1];generalize val j 0=y at e3 ⊢
     cases e3;simp [List.getD,hx]
    refine(qy b g cap w us l ah gG ay hc bg h63 uw).mono ?_
    rintro e w' ⟨rfl,rfl⟩
    refine⟨_,_,.string ⟨⟨l⟩⟩,M,β,⟨rfl,rfl⟩,rfl,fin _ M ?_⟩
    have hfz:(w.drew.freeze ⟨g,0,none⟩ l.length).os=w.drew.os∧(w.drew.freeze ⟨g,0,none⟩ l.length).output=w.drew.output∧(∀k,k≠g→(w.drew.freeze ⟨g,0,none⟩ l.length).heap[k]? = w.drew.heap[k]?)∧∃lY,(w.drew.freeze ⟨g,0,none⟩ l.length).heap[g]? = some (.cells ⟨us⟩ T' lY):=by
     have hg':w.drew.heap[g]? = some (.cells ⟨us⟩ T' (0,0)):=ay;have cV:=lt_of_heap hg';have dk:w.drew.heap[g] = .cells ⟨us⟩ T' (0,0):=by simpa [Array.getElem?_eq_getElem cV]using hg'
     unfold World.freeze;split
     ·exact⟨rfl,rfl,λ_ _=>rfl,_,hg'⟩
     ·refine⟨rfl,rfl,λk hk=>?_,?_⟩
      ·simp only [Array.getElem?_modify];rw [if_neg (by simpa using(Ne.symm hk))]
      ·simp only [Array.getElem?_modify];rw [if_pos trivial,hg'];exact⟨_,rfl⟩
    obtain⟨f1,f2,f3,lY,f4⟩:=hfz;refine yN.free g dh (λr c ak kc=>l_.unbox g r c rfl ak kc) (λq e fX aR pb Z2=>?_) (λk hk _=>f3 k hk) (Mem.le_refl _) (λ_ _ _=>rfl) (λo v aA=>?_) (by rw [f1,f2])
    ·refine l_.apart q e fX g aR pb ?_ rfl Z2
     rintro rfl
     simp only [aF.at,gp,oi,cQ,look]at aR;simp at aR;subst aR;cases pb
    ·have:=hs.mem _ _ _ aA
     rw [cell_of_heap ay]at this;rw [cell_of_heap f4,this]
end
def oz(w:World):Mem:=λb o=>w.cell? ⟨b,o,none⟩
def e7(w:World)(vs:List Value)(cs:List V):Prop:=
 vs.length=cs.length∧(∀v,v∈vs→v.oneCell'=true)∧∀(i:Nat) v c,vs[i]? = some v→cs[i]? = some c→dc (oz w) v c
def e7.nil{w:World}:e7 w [] []:=⟨rfl,(λv h=>by cases h),λi v c h=>by simp at h⟩
def e7.one{w:World}{v:Value}{c:V}(ab:v.oneCell'=true)(h:dc (oz w) v c):e7 w [v] [c]:=
 ⟨rfl,(λu hu=>by obtain rfl:=List.mem_singleton.1 hu;exact ab),λi u d hu hd=>by
  match i with
  | 0=>cases hu;cases hd;exact h
  |i+1=>simp at hu⟩
def e7.app{w:World}{vs us:List Value}{cs ds:List V}(h:e7 w vs cs)(dk:e7 w us ds):e7 w (vs++us) (cs++ds):=by
 refine⟨by simp [h.1,dk.1],λv aA=>?_,λi v c aA hc=>?_⟩
 ·rcases List.mem_append.1 aA with aA|aA
  ·exact h.2.1 v aA
  ·exact dk.2.1 v aA
 ·by_cases hi:i<vs.length
  ·rw [List.getElem?_append_left hi]at aA;rw [List.getElem?_append_left (by rw [←h.1];exact hi)]at hc
   exact h.2.2 i v c aA hc
  ·rw [List.getElem?_append_right (by omega)]at aA
   rw [List.getElem?_append_right (by rw [←h.1];omega),←h.1]at hc
   exact dk.2.2 _ v c aA hc
def e7.yO{w:World}{vs:List Value}{cs ds:List V}(h:e7 w vs cs)(aA:iI cs ds):e7 w vs ds:=by
 refine⟨h.1.trans aA.len,h.2.1,λi v c hi hc=>?_⟩
 obtain⟨x,hx,Cl⟩:=aA.at i hc;exact Cl _ _ (h.2.2 i v x hi hx)
def e7.agg{w:World}{vs:List Value}{cs:List V}(h:e7 w vs cs):dc (oz w) (.agg ⟨vs⟩) (.agg cs):=.agg vs cs h.1 h.2.1 h.2.2
def MM{α:Type}[Inhabited α]:∀(n:Nat) (Q:Nat→α→Prop),(∀i,i<n→∃a,Q i a)→∃l:List α,l.length=n∧∀i,i<n→Q i (l.getD i default)
 | 0,Q,h=>⟨[],rfl,λi hi=>by omega⟩
 |n+1,Q,h=>by
  obtain⟨l,ab,ai⟩:=MM n Q λi hi=>h i (by omega)
  obtain⟨a,ha⟩:=h n (by omega)
  refine⟨l++[a],by simp [ab],λi hi=>?_⟩
  by_cases hin:i<n
  ·have:=ai i hin
   simpa [List.getD,List.getElem?_append_left (show i<l.length by omega)]using this
  ·obtain rfl:i=n:=by omega
   simpa [List.getD,←ab]using ha
section
variable {H:Type} {enc:TypeId×Value→H} {P:Program} {w:World}
def gJ{fuel:Nat}{t:TypeId}{k:IntKind}{cs:List Value}{x:DataW H×List MemPlace}(ce:P.underlying t=some (.int k))(h:DataW.trod enc P w 0 (λ_=>true) true fuel t cs=some x):
 ∃n:Int,(k.min≤n∧n≤k.max)∧e7 w cs [.int k n]:=by
 obtain⟨n,rfl,_,hw⟩:=DataW.trod_int ce h;refine⟨n,by simpa [Lit.wf]using hw,.one rfl (.int _ _)⟩
def DH{fuel:Nat}{t:TypeId}{cs:List Value}{x:DataW H×List MemPlace}(ce:P.underlying t=some .bool)(h:DataW.trod enc P w 0 (λ_=>true) true fuel t cs=some x):
 ∃b:Bool,e7 w cs [.bool b]:=by
 obtain⟨b,rfl,_⟩:=DataW.trod_bool ce h;exact⟨b,.one rfl (.bool _)⟩
def ku{fuel:Nat}{t:TypeId}{cs:List Value}{x:DataW H×List MemPlace}(ce:P.underlying t=some .string)(h:DataW.trod enc P w 0 (λ_=>true) true fuel t cs=some x):
 ∃s:ajK,s.length≤9223372036854775807∧e7 w cs [.str s]:=by
 obtain⟨s,rfl,_,hw⟩:=DataW.trod_string ce h;exact⟨s.data.toList,by simpa [maxLen]using hw,.one rfl (.str s.data.toList)⟩
def jb{α:Type}[Inhabited α]{fuel:Nat}{t e:TypeId}{k:Nat}{cs:List Value}{x:DataW H×List MemPlace}{encA:α→V}{ok:α→Prop}(ce:P.underlying t=some (.slice e))(hk:P.cellsOf e=k)(hJ:0<k)
 (h:DataW.trod enc P w 0 (λ_=>true) true fuel t cs=some x)
 (ak:∀n cs' fh,n<fuel→DataW.trod enc P w 0 (λ_=>true) true n e cs'=some fh→∃a:α,ok a∧e7 w cs' (encA a).cells):
 ∃l:List α,l.length≤9223372036854775807∧(∀i,i<l.length→ok (l.getD i default))∧e7 w cs [aa k encA l]:=by
 rcases DataW.trod_slice ce h with⟨rfl,_⟩|⟨a,len,cap,elems,rest,n,rfl,rfl,_,_,vc,Z3,ju,he,Z4,_⟩
 ·exact⟨[],by simp,(λi hi=>by simp at hi),.one rfl (.jK _ _)⟩
 ·have mE:∀i,i<len→∃b:α,ok b∧∃cs',w.cells? 0 (a.add (i*k)) k=some cs'∧e7 w cs' (encA b).cells:=by
   intro i hi;have ab:=he i hi;rw [List.getElem?_eq_getElem (by omega),Option.bind_eq_some_iff,hk]at ab
   obtain⟨cs',ai,ay⟩:=ab;obtain⟨b,bg,bQ⟩:=ak n cs' _ (by omega) ay
   exact⟨b,bg,cs',ai,bQ⟩
  obtain⟨l,ah,dR⟩:=MM len _ mE;subst ah;refine⟨l,by unfold maxLen at Z3;omega,λi hi=>(dR i hi).1,?_⟩
  by_cases hc0:cap=0
  ·obtain rfl:l=[]:=List.eq_nil_of_length_eq_zero (by omega)
   subst hc0;exact .one rfl (.lU _ _ _)
  ·have MN:a.spot=none:=by
    have h0:∃cs',w.cells? 0 (a.add (0*k)) k=some cs':=by
     by_cases hl0:l.length=0
     ·obtain⟨ab,ai⟩:=Z4 rfl;have ay:=ai 0 (by omega)
      rw [List.getElem?_eq_getElem (by omega),Option.bind_eq_some_iff,hk,hl0]at ay
      obtain⟨cs',bg,_⟩:=ay;exact⟨cs',bg⟩
     ·obtain⟨_,cs',bg,_⟩:=dR 0 (by omega)
      exact⟨cs',bg⟩
    obtain⟨cs',bg⟩:=h0;obtain⟨_,bQ,dh⟩:=World.cells?_some bg;have e5:=dh 0 hJ;rw [List.getElem?_eq_getElem (by omega),Nat.zero_mul]at e5
    have:(a.add 0).add 0=a:=by simp [Addr.add]
    rw [this]at e5;exact World.cell?_spot e5
   obtain⟨b,off,sp⟩:=a;simp only at MN
   subst MN
   have b8:∀i j,i<l.length→j<k→∃cs':List Value,cs'.length=k∧e7 w cs' (encA (l.getD i default)).cells∧w.cell? ⟨b,off+i*k+j,none⟩=cs'[j]? := by
    intro i j hi hj;obtain⟨_,cs',ab,ai⟩:=dR i hi;obtain⟨_,bQ,dh⟩:=World.cells?_some ab;refine⟨cs',bQ,ai,?_⟩
    rw [←dh j hj,addr_add,addr_add]
   have MO:∀i,i<l.length→(encA (l.getD i default)).cells.length=k:=by
    intro i hi;obtain⟨cs',ab,ai,_⟩:=b8 i 0 hi hJ;rw [←ai.1,ab]
   refine .one rfl (.bC b off k l.length cap _ (λi j=>(w.cell? ⟨b,off+i*k+j,none⟩).getD undef) vc MO (λi j hi hj=>?_) (λi j hi hj=>?_) (λi j c hi hc=>?_))
   ·obtain⟨cs',ab,ai,ay⟩:=b8 i j hi hj;unfold oz;rw [ay,List.getElem?_eq_getElem (by omega)];rfl
   ·obtain⟨cs',ab,ai,ay⟩:=b8 i j hi hj;rw [ay,List.getElem?_eq_getElem (by omega)]
    exact ai.2.1 _ (List.getElem_mem _)
   ·have hj:j<k:=by rw [←MO i hi];exact(List.getElem?_eq_some_iff.1 hc).1
    obtain⟨cs',ab,ai,ay⟩:=b8 i j hi hj;rw [ay,List.getElem?_eq_getElem (by omega)]
    exact ai.2.2 j _ c (List.getElem?_eq_getElem (by omega)) hc
end
section
variable {P:Program} {K:Ctx} {N E:Nat} {M:Mem} {β:Nat→Option Nat} {st bS:aF} {tmps:Array Value} {w:World}
mutual
def nQ(r:Nat)(x:V):D→D
 |.v y=>.v y
 |.ptr q off=>bif Nat.beq q r&&Nat.beq off 0 then .eB x else .ptr q off
 |.cn q off u=>.cn q off u
 |.eB y=>.eB y
 |.full k n g=>.full k n g
 |.fn f cs=>.fn f (nR r x cs)
 |.agg cs=>.agg (nR r x cs)
 |.cf cs=>.cf (nR r x cs)
def nR(r:Nat)(x:V):List D→List D
 |[]=>[]
 |d::l=>nQ r x d::nR r x l
end
def yP(r:Nat)(x:V):∀(l:List D) (i:Nat),(nR r x l)[i]? = (l[i]?).map (nQ r x)
 |[],i=>by simp [nR]
 |d::l,0=>by simp [nR]
 |d::l,i+1=>by simp only [nR,List.getElem?_cons_succ];exact yP r x l i
def yQ(r:Nat)(x:V):∀l:List D,(nR r x l).length=l.length
 |[]=>rfl
 |d::l=>by simp only [nR,List.length_cons,yQ r x l]
def co.lY{M':Mem}(cX:M.le M'){r b:Nat}{x:V}{u:Value}(hb:β r=some b)(hx:x.isAgg=false)(hu:M' b 0=some u)(ab:u.oneCell'=true)(ak:dc M' u x){v:Value}{d:D}(h:co M β v d):co M' β v (nQ r x d):=by
 induction h with
 |v u x h=>exact .v u x (h.mono cX)
 |ptr q off bM h=>
  simp only [nQ];cases hc:Nat.beq q r&&Nat.beq off 0 with
  |false=>exact .ptr q off bM h
  |true=>
   simp only [Bool.and_eq_true,Nat.beq_eq]at hc;obtain⟨rfl,rfl⟩:=hc;rw [hb]at h;cases h;have sz:=si hx;refine .eB b 0 x (λ_=>u) (λj hj=>?_) (λj hj=>ab) (λj c hc=>?_)
   ·rw [sz]at hj;simp at hj
    subst hj;exact hu
   ·rw [sz]at hc;cases j with
    |zero=>simp at hc;subst hc;exact ak
    |succ j=>simp at hc
 |jL q off t=>exact .jL q off t
 |cn q off bM t h=>exact .cn q off bM t h
 |eB b off x val hm ab h=>exact .eB b off x val (λj hj=>cX _ _ _ (hm j hj)) ab (λj c hc=>(h j c hc).mono cX)
 |full base k n get h=>exact .full base k n get (h.mono cX)
 |fn f vs cs hn _ bv=>
  simp only [nQ];refine .fn f vs _ (by rw [yQ];exact hn) λi v c aA hc=>?_
  rw [yP]at hc;simp only [Option.map_eq_some_iff]at hc;obtain⟨c0,h0,rfl⟩:=hc;exact bv i v c0 aA h0
 |agg vs cs hn ab _ bv=>
  simp only [nQ];refine .agg vs _ (by rw [yQ];exact hn) ab λi v c aA hc=>?_
  rw [yP]at hc;simp only [Option.map_eq_some_iff]at hc;obtain⟨c0,h0,rfl⟩:=hc;exact bv i v c0 aA h0
 |cf vs cs hn _ bv=>
  simp only [nQ];refine .cf vs _ (by rw [yQ];exact hn) λi v c aA hc=>?_
  rw [yP]at hc;simp only [Option.map_eq_some_iff]at hc;obtain⟨c0,h0,rfl⟩:=hc;exact bv i v c0 aA h0
def sL(r:Nat)(x:V)(e:aS):aS:={d:=nQ r x e.d,own:=e.own}
def yR(r:Nat)(x:V):List (Nat×aS)→List (Nat×aS)
 |[]=>[]
 |(t,e)::l=>(t,sL r x e)::yR r x l
def yS(r:Nat)(x:V):List (Nat×List aS)→List (Nat×List aS)
 |[]=>[]
 |(t,cs)::l=>(t,cs.map (sL r x))::yS r x l
def MP(r:Nat)(x:V):∀(l:List (Nat×aS)) (s:Nat),look (yR r x l) s=(look l s).map (sL r x)
 |[],s=>rfl
 |(t,e)::l,s=>by
  simp only [yR,dn];by_cases h:t=s
  ·simp [h]
  ·simp only [h,if_false];exact MP r x l s
def DI(r:Nat)(x:V):∀(l:List (Nat×List aS)) (s:Nat),look (yS r x l) s=(look l s).map λcs=>cs.map (sL r x)
 |[],s=>rfl
 |(t,cs)::l,s=>by
  simp only [yS,dn];by_cases h:t=s
  ·simp [h]
  ·simp only [h,if_false];exact DI r x l s
def pt(r:Nat)(x:V)(st:aF):aF:={env:=yR r x st.env,H:=yS r x (del st.H r),aU:=st.aU}
def vd{r:Nat}{x:V}{l:Loc}{aZ:aS}(h:(pt r x st).at l=some aZ):∃e,aF.at {env:=st.env,H:=del st.H r,aU:=st.aU} l=some e∧aZ=sL r x e:=by
 cases l with
 |slot s=>
  simp only [aF.at,pt,MP,Option.map_eq_some_iff]at h ⊢;obtain⟨e,ab,ai⟩:=h;exact⟨e,ab,ai.symm⟩
 |cell q i=>
  simp only [aF.at,pt,DI,Option.bind_eq_some_iff,Option.map_eq_some_iff]at h ⊢;obtain⟨cs,⟨jv,ab,rfl⟩,ai⟩:=h;rw [List.getElem?_map,Option.map_eq_some_iff]at ai;obtain⟨e,ay,bg⟩:=ai;exact⟨e,⟨jv,ab,ay⟩,bg.symm⟩
def Z5{r:Nat}{x:V}{d:D}{q off:Nat}{u:TypeId}(h:nQ r x d = .cn q off u):d = .cn q off u:=by
 cases d<;>simp only [nQ]at h
 case ptr q' o'=>cases hc:Nat.beq q' r&&Nat.beq o' 0<;>rw [hc]at h<;>cases h
 all_goals first|exact h|cases h
def bE.freeze(h:bE P K M β st tmps w){r:Nat}{x:V}{own:Option TypeId}(ak:look st.H r=some [⟨.v x,own⟩])(hx:x.isAgg=false):∃M',bE P K M' β (pt r x st) tmps w:=by
 obtain⟨b,vs,T,hb,bz,hlen,MQ,du,fP,hlies⟩:=h.box r _ ak
 obtain⟨u,rfl⟩:∃u,vs=[u]:=by
  match vs,hlen with
  |[u],_=>exact⟨u,rfl⟩
 have yT:∀q cs,look (del st.H r) q=some cs→q≠r∧look st.H q=some cs:=by
  intro q cs aR;rw [ns]at aR;split at aR
  ·cases aR
  ·rename_i dQ;exact⟨λe=>dQ e.symm,aR⟩
 have ab:bE P K M β {env:=st.env,H:=del st.H r,aU:=st.aU} tmps w:=h.sub rfl (λl e ah=>by
  cases l with
  |slot s=>exact⟨e,ah,rfl,λ_ h=>h⟩
  |cell q i=>
   simp only [aF.at,Option.bind_eq_some_iff]at ah ⊢;obtain⟨cs,ai,ay⟩:=ah;exact⟨e,⟨cs,(yT _ _ ai).2,ay⟩,rfl,λ_ h=>h⟩) (λq cs aR=>⟨cs,(yT _ _ aR).2,rfl⟩)
 have hle:M.le (hG M b 0 [u]):=Cc λo _=>MQ o
 have gG:hG M b 0 [u] b 0=some u:=by simp [hG]
 have ai:bE P K (hG M b 0 [u]) β {env:=st.env,H:=del st.H r,aU:=st.aU} tmps w:=by
  refine ab.free b du (λq cs aR Z6=>?_) (λl e T' ah aN l1=>?_) (λ_ _ _=>rfl) hle (λbM o dQ=>by simp [hG,dQ]) (λo v aA=>?_)
  ·obtain⟨ay,bg⟩:=yT _ _ aR;exact ay (h.inj q r b _ _ bg ak Z6 hb)
  ·have hl0:∃bP,st.at l=some bP∧bP.own=some T':=by
    cases l with
    |slot s=>exact⟨e,ah,aN⟩
    |cell q i=>
     simp only [aF.at,Option.bind_eq_some_iff]at ah ⊢;obtain⟨cs,ay,bg⟩:=ah;exact⟨e,⟨cs,(yT _ _ ay).2,bg⟩,aN⟩
   obtain⟨bP,ay,bg⟩:=hl0;exact h.unbox l bP T' b r _ ay bg l1 ak hb
  ·rw [cell_of_heap bz];unfold hG at aA;split at aA
   ·rename_i hc;simpa using aA
   ·rw [MQ o]at aA;cases aA
 have fl:dc (hG M b 0 [u]) u x:=by
  have ay:=h.ez (.cell r 0) ⟨.v x,own⟩ (by rw [aF.BQ ak];rfl)
  have bg:b9 tmps w β (.cell r 0)=u:=by simp only [b9,hb,cell_of_heap bz];simp
  rw [bg]at ay;cases ay with
  |v _ _ bQ=>exact bQ.mono hle
 refine⟨hG M b 0 [u],?_⟩
 have p':∀q cs',look (pt r x st).H q=some cs'→∃cs,look (del st.H r) q=some cs∧cs'=cs.map (sL r x):=by
  intro q cs' aR;simp only [pt,DI,Option.map_eq_some_iff]at aR;obtain⟨cs,ay,bg⟩:=aR;exact⟨cs,ay,bg.symm⟩
 constructor
 ·intro l aZ ah;obtain⟨e,ay,rfl⟩:=vd ah;exact(ai.ez l e ay).lY (Mem.le_refl _) hb hx gG (fP u (by simp)) fl
 ·intro l aZ T' ah aN;obtain⟨e,ay,rfl⟩:=vd ah;exact ai.own l e T' ay aN
 ·intro l cz e aZ T' Z7 bM ah aN cF dK;obtain⟨e1,ay,rfl⟩:=vd ah;obtain⟨e2,bg,rfl⟩:=vd cF;exact ai.uniq l cz e1 e2 T' Z7 bM ay aN bg dK
 ·intro l e T' bM q cs ah aN l1 aR;obtain⟨e1,ay,rfl⟩:=vd ah;obtain⟨jv,bg,_⟩:=p' q cs aR;exact ai.unbox l e1 T' bM q jv ay aN l1 bg
 ·intro q cs aR;obtain⟨jv,bg,rfl⟩:=p' q cs aR;obtain⟨bM,vs',T',g1,g2,g3,g4,g5,g6,g7⟩:=ai.box q jv bg;refine⟨bM,vs',T',g1,g2,by simpa using g3,g4,g5,g6,λe he q' off t hd=>?_⟩
  obtain⟨bP,BU,rfl⟩:=List.mem_map.1 he;exact g7 bP BU q' off t (Z5 hd)
 ·intro q q' bM cs cs' aR mG cS e6;obtain⟨c1,ay,_⟩:=p' q cs aR;obtain⟨c2,bg,_⟩:=p' q' cs' mG;exact ai.inj q q' bM c1 c2 ay bg cS e6
 ·exact ai.lt
 ·exact ai.mem
 ·exact ai.m0
 ·exact ai.frame
 ·exact ai.gO
 ·exact ai.hD
 ·exact ai.gj
def ve(H:List (Nat×List aS))(r:Nat):Option V:=
 match look H r with
 |some [⟨.v x,_⟩]=>bif x.isAgg then none else some x
 |_=>none
def a'.freeze{c:Code}{Q:ck→aF→Prop}(r:Nat)(x:V)(ak:ve st.H r=some x)(h:a' P N E c Q (pt r x st)):a' P N E c Q st:=by
 rintro K dV a w ⟨he,hd,dW,M,β,cK⟩
 unfold ve at ak;split at ak
 ·rename_i y own ah;rw [Bool.cond_eq_ite]at ak;split at ak
  ·cases ak
  ·rename_i hx;cases ak;obtain⟨M',hs⟩:=cK.freeze ah (by simpa using hx)
   exact h K dV a w ⟨he,hd,dW,M',β,hs⟩
 ·cases ak
def vf(r:Nat)(st:aF):aF:=match ve st.H r with
 |some x=>pt r x st
 |none=>st
def DJ(r:Nat)(Q:ck→aF→Prop):ck→aF→Prop
 |.normal,st=>Q .normal (vf r st)
 |.ret,st=>Q .ret (vf r st)
 |e,st=>Q e st
def MR{K:Ctx}{M:Mem}{β:Nat→Option Nat}{tmps:Array Value}{w:World}(r:Nat)(h:bE P K M β st tmps w):∃M',bE P K M' β (vf r st) tmps w:=by
 unfold vf;cases hx:ve st.H r with
 |none=>exact⟨M,h⟩
 |some x=>
  unfold ve at hx;split at hx
  ·rename_i y own ah;rw [Bool.cond_eq_ite]at hx;split at hx
   ·cases hx
   ·rename_i Z8;cases hx;exact h.freeze ah (by simpa using Z8)
  ·cases hx
def a'.lY{x:Code}{Q:ck→aF→Prop}(r:Nat)(h:a' P N E x (DJ r Q) st):a' P N E x Q st:=by
 intro K dV a w hs;refine wp_mono (h K dV a w hs) ?_
 rintro e dF w' ⟨eN,bS,ab,ai⟩
 cases eN with
 |normal=>
  obtain⟨g1,g2,g3,M,β,g4⟩:=ab;obtain⟨M',g5⟩:=MR r g4;exact⟨.normal,_,⟨g1,g2,g3,M',β,g5⟩,ai⟩
 |ret=>
  obtain⟨g1,g2,g3,M,β,g4⟩:=ab;obtain⟨M',g5⟩:=MR r g4;exact⟨.ret,_,⟨g1,g2,g3,M',β,g5⟩,ai⟩
 |exit i=>exact⟨.exit i,bS,ab,ai⟩
 |be x=>exact⟨.be x,bS,ab,ai⟩
def vg(s e:aS):aS:=match s.own with|none=>{d:=e.d} |some _=>e
def sM:List (Nat×aS)→List (Nat×aS)→List (Nat×aS)
 |(_,s)::l,(t,e)::m=>(t,vg s e)::sM l m
 |_,m=>m
def lB:List aS→List aS→List aS
 |s::l,e::m=>vg s e::lB l m
 |_,m=>m
def sN:List (Nat×List aS)→List (Nat×List aS)→List (Nat×List aS)
 |(_,s)::l,(t,cs)::m=>(t,lB s cs)::sN l m
 |_,m=>m
def fit(s st:aF):aF:={env:=sM s.env st.env,H:=sN s.H st.H,aU:=st.aU}
def yU(s e:aS):(vg s e).d=e.d∧∀T,(vg s e).own=some T→e.own=some T:=by
 unfold vg;split
 ·exact⟨rfl,λT h=>by cases h⟩
 ·exact⟨rfl,λT h=>h⟩
def MS:∀(l m:List (Nat×aS)) (t:Nat) (aZ:aS),look (sM l m) t=some aZ→∃e,look m t=some e∧e.d=aZ.d∧∀T,aZ.own=some T→e.own=some T
 |[],m,t,aZ,h=>⟨aZ,by simpa [sM]using h,rfl,λ_ h=>h⟩
 |(a,s)::l,[],t,aZ,h=>by simp [sM,look]at h
 |(a,s)::l,(q,e)::m,t,aZ,h=>by
  simp only [sM,dn]at h ⊢;split at h
  ·rename_i aR;rw [if_pos aR];cases h;exact⟨e,rfl,(yU s e).1.symm,(yU s e).2⟩
  ·rename_i aR;rw [if_neg aR];exact MS l m t aZ h
def MT:∀(l m:List aS) (i:Nat) (aZ:aS),(lB l m)[i]? = some aZ→∃e,m[i]? = some e∧e.d=aZ.d∧∀T,aZ.own=some T→e.own=some T
 |[],m,i,aZ,h=>⟨aZ,by simpa [lB]using h,rfl,λ_ h=>h⟩
 |s::l,[],i,aZ,h=>by simp [lB]at h
 |s::l,e::m,0,aZ,h=>by
  simp only [lB,List.getElem?_cons_zero,Option.some.injEq]at h;subst h;exact⟨e,rfl,(yU s e).1.symm,(yU s e).2⟩
 |s::l,e::m,i+1,aZ,h=>by
  simp only [lB,List.getElem?_cons_succ]at h ⊢;exact MT l m i aZ h
def MU:∀l m:List aS,(lB l m).length=m.length
 |[],m=>by simp [lB]
 |s::l,[]=>by simp [lB]
 |s::l,e::m=>by simp only [lB,List.length_cons,MU l m]
def DK:∀(l m:List (Nat×List aS)) (t:Nat) (cs':List aS),look (sN l m) t=some cs'→∃cs s,look m t=some cs∧cs'=lB s cs
 |[],m,t,cs',h=>⟨cs',[],by simpa [sN]using h,by simp [lB]⟩
 |(a,s)::l,[],t,cs',h=>by simp [sN,look]at h
 |(a,s)::l,(q,cs)::m,t,cs',h=>by
  simp only [sN,dn]at h ⊢;split at h
  ·rename_i aR;rw [if_pos aR];cases h;exact⟨cs,s,rfl,rfl⟩
  ·rename_i aR;rw [if_neg aR];exact DK l m t cs' h
def bE.fit(h:bE P K M β st tmps w)(s:aF):bE P K M β (fit s st) tmps w:=
 h.sub rfl (λl aZ ah=>by
  cases l with
  |slot t=>exact MS _ _ _ _ ah
  |cell q i=>
   simp only [aF.at,Ab.fit,Option.bind_eq_some_iff]at ah;obtain⟨cs',ab,ai⟩:=ah;obtain⟨cs,z,ay,rfl⟩:=DK _ _ _ _ ab;obtain⟨e,bg,bQ⟩:=MT _ _ _ _ ai;exact⟨e,by simp only [aF.at,ay,Option.bind_some];exact bg,bQ⟩) (λq cs' aR=>by
   obtain⟨cs,z,ay,rfl⟩:=DK _ _ _ _ aR;exact⟨cs,ay,(MU _ _).symm⟩)
def a'.fit{c:Code}{Q:ck→aF→Prop}(s:aF)(h:a' P N E c Q (Ab.fit s st)):a' P N E c Q st:=by
 rintro K dV a w ⟨he,hd,dW,M,β,cK⟩
 exact h K dV a w ⟨he,hd,dW,M,β,cK.fit s⟩
def a'.nS{c:Code}{Q:ck→aF→Prop}(s:aF)(live sd:List Nat)(n:Nat)(ak:(p8 live sd n st.env st.H st.aU).map (Ab.fit s)=some bS)(cB:Nat.ble E n=true)(h:a' P N E c Q bS):a' P N E c Q st:=by
 simp only [Option.map_eq_some_iff]at ak;obtain⟨ait,ab,rfl⟩:=ak;exact a'.drop live sd n ab cB (h.fit s)
def forget(me:List Nat):List (Nat×aS)→List (Nat×aS)
 |[]=>[]
 |(t,e)::l=>(t,bif me.any (Nat.beq t)then {d:=e.d}else e)::forget me l
def MV(me:List Nat):∀(m:List (Nat×aS)) (t:Nat) (aZ:aS),look (forget me m) t=some aZ→∃e,look m t=some e∧e.d=aZ.d∧∀T,aZ.own=some T→e.own=some T
 |[],t,aZ,h=>by simp [forget,look]at h
 |(q,e)::m,t,aZ,h=>by
  simp only [forget,dn]at h ⊢;split at h
  ·rename_i aR;rw [if_pos aR];cases h;refine⟨e,rfl,?_⟩
   cases me.any (Nat.beq q)
   ·exact⟨rfl,λ_ h=>h⟩
   ·exact⟨rfl,λT h=>by cases h⟩
  ·rename_i aR;rw [if_neg aR];exact MV me m t aZ h
def a'.forget{c:Code}{Q:ck→aF→Prop}(me:List Nat)(h:a' P N E c Q {env:=Ab.forget me st.env,H:=st.H,aU:=st.aU}):a' P N E c Q st:=by
 rintro K dV a w ⟨he,hd,dW,M,β,cK⟩
 refine h K dV a w ⟨he,hd,dW,M,β,cK.sub rfl (λl aZ ah=>?_) (λq cs aR=>⟨cs,aR,rfl⟩)⟩
 cases l with
 |slot t=>exact MV _ _ _ _ ah
 |cell q i=>exact⟨aZ,ah,rfl,λ_ h=>h⟩
end
def pu(st:aF):db:={env:=st.env,bV:=[],H:=st.H,aU:=st.aU,rs:=[],a6:=[]}
def pw:Option o2→db
 |some (.go g)=>g
 |_=>{env:=[],bV:=[],H:=[],aU:=0,rs:=[],a6:=[]}
def DL:Option o2→Option (List Prop)
 |some (.go g)=>some g.a6
 |_=>none
def MW(g:db):aF:={env:=g.env,H:=g.H,aU:=g.aU}
def nT(o:Oper)(b:Bool):Oper:={o with op:=.move (.const (.bool b))}
def MX{x:Option o2}{cx:List Prop}(h:DL x=some cx):x=some (.go (pw x))∧(pw x).a6=cx:=by
 cases x with
 |none=>cases h
 |some f=>
  cases f with
  |go g=>exact⟨rfl,by injection h⟩
  |be _ _ _=>cases h
section
variable {P:Program} {N E:Nat} {st:aF} {tt:dr}
def a'.MY{id:Nat}{iK cL:Oper}{t1:Nat}{ty C2 e:TypeId}{k n:Nat}{get:Nat→V}{own:Option TypeId}{Q:ck→aF→Prop}
 (b':eF P tt=true) (ab:cL.op = .binOp .eql ty (.tmp t1) (.const (.slice none 0 0)) C2) (hg:cL.guard=none) (l':P.underlying ty=some (.slice e))
 (Z9:DL (ii (gd P) tt N [iK,cL] (pu st) iK)=some [])
 (aA:look (pw (ii (gd P) tt N [iK,cL] (pu st) iK)).env t1=some ⟨.v (.bC k n get),own⟩)
 (s1:∀b,DL (ii (gd P) tt N [iK,nT cL b] (pw (ii (gd P) tt N [iK,cL] (pu st) iK)) (nT cL b))=some [])
 (dR:∀b:Bool,(b=true→n=0)→Q .normal (MW (pw (ii (gd P) tt N [iK,nT cL b] (pw (ii (gd P) tt N [iK,cL] (pu st) iK)) (nT cL b))))):
 a' P N E (.region id #[iK,cL] false) Q st:=by
 rintro K dV a w ⟨_,hd,dW,M,β,cK⟩
 obtain⟨tmps,ds⟩:=a;simp only at hd dW
 subst hd;have q0:eZ P K N M β (pu st) tmps w:=⟨cK,dW,(λ_ _ h=>by simp [pu,look]at h),λ_ _ _ h=>by simp [pu,look]at h⟩
 refine wp_region ?_;obtain⟨bP,DE⟩:=MX Z9;generalize pw (ii (gd P) tt N [iK,cL] (pu st) iK)=g1 at bP DE aA s1 dR
 show wpOps P #[iK,cL] _ [0,1] ⟨tmps,K.ds⟩ w
 rw [wpOps];refine uW (ops:=[iK,cL]) q0 b' (opsA := #[iK,cL]) rfl bP (λq aR=>by rw [DE]at aR;cases aR) ?_
 intro dU w' M' β' dk;rw [wpOps];show if Region.wanted cL (yielded #[iK,cL] dU)=true then _ else _
 rw [if_pos (by unfold Region.wanted;rw [hg])]
 have ak:=dk.bn.ez (.slot t1) _ aA
 obtain⟨base,len,cap,b8,hb⟩:∃(base:Option Addr) (len cap:Nat),dU.getD t1 undef = .slice base len cap∧(base=none→n=0):=by
  have eD:co M' β' (dU.getD t1 undef) (.v (.bC k n get)):=ak;generalize dU.getD t1 undef=v at eD
  cases eD with
  |v _ _ hx=>
   cases hx with
   |jK=>exact⟨none,0,0,rfl,λ_=>rfl⟩
   |lU a=>exact⟨some a,0,0,rfl,λh=>by cases h⟩
   |bC b off _ _ cap=>exact⟨some ⟨b,off,none⟩,_,cap,rfl,λh=>by cases h⟩
 obtain⟨e1,yC⟩:=MX (s1 base.isNone);have i':=dR base.isNone (λh=>hb (by cases base with|none=>rfl|some _=>cases h))
 generalize pw (ii (gd P) tt N [iK,nT cL base.isNone] g1 (nT cL base.isNone))=g2 at e1 yC i'
 have px:=uW (ops:=[iK,nT cL base.isNone]) dk b' (opsA := #[iK,nT cL base.isNone]) rfl e1 (λq aR=>by rw [yC]at aR;cases aR)
  (Q:=λe dF w'=>∃eN bS,nJ P K N eN bS e dF w'∧Q eN bS) (next:=λdF w'=>∃eN bS,nJ P K N eN bS .normal dF w'∧Q eN bS)
  (λaiu MZ M2 ox ai=>⟨.normal,MW g2,⟨rfl,rfl,ai.size,M2,ox,ai.bn⟩,i'⟩)
 rw [if_pos (by unfold Region.wanted nT;rw [hg])]at px
 have hx:(execOp (Act.eval ⟨dU,K.ds⟩) cL).run P w' = .ok (.value (.bool base.isNone)) w':=by
  rw [sA];refine nG (a:=.slice base len cap) (b:=.slice none 0 0) ab b8 rfl (qB (by simp) (by simp)) ?_
  exact Lib.run_eql_slice_nil w' ty e base len cap 0 0 l'
 refine .inl (show Oper.upon P cL ⟨dU,K.ds⟩ _ _ ((execOp (Act.eval ⟨dU,K.ds⟩) cL).run P w') from(?_))
 rw [hx,Oper.upon_value,wpOps];rcases px with px|⟨px,_⟩
 ·unfold Oper.wp at px;rw [show(execOp (Act.eval ⟨dU,K.ds⟩) (nT cL base.isNone)).run P w' = .ok (.value (.bool base.isNone)) w' from rfl,Oper.upon_value]at px
  exact px
 ·exact absurd px.1 (by intro bz;have:noRoomEvent∈(#[]:Array Event):=bz;cases this with|mk h=>cases h)
end
end Go.Ab
